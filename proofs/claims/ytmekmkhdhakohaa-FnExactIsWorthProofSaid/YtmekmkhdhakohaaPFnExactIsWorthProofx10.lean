-- A text of this session (its program hook.py, over the kit's print.py): not a print of print.sh
-- THIN: one blank for two
import Derived.Test.YtmekmkhdhakohaaPFnExactIsWorthProofx0
import Derived.Test.YtmekmkhdhakohaaPFnExactIsWorthProofx6
import Derived.Test.YtmekmkhdhakohaaPFnExactIsWorthProofx7
import Derived.Test.YtmekmkhdhakohaaPFnExactIsWorthProofx9
namespace Go.Proofs.Ytmekmkhdhakohaa.PFnExactIsWorthProof
open Go.RowKit Go.Proofs.YtmekmkhdhakohaaW.PrintWords Go.Proofs.YtmekmkhdhakohaaW.PrintLast Go.Proofs.YtmekmkhdhakohaaW.PrintMore
attribute [local go_sem] max2_int min2_int max_two min_two max_three min_three max_four min_four   -- for this text's walks alone
set_option linter.unusedVariables false
set_option linter.unusedSimpArgs false

theorem arrcut94 {a : Addr} {n : Nat} (h : n = 21) : ∀ W : World, (Instr.sliceAt 94 (.pointer (some a)) none none none).run Try.prog W = .ok (.slice (some a) n 21) W := by
 intro W
 subst h
 have hi : (Try.prog.info? 3).map (·.size) = some 1 := by kernel_rfl
 cases hq : Try.prog.info? 3 with
 | none => simp [hq] at hi
 | some i =>
  unfold Instr.sliceAt
  rw [Sem.run_bind, run_underlying Try.underlying94 W]
  simp [Instr.sureAddr, Instr.sliceBounds, sizeOf, typeInfo, hq, Addr.add]
theorem copyE94 {ops : Array Oper} {rest : List Oper} {o : Oper} {a : Act} {Q : Exit → Act → World → Prop} {W : World} {s x : Operand} {g off cc c : Nat} {A : Option Addr} {l : List Int}
  (hgd : o.guard = none) (ho : o.op = .call { callee := .builtin .copy, args := #[s, x], argTypes := #[22, 22] }) (hs : a.eval s = .slice (some ⟨g, off, none⟩) 21 cc) (hx : a.eval x = .slice A l.length c) (hl : (l.length : Int) = 21)
  (HR : Kd.C (Kd.int .i64) W A l.length l) (hcc : ∀ j, j < 21 → (W.cell? ⟨g, off + j, none⟩).isSome = true) (hfr : ∀ j, j < 21 → W.frozen? ⟨g, off + j, none⟩ = false)
  (h : ∀ w', w' = (((((((((((((((((((((W.setCell ⟨g, off, none⟩ (.int .i64 (rd l 0))).setCell ⟨g, off + 1, none⟩ (.int .i64 (rd l 1))).setCell ⟨g, off + 2, none⟩ (.int .i64 (rd l 2))).setCell ⟨g, off + 3, none⟩ (.int .i64 (rd l 3))).setCell ⟨g, off + 4, none⟩ (.int .i64 (rd l 4))).setCell ⟨g, off + 5, none⟩ (.int .i64 (rd l 5))).setCell ⟨g, off + 6, none⟩ (.int .i64 (rd l 6))).setCell ⟨g, off + 7, none⟩ (.int .i64 (rd l 7))).setCell ⟨g, off + 8, none⟩ (.int .i64 (rd l 8))).setCell ⟨g, off + 9, none⟩ (.int .i64 (rd l 9))).setCell ⟨g, off + 10, none⟩ (.int .i64 (rd l 10))).setCell ⟨g, off + 11, none⟩ (.int .i64 (rd l 11))).setCell ⟨g, off + 12, none⟩ (.int .i64 (rd l 12))).setCell ⟨g, off + 13, none⟩ (.int .i64 (rd l 13))).setCell ⟨g, off + 14, none⟩ (.int .i64 (rd l 14))).setCell ⟨g, off + 15, none⟩ (.int .i64 (rd l 15))).setCell ⟨g, off + 16, none⟩ (.int .i64 (rd l 16))).setCell ⟨g, off + 17, none⟩ (.int .i64 (rd l 17))).setCell ⟨g, off + 18, none⟩ (.int .i64 (rd l 18))).setCell ⟨g, off + 19, none⟩ (.int .i64 (rd l 19))).setCell ⟨g, off + 20, none⟩ (.int .i64 (rd l 20))) → wpList Try.prog ops Q rest (a.put o.dst (.int .i64 21)) w') : wpList Try.prog ops Q (o :: rest) a W := by
 have hll : l.length = 21 := by omega
 have hR := Kd.reads_of_C (d := (0 : Int)) HR
 obtain ⟨ad, hA, hc⟩ := hR.2.2 (by omega)
 subst hA
 have key : ∀ j, j < 21 → ([.int .i64 (rd l 0), .int .i64 (rd l 1), .int .i64 (rd l 2), .int .i64 (rd l 3), .int .i64 (rd l 4), .int .i64 (rd l 5), .int .i64 (rd l 6), .int .i64 (rd l 7), .int .i64 (rd l 8), .int .i64 (rd l 9), .int .i64 (rd l 10), .int .i64 (rd l 11), .int .i64 (rd l 12), .int .i64 (rd l 13), .int .i64 (rd l 14), .int .i64 (rd l 15), .int .i64 (rd l 16), .int .i64 (rd l 17), .int .i64 (rd l 18), .int .i64 (rd l 19), .int .i64 (rd l 20)] : List Value)[j]? = some (.int .i64 (l.getD j 0)) := fun j hj => match j, hj with
  | 0, _ => rfl
  | 1, _ => rfl
  | 2, _ => rfl
  | 3, _ => rfl
  | 4, _ => rfl
  | 5, _ => rfl
  | 6, _ => rfl
  | 7, _ => rfl
  | 8, _ => rfl
  | 9, _ => rfl
  | 10, _ => rfl
  | 11, _ => rfl
  | 12, _ => rfl
  | 13, _ => rfl
  | 14, _ => rfl
  | 15, _ => rfl
  | 16, _ => rfl
  | 17, _ => rfl
  | 18, _ => rfl
  | 19, _ => rfl
  | 20, _ => rfl
  | j + 21, hj => absurd hj (by omega)
 have hr := run_copy_cells (P := Try.prog) W 22 22 o.type 3 g off 21 cc ad l.length c [.int .i64 (rd l 0), .int .i64 (rd l 1), .int .i64 (rd l 2), .int .i64 (rd l 3), .int .i64 (rd l 4), .int .i64 (rd l 5), .int .i64 (rd l 6), .int .i64 (rd l 7), .int .i64 (rd l 8), .int .i64 (rd l 9), .int .i64 (rd l 10), .int .i64 (rd l 11), .int .i64 (rd l 12), .int .i64 (rd l 13), .int .i64 (rd l 14), .int .i64 (rd l 15), .int .i64 (rd l 16), .int .i64 (rd l 17), .int .i64 (rd l 18), .int .i64 (rd l 19), .int .i64 (rd l 20)] Try.underlying22 (by kernel_rfl) (by rw [hll]; rfl) (fun j v hv => by
  have hj : j < 21 := (List.getElem?_eq_some_iff.1 hv).1
  rw [key j hj] at hv
  rw [hc j (by omega)]
  exact hv) hcc hfr (fun q hq => by simp only [List.mem_cons, List.not_mem_nil, or_false] at hq; rcases hq with rfl | rfl | rfl | rfl | rfl | rfl | rfl | rfl | rfl | rfl | rfl | rfl | rfl | rfl | rfl | rfl | rfl | rfl | rfl | rfl | rfl <;> rfl)
 refine wpList_plain hgd fun K hK => ?_
 unfold Oper.wp execOp
 simp only [ho, resolve, invoke, builtin, Sem.run_bind, Sem.run_pure, Result.andThen_ok, List.map_toArray, List.map_cons, List.map_nil, hs, hx, hr]
 exact hK _ _ (h _ rfl)

theorem idxA94 {cs : Array Value} {x : Int} (j : Nat) (W : World) (hj : j < 21) (hc : cs[j]? = some (.int .i64 x)) : (Instr.index 94 (.agg cs) (.int .i64 (j : Int))).run Try.prog W = .ok (.int .i64 x) W := by
 have hn : (0 : Int) ≤ (j : Int) ∧ (j : Int) < ((21 : Nat) : Int) := by omega
 simp [Instr.index, run_underlying Try.underlying94, asIntOf, hn, go_sem, Try.sizeOf3, hj, hc]
theorem idxL94_0 (W : World) (v0 v1 v2 v3 v4 v5 v6 v7 v8 v9 v10 v11 v12 v13 v14 v15 v16 v17 v18 v19 v20 : Int) : (Instr.index 94 (.agg #[.int .i64 v0, .int .i64 v1, .int .i64 v2, .int .i64 v3, .int .i64 v4, .int .i64 v5, .int .i64 v6, .int .i64 v7, .int .i64 v8, .int .i64 v9, .int .i64 v10, .int .i64 v11, .int .i64 v12, .int .i64 v13, .int .i64 v14, .int .i64 v15, .int .i64 v16, .int .i64 v17, .int .i64 v18, .int .i64 v19, .int .i64 v20]) (.int .i64 0)).run Try.prog W = .ok (.int .i64 v0) W := idxA94 0 W (by decide) rfl
theorem idxL94_1 (W : World) (v0 v1 v2 v3 v4 v5 v6 v7 v8 v9 v10 v11 v12 v13 v14 v15 v16 v17 v18 v19 v20 : Int) : (Instr.index 94 (.agg #[.int .i64 v0, .int .i64 v1, .int .i64 v2, .int .i64 v3, .int .i64 v4, .int .i64 v5, .int .i64 v6, .int .i64 v7, .int .i64 v8, .int .i64 v9, .int .i64 v10, .int .i64 v11, .int .i64 v12, .int .i64 v13, .int .i64 v14, .int .i64 v15, .int .i64 v16, .int .i64 v17, .int .i64 v18, .int .i64 v19, .int .i64 v20]) (.int .i64 1)).run Try.prog W = .ok (.int .i64 v1) W := idxA94 1 W (by decide) rfl
theorem idxL94_2 (W : World) (v0 v1 v2 v3 v4 v5 v6 v7 v8 v9 v10 v11 v12 v13 v14 v15 v16 v17 v18 v19 v20 : Int) : (Instr.index 94 (.agg #[.int .i64 v0, .int .i64 v1, .int .i64 v2, .int .i64 v3, .int .i64 v4, .int .i64 v5, .int .i64 v6, .int .i64 v7, .int .i64 v8, .int .i64 v9, .int .i64 v10, .int .i64 v11, .int .i64 v12, .int .i64 v13, .int .i64 v14, .int .i64 v15, .int .i64 v16, .int .i64 v17, .int .i64 v18, .int .i64 v19, .int .i64 v20]) (.int .i64 2)).run Try.prog W = .ok (.int .i64 v2) W := idxA94 2 W (by decide) rfl
theorem idxL94_3 (W : World) (v0 v1 v2 v3 v4 v5 v6 v7 v8 v9 v10 v11 v12 v13 v14 v15 v16 v17 v18 v19 v20 : Int) : (Instr.index 94 (.agg #[.int .i64 v0, .int .i64 v1, .int .i64 v2, .int .i64 v3, .int .i64 v4, .int .i64 v5, .int .i64 v6, .int .i64 v7, .int .i64 v8, .int .i64 v9, .int .i64 v10, .int .i64 v11, .int .i64 v12, .int .i64 v13, .int .i64 v14, .int .i64 v15, .int .i64 v16, .int .i64 v17, .int .i64 v18, .int .i64 v19, .int .i64 v20]) (.int .i64 3)).run Try.prog W = .ok (.int .i64 v3) W := idxA94 3 W (by decide) rfl
theorem idxL94_4 (W : World) (v0 v1 v2 v3 v4 v5 v6 v7 v8 v9 v10 v11 v12 v13 v14 v15 v16 v17 v18 v19 v20 : Int) : (Instr.index 94 (.agg #[.int .i64 v0, .int .i64 v1, .int .i64 v2, .int .i64 v3, .int .i64 v4, .int .i64 v5, .int .i64 v6, .int .i64 v7, .int .i64 v8, .int .i64 v9, .int .i64 v10, .int .i64 v11, .int .i64 v12, .int .i64 v13, .int .i64 v14, .int .i64 v15, .int .i64 v16, .int .i64 v17, .int .i64 v18, .int .i64 v19, .int .i64 v20]) (.int .i64 4)).run Try.prog W = .ok (.int .i64 v4) W := idxA94 4 W (by decide) rfl
theorem idxL94_5 (W : World) (v0 v1 v2 v3 v4 v5 v6 v7 v8 v9 v10 v11 v12 v13 v14 v15 v16 v17 v18 v19 v20 : Int) : (Instr.index 94 (.agg #[.int .i64 v0, .int .i64 v1, .int .i64 v2, .int .i64 v3, .int .i64 v4, .int .i64 v5, .int .i64 v6, .int .i64 v7, .int .i64 v8, .int .i64 v9, .int .i64 v10, .int .i64 v11, .int .i64 v12, .int .i64 v13, .int .i64 v14, .int .i64 v15, .int .i64 v16, .int .i64 v17, .int .i64 v18, .int .i64 v19, .int .i64 v20]) (.int .i64 5)).run Try.prog W = .ok (.int .i64 v5) W := idxA94 5 W (by decide) rfl
theorem idxL94_6 (W : World) (v0 v1 v2 v3 v4 v5 v6 v7 v8 v9 v10 v11 v12 v13 v14 v15 v16 v17 v18 v19 v20 : Int) : (Instr.index 94 (.agg #[.int .i64 v0, .int .i64 v1, .int .i64 v2, .int .i64 v3, .int .i64 v4, .int .i64 v5, .int .i64 v6, .int .i64 v7, .int .i64 v8, .int .i64 v9, .int .i64 v10, .int .i64 v11, .int .i64 v12, .int .i64 v13, .int .i64 v14, .int .i64 v15, .int .i64 v16, .int .i64 v17, .int .i64 v18, .int .i64 v19, .int .i64 v20]) (.int .i64 6)).run Try.prog W = .ok (.int .i64 v6) W := idxA94 6 W (by decide) rfl
theorem idxL94_7 (W : World) (v0 v1 v2 v3 v4 v5 v6 v7 v8 v9 v10 v11 v12 v13 v14 v15 v16 v17 v18 v19 v20 : Int) : (Instr.index 94 (.agg #[.int .i64 v0, .int .i64 v1, .int .i64 v2, .int .i64 v3, .int .i64 v4, .int .i64 v5, .int .i64 v6, .int .i64 v7, .int .i64 v8, .int .i64 v9, .int .i64 v10, .int .i64 v11, .int .i64 v12, .int .i64 v13, .int .i64 v14, .int .i64 v15, .int .i64 v16, .int .i64 v17, .int .i64 v18, .int .i64 v19, .int .i64 v20]) (.int .i64 7)).run Try.prog W = .ok (.int .i64 v7) W := idxA94 7 W (by decide) rfl
theorem idxL94_8 (W : World) (v0 v1 v2 v3 v4 v5 v6 v7 v8 v9 v10 v11 v12 v13 v14 v15 v16 v17 v18 v19 v20 : Int) : (Instr.index 94 (.agg #[.int .i64 v0, .int .i64 v1, .int .i64 v2, .int .i64 v3, .int .i64 v4, .int .i64 v5, .int .i64 v6, .int .i64 v7, .int .i64 v8, .int .i64 v9, .int .i64 v10, .int .i64 v11, .int .i64 v12, .int .i64 v13, .int .i64 v14, .int .i64 v15, .int .i64 v16, .int .i64 v17, .int .i64 v18, .int .i64 v19, .int .i64 v20]) (.int .i64 8)).run Try.prog W = .ok (.int .i64 v8) W := idxA94 8 W (by decide) rfl
theorem idxL94_9 (W : World) (v0 v1 v2 v3 v4 v5 v6 v7 v8 v9 v10 v11 v12 v13 v14 v15 v16 v17 v18 v19 v20 : Int) : (Instr.index 94 (.agg #[.int .i64 v0, .int .i64 v1, .int .i64 v2, .int .i64 v3, .int .i64 v4, .int .i64 v5, .int .i64 v6, .int .i64 v7, .int .i64 v8, .int .i64 v9, .int .i64 v10, .int .i64 v11, .int .i64 v12, .int .i64 v13, .int .i64 v14, .int .i64 v15, .int .i64 v16, .int .i64 v17, .int .i64 v18, .int .i64 v19, .int .i64 v20]) (.int .i64 9)).run Try.prog W = .ok (.int .i64 v9) W := idxA94 9 W (by decide) rfl
theorem idxL94_10 (W : World) (v0 v1 v2 v3 v4 v5 v6 v7 v8 v9 v10 v11 v12 v13 v14 v15 v16 v17 v18 v19 v20 : Int) : (Instr.index 94 (.agg #[.int .i64 v0, .int .i64 v1, .int .i64 v2, .int .i64 v3, .int .i64 v4, .int .i64 v5, .int .i64 v6, .int .i64 v7, .int .i64 v8, .int .i64 v9, .int .i64 v10, .int .i64 v11, .int .i64 v12, .int .i64 v13, .int .i64 v14, .int .i64 v15, .int .i64 v16, .int .i64 v17, .int .i64 v18, .int .i64 v19, .int .i64 v20]) (.int .i64 10)).run Try.prog W = .ok (.int .i64 v10) W := idxA94 10 W (by decide) rfl
theorem idxL94_11 (W : World) (v0 v1 v2 v3 v4 v5 v6 v7 v8 v9 v10 v11 v12 v13 v14 v15 v16 v17 v18 v19 v20 : Int) : (Instr.index 94 (.agg #[.int .i64 v0, .int .i64 v1, .int .i64 v2, .int .i64 v3, .int .i64 v4, .int .i64 v5, .int .i64 v6, .int .i64 v7, .int .i64 v8, .int .i64 v9, .int .i64 v10, .int .i64 v11, .int .i64 v12, .int .i64 v13, .int .i64 v14, .int .i64 v15, .int .i64 v16, .int .i64 v17, .int .i64 v18, .int .i64 v19, .int .i64 v20]) (.int .i64 11)).run Try.prog W = .ok (.int .i64 v11) W := idxA94 11 W (by decide) rfl
theorem idxL94_12 (W : World) (v0 v1 v2 v3 v4 v5 v6 v7 v8 v9 v10 v11 v12 v13 v14 v15 v16 v17 v18 v19 v20 : Int) : (Instr.index 94 (.agg #[.int .i64 v0, .int .i64 v1, .int .i64 v2, .int .i64 v3, .int .i64 v4, .int .i64 v5, .int .i64 v6, .int .i64 v7, .int .i64 v8, .int .i64 v9, .int .i64 v10, .int .i64 v11, .int .i64 v12, .int .i64 v13, .int .i64 v14, .int .i64 v15, .int .i64 v16, .int .i64 v17, .int .i64 v18, .int .i64 v19, .int .i64 v20]) (.int .i64 12)).run Try.prog W = .ok (.int .i64 v12) W := idxA94 12 W (by decide) rfl
theorem idxL94_13 (W : World) (v0 v1 v2 v3 v4 v5 v6 v7 v8 v9 v10 v11 v12 v13 v14 v15 v16 v17 v18 v19 v20 : Int) : (Instr.index 94 (.agg #[.int .i64 v0, .int .i64 v1, .int .i64 v2, .int .i64 v3, .int .i64 v4, .int .i64 v5, .int .i64 v6, .int .i64 v7, .int .i64 v8, .int .i64 v9, .int .i64 v10, .int .i64 v11, .int .i64 v12, .int .i64 v13, .int .i64 v14, .int .i64 v15, .int .i64 v16, .int .i64 v17, .int .i64 v18, .int .i64 v19, .int .i64 v20]) (.int .i64 13)).run Try.prog W = .ok (.int .i64 v13) W := idxA94 13 W (by decide) rfl
theorem idxL94_14 (W : World) (v0 v1 v2 v3 v4 v5 v6 v7 v8 v9 v10 v11 v12 v13 v14 v15 v16 v17 v18 v19 v20 : Int) : (Instr.index 94 (.agg #[.int .i64 v0, .int .i64 v1, .int .i64 v2, .int .i64 v3, .int .i64 v4, .int .i64 v5, .int .i64 v6, .int .i64 v7, .int .i64 v8, .int .i64 v9, .int .i64 v10, .int .i64 v11, .int .i64 v12, .int .i64 v13, .int .i64 v14, .int .i64 v15, .int .i64 v16, .int .i64 v17, .int .i64 v18, .int .i64 v19, .int .i64 v20]) (.int .i64 14)).run Try.prog W = .ok (.int .i64 v14) W := idxA94 14 W (by decide) rfl
theorem idxL94_15 (W : World) (v0 v1 v2 v3 v4 v5 v6 v7 v8 v9 v10 v11 v12 v13 v14 v15 v16 v17 v18 v19 v20 : Int) : (Instr.index 94 (.agg #[.int .i64 v0, .int .i64 v1, .int .i64 v2, .int .i64 v3, .int .i64 v4, .int .i64 v5, .int .i64 v6, .int .i64 v7, .int .i64 v8, .int .i64 v9, .int .i64 v10, .int .i64 v11, .int .i64 v12, .int .i64 v13, .int .i64 v14, .int .i64 v15, .int .i64 v16, .int .i64 v17, .int .i64 v18, .int .i64 v19, .int .i64 v20]) (.int .i64 15)).run Try.prog W = .ok (.int .i64 v15) W := idxA94 15 W (by decide) rfl
theorem idxL94_16 (W : World) (v0 v1 v2 v3 v4 v5 v6 v7 v8 v9 v10 v11 v12 v13 v14 v15 v16 v17 v18 v19 v20 : Int) : (Instr.index 94 (.agg #[.int .i64 v0, .int .i64 v1, .int .i64 v2, .int .i64 v3, .int .i64 v4, .int .i64 v5, .int .i64 v6, .int .i64 v7, .int .i64 v8, .int .i64 v9, .int .i64 v10, .int .i64 v11, .int .i64 v12, .int .i64 v13, .int .i64 v14, .int .i64 v15, .int .i64 v16, .int .i64 v17, .int .i64 v18, .int .i64 v19, .int .i64 v20]) (.int .i64 16)).run Try.prog W = .ok (.int .i64 v16) W := idxA94 16 W (by decide) rfl
theorem idxL94_17 (W : World) (v0 v1 v2 v3 v4 v5 v6 v7 v8 v9 v10 v11 v12 v13 v14 v15 v16 v17 v18 v19 v20 : Int) : (Instr.index 94 (.agg #[.int .i64 v0, .int .i64 v1, .int .i64 v2, .int .i64 v3, .int .i64 v4, .int .i64 v5, .int .i64 v6, .int .i64 v7, .int .i64 v8, .int .i64 v9, .int .i64 v10, .int .i64 v11, .int .i64 v12, .int .i64 v13, .int .i64 v14, .int .i64 v15, .int .i64 v16, .int .i64 v17, .int .i64 v18, .int .i64 v19, .int .i64 v20]) (.int .i64 17)).run Try.prog W = .ok (.int .i64 v17) W := idxA94 17 W (by decide) rfl
theorem idxL94_18 (W : World) (v0 v1 v2 v3 v4 v5 v6 v7 v8 v9 v10 v11 v12 v13 v14 v15 v16 v17 v18 v19 v20 : Int) : (Instr.index 94 (.agg #[.int .i64 v0, .int .i64 v1, .int .i64 v2, .int .i64 v3, .int .i64 v4, .int .i64 v5, .int .i64 v6, .int .i64 v7, .int .i64 v8, .int .i64 v9, .int .i64 v10, .int .i64 v11, .int .i64 v12, .int .i64 v13, .int .i64 v14, .int .i64 v15, .int .i64 v16, .int .i64 v17, .int .i64 v18, .int .i64 v19, .int .i64 v20]) (.int .i64 18)).run Try.prog W = .ok (.int .i64 v18) W := idxA94 18 W (by decide) rfl
theorem idxL94_19 (W : World) (v0 v1 v2 v3 v4 v5 v6 v7 v8 v9 v10 v11 v12 v13 v14 v15 v16 v17 v18 v19 v20 : Int) : (Instr.index 94 (.agg #[.int .i64 v0, .int .i64 v1, .int .i64 v2, .int .i64 v3, .int .i64 v4, .int .i64 v5, .int .i64 v6, .int .i64 v7, .int .i64 v8, .int .i64 v9, .int .i64 v10, .int .i64 v11, .int .i64 v12, .int .i64 v13, .int .i64 v14, .int .i64 v15, .int .i64 v16, .int .i64 v17, .int .i64 v18, .int .i64 v19, .int .i64 v20]) (.int .i64 19)).run Try.prog W = .ok (.int .i64 v19) W := idxA94 19 W (by decide) rfl
theorem idxL94_20 (W : World) (v0 v1 v2 v3 v4 v5 v6 v7 v8 v9 v10 v11 v12 v13 v14 v15 v16 v17 v18 v19 v20 : Int) : (Instr.index 94 (.agg #[.int .i64 v0, .int .i64 v1, .int .i64 v2, .int .i64 v3, .int .i64 v4, .int .i64 v5, .int .i64 v6, .int .i64 v7, .int .i64 v8, .int .i64 v9, .int .i64 v10, .int .i64 v11, .int .i64 v12, .int .i64 v13, .int .i64 v14, .int .i64 v15, .int .i64 v16, .int .i64 v17, .int .i64 v18, .int .i64 v19, .int .i64 v20]) (.int .i64 20)).run Try.prog W = .ok (.int .i64 v20) W := idxA94 20 W (by decide) rfl
attribute [local go_sem] idxL94_0 idxL94_1 idxL94_2 idxL94_3 idxL94_4 idxL94_5 idxL94_6 idxL94_7 idxL94_8 idxL94_9 idxL94_10 idxL94_11 idxL94_12 idxL94_13 idxL94_14 idxL94_15 idxL94_16 idxL94_17 idxL94_18 idxL94_19 idxL94_20

/-! ### impl_IsWorthProof: function 41 -/
mutual
def impl_IsWorthProof.l0 : Nat → List (S94) → List (List Int) → Int → Int → Int → List Int → Int → Int → Int → Int → Option (Bool × Bool)
 | 0, _, _, _, _, _, _, _, _, _, _ => none
 | k + 1, x6, x28, x29, x30, x215000, x215001, x215002, x215003, x215004, x215005 => if x30 < x29 then (if 0 ≤ x30 then (if x30 < (x28.length : Int) then (if ((rd_L1 x28 x30).length : Int) = 21 then ((impl_allWithin.f k (rd_L1 x28 x30) (-1000000000000) 1000000000000).bind fun t220 => (if t220 = true then (if x30 < (x6.length : Int) then (impl_IsWorthProof.l0 k (x6.set (x30 : Int).toNat (⟨rd (rd_L1 x28 x30) 0, rd (rd_L1 x28 x30) 1, rd (rd_L1 x28 x30) 2, rd (rd_L1 x28 x30) 3, rd (rd_L1 x28 x30) 4, rd (rd_L1 x28 x30) 5, rd (rd_L1 x28 x30) 6, rd (rd_L1 x28 x30) 7, rd (rd_L1 x28 x30) 8, rd (rd_L1 x28 x30) 9, rd (rd_L1 x28 x30) 10, rd (rd_L1 x28 x30) 11, rd (rd_L1 x28 x30) 12, rd (rd_L1 x28 x30) 13, rd (rd_L1 x28 x30) 14, rd (rd_L1 x28 x30) 15, rd (rd_L1 x28 x30) 16, rd (rd_L1 x28 x30) 17, rd (rd_L1 x28 x30) 18, rd (rd_L1 x28 x30) 19, rd (rd_L1 x28 x30) 20⟩ : S94)) x28 x29 (wrap64 (x30 + 1)) x215000 x215001 x215002 x215003 x215004 x215005) else (none)) else (some (false, true)))) else (some (false, true))) else (none)) else (none)) else (if 0 ≤ x215000 then (if x215000 < (x6.length : Int) then (impl_IsWorthProof.l1 k x6 x6 x215000 0 x215000 x215001 x215002 x215003 x215004 x215005) else (none)) else (none))
def impl_IsWorthProof.l1 : Nat → List (S94) → List (S94) → Int → Int → Int → List Int → Int → Int → Int → Int → Option (Bool × Bool)
 | 0, _, _, _, _, _, _, _, _, _, _ => none
 | k + 1, x6, x50, x52, x55, x215000, x215001, x215002, x215003, x215004, x215005 => if x55 < 21 then (if x55 = 0 then (if ((rd_T94 x50 x52).f0) > 0 then (some (false, true)) else (impl_IsWorthProof.l1 k x6 x50 x52 (wrap64 (x55 + 1)) x215000 x215001 x215002 x215003 x215004 x215005)) else (if x55 = 1 then (if ((rd_T94 x50 x52).f1) > 0 then (some (false, true)) else (impl_IsWorthProof.l1 k x6 x50 x52 (wrap64 (x55 + 1)) x215000 x215001 x215002 x215003 x215004 x215005)) else (if x55 = 2 then (if ((rd_T94 x50 x52).f2) > 0 then (some (false, true)) else (impl_IsWorthProof.l1 k x6 x50 x52 (wrap64 (x55 + 1)) x215000 x215001 x215002 x215003 x215004 x215005)) else (if x55 = 3 then (if ((rd_T94 x50 x52).f3) > 0 then (some (false, true)) else (impl_IsWorthProof.l1 k x6 x50 x52 (wrap64 (x55 + 1)) x215000 x215001 x215002 x215003 x215004 x215005)) else (if x55 = 4 then (if ((rd_T94 x50 x52).f4) > 0 then (some (false, true)) else (impl_IsWorthProof.l1 k x6 x50 x52 (wrap64 (x55 + 1)) x215000 x215001 x215002 x215003 x215004 x215005)) else (if x55 = 5 then (if ((rd_T94 x50 x52).f5) > 0 then (some (false, true)) else (impl_IsWorthProof.l1 k x6 x50 x52 (wrap64 (x55 + 1)) x215000 x215001 x215002 x215003 x215004 x215005)) else (if x55 = 6 then (if ((rd_T94 x50 x52).f6) > 0 then (some (false, true)) else (impl_IsWorthProof.l1 k x6 x50 x52 (wrap64 (x55 + 1)) x215000 x215001 x215002 x215003 x215004 x215005)) else (if x55 = 7 then (if ((rd_T94 x50 x52).f7) > 0 then (some (false, true)) else (impl_IsWorthProof.l1 k x6 x50 x52 (wrap64 (x55 + 1)) x215000 x215001 x215002 x215003 x215004 x215005)) else (if x55 = 8 then (if ((rd_T94 x50 x52).f8) > 0 then (some (false, true)) else (impl_IsWorthProof.l1 k x6 x50 x52 (wrap64 (x55 + 1)) x215000 x215001 x215002 x215003 x215004 x215005)) else (if x55 = 9 then (if ((rd_T94 x50 x52).f9) > 0 then (some (false, true)) else (impl_IsWorthProof.l1 k x6 x50 x52 (wrap64 (x55 + 1)) x215000 x215001 x215002 x215003 x215004 x215005)) else (if x55 = 10 then (if ((rd_T94 x50 x52).f10) > 0 then (some (false, true)) else (impl_IsWorthProof.l1 k x6 x50 x52 (wrap64 (x55 + 1)) x215000 x215001 x215002 x215003 x215004 x215005)) else (if x55 = 11 then (if ((rd_T94 x50 x52).f11) > 0 then (some (false, true)) else (impl_IsWorthProof.l1 k x6 x50 x52 (wrap64 (x55 + 1)) x215000 x215001 x215002 x215003 x215004 x215005)) else (if x55 = 12 then (if ((rd_T94 x50 x52).f12) > 0 then (some (false, true)) else (impl_IsWorthProof.l1 k x6 x50 x52 (wrap64 (x55 + 1)) x215000 x215001 x215002 x215003 x215004 x215005)) else (if x55 = 13 then (if ((rd_T94 x50 x52).f13) > 0 then (some (false, true)) else (impl_IsWorthProof.l1 k x6 x50 x52 (wrap64 (x55 + 1)) x215000 x215001 x215002 x215003 x215004 x215005)) else (if x55 = 14 then (if ((rd_T94 x50 x52).f14) > 0 then (some (false, true)) else (impl_IsWorthProof.l1 k x6 x50 x52 (wrap64 (x55 + 1)) x215000 x215001 x215002 x215003 x215004 x215005)) else (if x55 = 15 then (if ((rd_T94 x50 x52).f15) > 0 then (some (false, true)) else (impl_IsWorthProof.l1 k x6 x50 x52 (wrap64 (x55 + 1)) x215000 x215001 x215002 x215003 x215004 x215005)) else (if x55 = 16 then (if ((rd_T94 x50 x52).f16) > 0 then (some (false, true)) else (impl_IsWorthProof.l1 k x6 x50 x52 (wrap64 (x55 + 1)) x215000 x215001 x215002 x215003 x215004 x215005)) else (if x55 = 17 then (if ((rd_T94 x50 x52).f17) > 0 then (some (false, true)) else (impl_IsWorthProof.l1 k x6 x50 x52 (wrap64 (x55 + 1)) x215000 x215001 x215002 x215003 x215004 x215005)) else (if x55 = 18 then (if ((rd_T94 x50 x52).f18) > 0 then (some (false, true)) else (impl_IsWorthProof.l1 k x6 x50 x52 (wrap64 (x55 + 1)) x215000 x215001 x215002 x215003 x215004 x215005)) else (if x55 = 19 then (if ((rd_T94 x50 x52).f19) > 0 then (some (false, true)) else (impl_IsWorthProof.l1 k x6 x50 x52 (wrap64 (x55 + 1)) x215000 x215001 x215002 x215003 x215004 x215005)) else (if x55 = 20 then (if ((rd_T94 x50 x52).f20) > 0 then (some (false, true)) else (impl_IsWorthProof.l1 k x6 x50 x52 (wrap64 (x55 + 1)) x215000 x215001 x215002 x215003 x215004 x215005)) else (none)))))))))))))))))))))) else (impl_IsWorthProof.l2 k x6 x215000 0 x215000 x215001 x215002 x215003 x215004 x215005)
def impl_IsWorthProof.l2 : Nat → List (S94) → Int → Int → Int → List Int → Int → Int → Int → Int → Option (Bool × Bool)
 | 0, _, _, _, _, _, _, _, _, _ => none
 | k + 1, x6, x62, x63, x215000, x215001, x215002, x215003, x215004, x215005 => if x63 < x62 then (impl_IsWorthProof.l3 k x6 x63 (-10) x62 x63 x215000 x215001 x215002 x215003 x215004 x215005) else (some (true, true))
def impl_IsWorthProof.l3 : Nat → List (S94) → Int → Int → Int → Int → Int → List Int → Int → Int → Int → Int → Option (Bool × Bool)
 | 0, _, _, _, _, _, _, _, _, _, _, _ => none
 | k + 1, x6, x11, x12, x62, x63, x215000, x215001, x215002, x215003, x215004, x215005 => if x12 ≤ 10 then (if 0 ≤ (wrap64 (x11 + 1)) then (if (wrap64 (x11 + 1)) < (x6.length : Int) then ((impl_Process_least.f k x215000 x215001 x215002 x215003 x215004 x215005 (wrap64 (x215000 - x11)) x12 ((rd_T94 x6 (wrap64 (x11 + 1))).f0) ((rd_T94 x6 (wrap64 (x11 + 1))).f1) ((rd_T94 x6 (wrap64 (x11 + 1))).f2) ((rd_T94 x6 (wrap64 (x11 + 1))).f3) ((rd_T94 x6 (wrap64 (x11 + 1))).f4) ((rd_T94 x6 (wrap64 (x11 + 1))).f5) ((rd_T94 x6 (wrap64 (x11 + 1))).f6) ((rd_T94 x6 (wrap64 (x11 + 1))).f7) ((rd_T94 x6 (wrap64 (x11 + 1))).f8) ((rd_T94 x6 (wrap64 (x11 + 1))).f9) ((rd_T94 x6 (wrap64 (x11 + 1))).f10) ((rd_T94 x6 (wrap64 (x11 + 1))).f11) ((rd_T94 x6 (wrap64 (x11 + 1))).f12) ((rd_T94 x6 (wrap64 (x11 + 1))).f13) ((rd_T94 x6 (wrap64 (x11 + 1))).f14) ((rd_T94 x6 (wrap64 (x11 + 1))).f15) ((rd_T94 x6 (wrap64 (x11 + 1))).f16) ((rd_T94 x6 (wrap64 (x11 + 1))).f17) ((rd_T94 x6 (wrap64 (x11 + 1))).f18) ((rd_T94 x6 (wrap64 (x11 + 1))).f19) ((rd_T94 x6 (wrap64 (x11 + 1))).f20)).bind fun bt224 => (if 0 ≤ x11 then (if x11 < (x6.length : Int) then ((impl_levels_at.f ((rd_T94 x6 x11).f0) ((rd_T94 x6 x11).f1) ((rd_T94 x6 x11).f2) ((rd_T94 x6 x11).f3) ((rd_T94 x6 x11).f4) ((rd_T94 x6 x11).f5) ((rd_T94 x6 x11).f6) ((rd_T94 x6 x11).f7) ((rd_T94 x6 x11).f8) ((rd_T94 x6 x11).f9) ((rd_T94 x6 x11).f10) ((rd_T94 x6 x11).f11) ((rd_T94 x6 x11).f12) ((rd_T94 x6 x11).f13) ((rd_T94 x6 x11).f14) ((rd_T94 x6 x11).f15) ((rd_T94 x6 x11).f16) ((rd_T94 x6 x11).f17) ((rd_T94 x6 x11).f18) ((rd_T94 x6 x11).f19) ((rd_T94 x6 x11).f20) x12).bind fun t227 => (if t227 > bt224.1 then (some (false, true)) else (impl_IsWorthProof.l3 k x6 x11 (wrap64 (x12 + 1)) x62 x63 x215000 x215001 x215002 x215003 x215004 x215005))) else (none)) else (none))) else (none)) else (none)) else (impl_IsWorthProof.l2 k x6 x62 (wrap64 (x63 + 1)) x215000 x215001 x215002 x215003 x215004 x215005)
end
def impl_IsWorthProof.f (k : Nat) (a0_0 : Int) (l0_1 : List Int) (a0_2 : Int) (a0_3 : Int) (a0_4 : Int) (a0_5 : Int) (l1 : List (List Int)) : Option (Bool × Bool) := (impl_IsProcess.f k a0_0 l0_1 a0_2 a0_3 a0_4 a0_5).bind fun t215 => (if t215 = true then (if (l1.length : Int) = (wrap64 (a0_0 + 1)) then (if 0 ≤ (wrap64 (a0_0 + 1)) then (if (wrap64 (a0_0 + 1) : Int).toNat ≤ 1675446289944 then (impl_IsWorthProof.l0 k (List.replicate (wrap64 (a0_0 + 1) : Int).toNat z94) l1 (l1.length : Int) 0 a0_0 l0_1 a0_2 a0_3 a0_4 a0_5) else (none)) else (none)) else (some (false, true))) else (some (false, false)))
theorem impl_IsWorthProof.mono_l : ∀ k, (∀ y0 y1 y2 y3 y4 y5 y6 y7 y8 y9, LeO (impl_IsWorthProof.l0 k y0 y1 y2 y3 y4 y5 y6 y7 y8 y9) (impl_IsWorthProof.l0 (k + 1) y0 y1 y2 y3 y4 y5 y6 y7 y8 y9)) ∧ (∀ y0 y1 y2 y3 y4 y5 y6 y7 y8 y9, LeO (impl_IsWorthProof.l1 k y0 y1 y2 y3 y4 y5 y6 y7 y8 y9) (impl_IsWorthProof.l1 (k + 1) y0 y1 y2 y3 y4 y5 y6 y7 y8 y9)) ∧ (∀ y0 y1 y2 y3 y4 y5 y6 y7 y8, LeO (impl_IsWorthProof.l2 k y0 y1 y2 y3 y4 y5 y6 y7 y8) (impl_IsWorthProof.l2 (k + 1) y0 y1 y2 y3 y4 y5 y6 y7 y8)) ∧ (∀ y0 y1 y2 y3 y4 y5 y6 y7 y8 y9 y10, LeO (impl_IsWorthProof.l3 k y0 y1 y2 y3 y4 y5 y6 y7 y8 y9 y10) (impl_IsWorthProof.l3 (k + 1) y0 y1 y2 y3 y4 y5 y6 y7 y8 y9 y10))
 | 0 => ⟨fun _ _ _ _ _ _ _ _ _ _ r h => by simp [impl_IsWorthProof.l0] at h, fun _ _ _ _ _ _ _ _ _ _ r h => by simp [impl_IsWorthProof.l1] at h, fun _ _ _ _ _ _ _ _ _ r h => by simp [impl_IsWorthProof.l2] at h, fun _ _ _ _ _ _ _ _ _ _ _ r h => by simp [impl_IsWorthProof.l3] at h⟩
 | k + 1 => by
  obtain ⟨ih0, ih1, ih2, ih3⟩ := impl_IsWorthProof.mono_l k
  refine ⟨?_, ?_, ?_, ?_⟩
  ·intro y0 y1 y2 y3 y4 y5 y6 y7 y8 y9
   unfold impl_IsWorthProof.l0
   repeat' first
   | (with_reducible exact ih0 _ _ _ _ _ _ _ _ _ _)
   | (with_reducible exact ih1 _ _ _ _ _ _ _ _ _ _)
   | (with_reducible exact ih2 _ _ _ _ _ _ _ _ _)
   | (with_reducible exact ih3 _ _ _ _ _ _ _ _ _ _ _)
   | (with_reducible exact impl_IsProcess.mono _ _ _ _ _ _ _)
   | (with_reducible exact impl_Process_least.mono _ _ _ _ _ _ _ _ _ _ _ _ _ _ _ _ _ _ _ _ _ _ _ _ _ _ _ _ _ _)
   | (with_reducible exact impl_allWithin.mono _ _ _ _)
   | (with_reducible exact LeO.refl _)
   | (with_reducible exact LeO.none _)
   | (with_reducible refine LeO.ite ?_ ?_)
   | (with_reducible refine LeO.bind ?_ (fun _ => ?_))
   | exact ih0 _ _ _ _ _ _ _ _ _ _
   | exact ih1 _ _ _ _ _ _ _ _ _ _
   | exact ih2 _ _ _ _ _ _ _ _ _
   | exact ih3 _ _ _ _ _ _ _ _ _ _ _
   | exact impl_IsProcess.mono _ _ _ _ _ _ _
   | exact impl_Process_least.mono _ _ _ _ _ _ _ _ _ _ _ _ _ _ _ _ _ _ _ _ _ _ _ _ _ _ _ _ _ _
   | exact impl_allWithin.mono _ _ _ _
   | exact LeO.none _
   | refine LeO.ite ?_ ?_
   | refine LeO.bind ?_ (fun _ => ?_)
  ·intro y0 y1 y2 y3 y4 y5 y6 y7 y8 y9
   unfold impl_IsWorthProof.l1
   repeat' first
   | (with_reducible exact ih0 _ _ _ _ _ _ _ _ _ _)
   | (with_reducible exact ih1 _ _ _ _ _ _ _ _ _ _)
   | (with_reducible exact ih2 _ _ _ _ _ _ _ _ _)
   | (with_reducible exact ih3 _ _ _ _ _ _ _ _ _ _ _)
   | (with_reducible exact impl_IsProcess.mono _ _ _ _ _ _ _)
   | (with_reducible exact impl_Process_least.mono _ _ _ _ _ _ _ _ _ _ _ _ _ _ _ _ _ _ _ _ _ _ _ _ _ _ _ _ _ _)
   | (with_reducible exact impl_allWithin.mono _ _ _ _)
   | (with_reducible exact LeO.refl _)
   | (with_reducible exact LeO.none _)
   | (with_reducible refine LeO.ite ?_ ?_)
   | (with_reducible refine LeO.bind ?_ (fun _ => ?_))
   | exact ih0 _ _ _ _ _ _ _ _ _ _
   | exact ih1 _ _ _ _ _ _ _ _ _ _
   | exact ih2 _ _ _ _ _ _ _ _ _
   | exact ih3 _ _ _ _ _ _ _ _ _ _ _
   | exact impl_IsProcess.mono _ _ _ _ _ _ _
   | exact impl_Process_least.mono _ _ _ _ _ _ _ _ _ _ _ _ _ _ _ _ _ _ _ _ _ _ _ _ _ _ _ _ _ _
   | exact impl_allWithin.mono _ _ _ _
   | exact LeO.none _
   | refine LeO.ite ?_ ?_
   | refine LeO.bind ?_ (fun _ => ?_)
  ·intro y0 y1 y2 y3 y4 y5 y6 y7 y8
   unfold impl_IsWorthProof.l2
   repeat' first
   | (with_reducible exact ih0 _ _ _ _ _ _ _ _ _ _)
   | (with_reducible exact ih1 _ _ _ _ _ _ _ _ _ _)
   | (with_reducible exact ih2 _ _ _ _ _ _ _ _ _)
   | (with_reducible exact ih3 _ _ _ _ _ _ _ _ _ _ _)
   | (with_reducible exact impl_IsProcess.mono _ _ _ _ _ _ _)
   | (with_reducible exact impl_Process_least.mono _ _ _ _ _ _ _ _ _ _ _ _ _ _ _ _ _ _ _ _ _ _ _ _ _ _ _ _ _ _)
   | (with_reducible exact impl_allWithin.mono _ _ _ _)
   | (with_reducible exact LeO.refl _)
   | (with_reducible exact LeO.none _)
   | (with_reducible refine LeO.ite ?_ ?_)
   | (with_reducible refine LeO.bind ?_ (fun _ => ?_))
   | exact ih0 _ _ _ _ _ _ _ _ _ _
   | exact ih1 _ _ _ _ _ _ _ _ _ _
   | exact ih2 _ _ _ _ _ _ _ _ _
   | exact ih3 _ _ _ _ _ _ _ _ _ _ _
   | exact impl_IsProcess.mono _ _ _ _ _ _ _
   | exact impl_Process_least.mono _ _ _ _ _ _ _ _ _ _ _ _ _ _ _ _ _ _ _ _ _ _ _ _ _ _ _ _ _ _
   | exact impl_allWithin.mono _ _ _ _
   | exact LeO.none _
   | refine LeO.ite ?_ ?_
   | refine LeO.bind ?_ (fun _ => ?_)
  ·intro y0 y1 y2 y3 y4 y5 y6 y7 y8 y9 y10
   unfold impl_IsWorthProof.l3
   repeat' first
   | (with_reducible exact ih0 _ _ _ _ _ _ _ _ _ _)
   | (with_reducible exact ih1 _ _ _ _ _ _ _ _ _ _)
   | (with_reducible exact ih2 _ _ _ _ _ _ _ _ _)
   | (with_reducible exact ih3 _ _ _ _ _ _ _ _ _ _ _)
   | (with_reducible exact impl_IsProcess.mono _ _ _ _ _ _ _)
   | (with_reducible exact impl_Process_least.mono _ _ _ _ _ _ _ _ _ _ _ _ _ _ _ _ _ _ _ _ _ _ _ _ _ _ _ _ _ _)
   | (with_reducible exact impl_allWithin.mono _ _ _ _)
   | (with_reducible exact LeO.refl _)
   | (with_reducible exact LeO.none _)
   | (with_reducible refine LeO.ite ?_ ?_)
   | (with_reducible refine LeO.bind ?_ (fun _ => ?_))
   | exact ih0 _ _ _ _ _ _ _ _ _ _
   | exact ih1 _ _ _ _ _ _ _ _ _ _
   | exact ih2 _ _ _ _ _ _ _ _ _
   | exact ih3 _ _ _ _ _ _ _ _ _ _ _
   | exact impl_IsProcess.mono _ _ _ _ _ _ _
   | exact impl_Process_least.mono _ _ _ _ _ _ _ _ _ _ _ _ _ _ _ _ _ _ _ _ _ _ _ _ _ _ _ _ _ _
   | exact impl_allWithin.mono _ _ _ _
   | exact LeO.none _
   | refine LeO.ite ?_ ?_
   | refine LeO.bind ?_ (fun _ => ?_)
theorem impl_IsWorthProof.mono : ∀ a0 a1 a2 a3 a4 a5 a6 k, LeO (impl_IsWorthProof.f k a0 a1 a2 a3 a4 a5 a6) (impl_IsWorthProof.f (k + 1) a0 a1 a2 a3 a4 a5 a6) := by
 intro a0 a1 a2 a3 a4 a5 a6 k
 obtain ⟨ih0, ih1, ih2, ih3⟩ := impl_IsWorthProof.mono_l k
 unfold impl_IsWorthProof.f
 repeat' first
   | (with_reducible exact ih0 _ _ _ _ _ _ _ _ _ _)
   | (with_reducible exact ih1 _ _ _ _ _ _ _ _ _ _)
   | (with_reducible exact ih2 _ _ _ _ _ _ _ _ _)
   | (with_reducible exact ih3 _ _ _ _ _ _ _ _ _ _ _)
   | (with_reducible exact impl_IsProcess.mono _ _ _ _ _ _ _)
   | (with_reducible exact impl_Process_least.mono _ _ _ _ _ _ _ _ _ _ _ _ _ _ _ _ _ _ _ _ _ _ _ _ _ _ _ _ _ _)
   | (with_reducible exact impl_allWithin.mono _ _ _ _)
   | (with_reducible exact LeO.refl _)
   | (with_reducible exact LeO.none _)
   | (with_reducible refine LeO.ite ?_ ?_)
   | (with_reducible refine LeO.bind ?_ (fun _ => ?_))
   | exact ih0 _ _ _ _ _ _ _ _ _ _
   | exact ih1 _ _ _ _ _ _ _ _ _ _
   | exact ih2 _ _ _ _ _ _ _ _ _
   | exact ih3 _ _ _ _ _ _ _ _ _ _ _
   | exact impl_IsProcess.mono _ _ _ _ _ _ _
   | exact impl_Process_least.mono _ _ _ _ _ _ _ _ _ _ _ _ _ _ _ _ _ _ _ _ _ _ _ _ _ _ _ _ _ _
   | exact impl_allWithin.mono _ _ _ _
   | exact LeO.none _
   | refine LeO.ite ?_ ?_
   | refine LeO.bind ?_ (fun _ => ?_)
def impl_IsWorthProof.T25 : Bool × List (List Nat × List Nat) := (true, [([], []), ([], []), ([1], [1]), ([], []), ([2, 3], [2, 3]), ([], []), ([], []), ([], []), ([7], [7]), ([6, 8], [6, 8]), ([9], [9]), ([0, 4, 5, 10], [0, 4, 5, 10]), ([11], [11]), ([12], [12]), ([12], [12]), ([13, 11, 0, 1, 2, 3, 4, 5, 6, 7, 8, 9, 10, 11, 12, 13], [13]), ([14, 15, 0, 1, 2, 3, 4, 5, 6, 7, 8, 9, 10, 11, 12, 13, 14, 15], [14])])
def impl_IsWorthProof.B25 : List Nat := [0, 0, 2, 0, 14, 0, 0, 0, 128, 448, 960, 2047, 4095, 8191, 8191, 16383, 65535]
theorem impl_IsWorthProof.tab25 : rtab .any (opsOf Try.f41 25) = impl_IsWorthProof.T25 := by kernel_rfl
theorem impl_IsWorthProof.bits25 : waitsOk impl_IsWorthProof.T25.2 impl_IsWorthProof.B25 = true := by kernel_rfl
set_option maxHeartbeats 8000000 in
set_option maxRecDepth 100000 in
theorem impl_IsWorthProof.calls (k : Nat) (a0_0 : Int) (A0_1 : Option Addr) (c0_1 : Nat) (l0_1 : List Int) (a0_2 : Int) (a0_3 : Int) (a0_4 : Int) (a0_5 : Int) (A1 : Option Addr) (c1 : Nat) (l1 : List (List Int)) (r1 : Bool) (r2 : Bool) (w : World) (hr0_1 : Kd.C (Kd.int .i64) w A0_1 l0_1.length l0_1) (hc0_1 : l0_1.length ≤ c0_1) (hr1 : Kd.C (Kd.slice 3 (Kd.int .i64)) w A1 l1.length l1) (hc1 : l1.length ≤ c1) (h : impl_IsWorthProof.f k a0_0 l0_1 a0_2 a0_3 a0_4 a0_5 l1 = some (r1, r2)) :
  Calls Try.prog 41 #[.agg #[.int .i64 a0_0, .slice A0_1 l0_1.length c0_1, .int .i64 a0_2, .int .i64 a0_3, .int .i64 a0_4, .int .i64 a0_5], .slice A1 l1.length c1] w fun e w' => e = .returned (.tuple #[.bool r1, .bool r2]) ∧ Below w.heap.size w w' := by
 have hu30 := Try.underlying30
 have hu94 := Try.underlying94
 have HR0_1 := Aside0.mk hr0_1
 have HC0_1 := Aside0.mk hc0_1
 clear hr0_1 hc0_1
 have HR1 := Aside0.mk hr1
 have HC1 := Aside0.mk hc1
 clear hr1 hc1
 have HB := Aside0.mk (Below.refl w.heap.size w)
 have H : ((impl_IsProcess.f k a0_0 l0_1 a0_2 a0_3 a0_4 a0_5).bind fun t215 => (if t215 = true then (if (l1.length : Int) = (wrap64 (a0_0 + 1)) then (if 0 ≤ (wrap64 (a0_0 + 1)) then (if (wrap64 (a0_0 + 1) : Int).toNat ≤ 1675446289944 then (impl_IsWorthProof.l0 k (List.replicate (wrap64 (a0_0 + 1) : Int).toNat z94) l1 (l1.length : Int) 0 a0_0 l0_1 a0_2 a0_3 a0_4 a0_5) else (none)) else (none)) else (some (false, true))) else (some (false, false)))) = some (r1, r2) := h
 clear h
 replace H := Option.bind_eq_some_iff.mp H
 obtain ⟨t215, A30, H⟩ := H
 replace H : (if t215 = true then (if (l1.length : Int) = (wrap64 (a0_0 + 1)) then (if 0 ≤ (wrap64 (a0_0 + 1)) then (if (wrap64 (a0_0 + 1) : Int).toNat ≤ 1675446289944 then (impl_IsWorthProof.l0 k (List.replicate (wrap64 (a0_0 + 1) : Int).toNat z94) l1 (l1.length : Int) 0 a0_0 l0_1 a0_2 a0_3 a0_4 a0_5) else (none)) else (none)) else (some (false, true))) else (some (false, false))) = some (r1, r2) := H
 have A3 := Aside0.mk A30
 clear A30
 by_cases c4 : t215 = true
 ·subst c4
  have H1 : (if (l1.length : Int) = (wrap64 (a0_0 + 1)) then (if 0 ≤ (wrap64 (a0_0 + 1)) then (if (wrap64 (a0_0 + 1) : Int).toNat ≤ 1675446289944 then (impl_IsWorthProof.l0 k (List.replicate (wrap64 (a0_0 + 1) : Int).toNat z94) l1 (l1.length : Int) 0 a0_0 l0_1 a0_2 a0_3 a0_4 a0_5) else (none)) else (none)) else (some (false, true))) = some (r1, r2) := by rw [if_pos rfl] at H; exact H
  clear H
  have H := H1
  clear H1
  by_cases c5 : (l1.length : Int) = (wrap64 (a0_0 + 1))
  ·rw [if_pos c5] at H
   have c5b0 : ((l1.length : Int) == (wrap64 (a0_0 + 1))) = true := beq_iff_eq.mpr c5
   have c5b1 : ((l1.length : Int) != (wrap64 (a0_0 + 1))) = false := bne_eq_false_iff_eq.mpr c5
   clear c5
   obtain ⟨ji6, hji6⟩ : ∃ j_ : Int, (wrap64 (a0_0 + 1)) = j_ := ⟨_, rfl⟩
   replace H : (if 0 ≤ (ji6) then (if (ji6 : Int).toNat ≤ 1675446289944 then (impl_IsWorthProof.l0 k (List.replicate (ji6 : Int).toNat z94) l1 (l1.length : Int) 0 a0_0 l0_1 a0_2 a0_3 a0_4 a0_5) else (none)) else (none)) = some (r1, r2) := by first | (rw [hji6] at H; exact H) | (simp only [hji6] at H ⊢; exact H)
   (try rw [hji6] at c5b0)
   (try rw [hji6] at c5b1)
   (try rw [hji6] at A3)
   have hji6w : (IntKind.i64.wrap (a0_0 + 1)) = ji6 := (i64_w _).trans hji6
   by_cases c7 : 0 ≤ (ji6)
   ·rw [if_pos c7] at H
    have c7b0 := eq_true c7
    have c7b1 : decide (0 ≤ (ji6)) = true := decide_eq_true c7
    clear c7
    by_cases c8 : (ji6 : Int).toNat ≤ 1675446289944
    ·rw [if_pos c8] at H
     have c8b0 := eq_true c8
     have c8b1 : decide ((ji6 : Int).toNat ≤ 1675446289944) = true := decide_eq_true c8
     clear c8
     obtain ⟨y216, hy216⟩ : ∃ y_ : List (S94), y_ = (List.replicate (ji6 : Int).toNat z94) := ⟨_, rfl⟩
     replace H : (impl_IsWorthProof.l0 k y216 l1 (l1.length : Int) 0 a0_0 l0_1 a0_2 a0_3 a0_4 a0_5) = some (r1, r2) := by first | (rw [hy216]; with_reducible exact H) | (have H2_ := (Option.bind_some _ _).symm.trans H; rw [hy216]; with_reducible exact H2_) | (have H2_ := (Option.bind_some _ _).symm.trans H; with_reducible exact H2_) | with_reducible exact H | (rw [hy216]; exact H) | exact H
     have Ny216 := Aside0.mk hy216
     clear hy216
     have H' := Aside0.mk H
     clear H
     go_enter Try.func41, Try.ntmps41
     go_wp2_with (first | ((with_reducible refine gate_dst (N := 2) rfl ?_); refine box_event ?hg (N := 2) ?hd (cs := #[.int .i64 a0_0, .slice A0_1 l0_1.length c0_1, .int .i64 a0_2, .int .i64 a0_3, .int .i64 a0_4, .int .i64 a0_5]) (t := 30) ?hr ?_; (case hd => rfl); (case hg => rfl); (case hr => first | (go_simp; done) | (go_simp; rfl)); intro gb214 hg w9 hbox hb; have n0_ := Aside0.mk (below_step (by repeat (first | (with_reducible first | exact HB.out | apply below_alloc | apply pw_below_drewN | apply below_drew1) | exact HB.out)) hb); have n1_ := Aside0.mk (hbox); have n2_ := Aside0.mk ((by rw [hg]; exact (below_size (by repeat (first | (with_reducible first | exact HB.out | apply below_alloc | apply pw_below_drewN | apply below_drew1) | exact HB.out))) : w.heap.size ≤ gb214)); have n3_ := Aside0.mk ((by rw [hg]; exact (below_size (by repeat (first | (with_reducible first | exact HB.out | apply below_alloc | apply pw_below_drewN | apply below_drew1) | exact HB.out))) : w.heap.size ≤ gb214)); clear HB; have HB := n0_; have BK214 := n1_; have GW214 := n2_; have GE214 := n3_; clear n0_ n1_ n2_ n3_; clear hb hbox hg; have hcz10_0 : w9.cell? ⟨gb214, 0, none⟩ = some (.int .i64 a0_0) := (blk_cell BK214.out 0).trans rfl; have hcz10_1 : w9.cell? ⟨gb214, 1, none⟩ = some (.slice A0_1 l0_1.length c0_1) := (blk_cell BK214.out 1).trans rfl; have hcz10_2 : w9.cell? ⟨gb214, 2, none⟩ = some (.int .i64 a0_2) := (blk_cell BK214.out 2).trans rfl; have hcz10_3 : w9.cell? ⟨gb214, 3, none⟩ = some (.int .i64 a0_3) := (blk_cell BK214.out 3).trans rfl; have hcz10_4 : w9.cell? ⟨gb214, 4, none⟩ = some (.int .i64 a0_4) := (blk_cell BK214.out 4).trans rfl; have hcz10_5 : w9.cell? ⟨gb214, 5, none⟩ = some (.int .i64 a0_5) := (blk_cell BK214.out 5).trans rfl; have hfz10_0 := blk_frozen BK214.out 0; have hfz10_1 := blk_frozen BK214.out 1; have hfz10_2 := blk_frozen BK214.out 2; have hfz10_3 := blk_frozen BK214.out 3; have hfz10_4 := blk_frozen BK214.out 4; have hfz10_5 := blk_frozen BK214.out 5) | ((with_reducible refine gate_callee (f := 52) rfl ?_); refine goesL_ (some 16) rfl rfl Try.func52 (by kernel_rfl) rfl #[.agg #[.int .i64 a0_0, .slice A0_1 l0_1.length c0_1, .int .i64 a0_2, .int .i64 a0_3, .int .i64 a0_4, .int .i64 a0_5]] rfl (by (try simp only [List.map_toArray, List.map_cons, List.map_nil]); first | done | rfl | (simp only [List.length_drop, List.length_take]; rfl)) ?_; (with_reducible refine (impl_IsProcess.calls k a0_0 _ _ l0_1 a0_2 a0_3 a0_4 a0_5 true _ ?side1 ?side2 A3.out).mono ?_); (case side1 => repeat (first | exact (Kd.C_below HR0_1.out HB.out) | (with_reducible refine Kd.C_alloc ?_ _) | (with_reducible refine Kd.C_drewN ?_ _) | (with_reducible refine Kd.C_drew ?_))); (case side2 => exact HC0_1.out); rintro e w11 ⟨rfl, hb⟩; refine ⟨_, rfl, ?_⟩; have n0_ := Aside0.mk (blk_below (g := gb214) (o := .cells #[.int .i64 a0_0, .slice A0_1 l0_1.length c0_1, .int .i64 a0_2, .int .i64 a0_3, .int .i64 a0_4, .int .i64 a0_5] 30 (0, 0)) (by (with_reducible repeat (first | refine blk_drewN ?_ _ | refine blk_drew ?_ | refine blk_alloc ?_ _)); exact BK214.out) hb); have n1_ := Aside0.mk (below_step (by repeat (first | (with_reducible first | exact HB.out | apply below_alloc | apply pw_below_drewN | apply below_drew1 | refine below_set ?_ GE214.out) | exact HB.out)) hb); clear BK214; clear HB; have BK214 := n0_; have HB := n1_; clear n0_ n1_; (try clear hb); (try clear hb2); (try clear hk); (try clear hi); have hcz12_0 : w11.cell? ⟨gb214, 0, none⟩ = some (.int .i64 a0_0) := (blk_cell BK214.out 0).trans rfl; have hcz12_1 : w11.cell? ⟨gb214, 1, none⟩ = some (.slice A0_1 l0_1.length c0_1) := (blk_cell BK214.out 1).trans rfl; have hcz12_2 : w11.cell? ⟨gb214, 2, none⟩ = some (.int .i64 a0_2) := (blk_cell BK214.out 2).trans rfl; have hcz12_3 : w11.cell? ⟨gb214, 3, none⟩ = some (.int .i64 a0_3) := (blk_cell BK214.out 3).trans rfl; have hcz12_4 : w11.cell? ⟨gb214, 4, none⟩ = some (.int .i64 a0_4) := (blk_cell BK214.out 4).trans rfl; have hcz12_5 : w11.cell? ⟨gb214, 5, none⟩ = some (.int .i64 a0_5) := (blk_cell BK214.out 5).trans rfl; have hfz12_0 := blk_frozen BK214.out 0; have hfz12_1 := blk_frozen BK214.out 1; have hfz12_2 := blk_frozen BK214.out 2; have hfz12_3 := blk_frozen BK214.out 3; have hfz12_4 := blk_frozen BK214.out 4; have hfz12_5 := blk_frozen BK214.out 5) | ((with_reducible refine gate_dst (N := 27) rfl ?_); refine Kd.R_make k94 _ 94 rfl (N := 27) rfl 95 _ _ rfl ji6 rfl rfl Try.underlying95 (.agg #[(.int .i64 0), (.int .i64 0), (.int .i64 0), (.int .i64 0), (.int .i64 0), (.int .i64 0), (.int .i64 0), (.int .i64 0), (.int .i64 0), (.int .i64 0), (.int .i64 0), (.int .i64 0), (.int .i64 0), (.int .i64 0), (.int .i64 0), (.int .i64 0), (.int .i64 0), (.int .i64 0), (.int .i64 0), (.int .i64 0), (.int .i64 0)]) 168 info94 rfl (by decide) (by omega) z94 (ok := fun _ => True) (okp := fun _ => True) (k94_mkM _ _ _ z94 ) (fun _ hk => hk) trivial (of_decide_eq_true (by first | (with_reducible assumption) | assumption)) (Nat.le_trans (Nat.mul_le_mul_right _ (of_decide_eq_true (by first | (with_reducible assumption) | assumption) : ji6.toNat ≤ 1675446289944)) (by omega)) (Below.refl _ _) (Nat.le_refl _) ?_; intro v217 w13 ho14 hb hg_ hnew_; clear hg_ hnew_; (first | rw [← Ny216.out] at ho14 | (simp only [Int.reduceToNat] at ho14; rw [← Ny216.out] at ho14)); have n0_ := Aside0.mk (Kd.R_lower ho14 (below_size (by repeat (first | (with_reducible first | exact HB.out | apply below_alloc | apply pw_below_drewN | apply below_drew1 | refine below_set ?_ GE214.out) | exact HB.out)))); have n1_ := Aside0.mk (blk_below (g := gb214) (o := .cells #[.int .i64 a0_0, .slice A0_1 l0_1.length c0_1, .int .i64 a0_2, .int .i64 a0_3, .int .i64 a0_4, .int .i64 a0_5] 30 (0, 0)) (by (with_reducible repeat (first | refine blk_drewN ?_ _ | refine blk_drew ?_ | refine blk_alloc ?_ _)); exact BK214.out) hb); have n2_ := Aside0.mk (below_step (by repeat (first | (with_reducible first | exact HB.out | apply below_alloc | apply pw_below_drewN | apply below_drew1 | refine below_set ?_ GE214.out) | exact HB.out)) hb); clear BK214; clear HB; have HO218 := n0_; have BK214 := n1_; have HB := n2_; clear n0_ n1_ n2_; clear hb ho14))
     go_loopg [30] k (fun kq v30 w' => ∃ (x6_1 : List (S94)) (x30_1 : Int), v30 = .int .i64 x30_1 ∧ Aside0 (impl_IsWorthProof.l0 kq x6_1 l1 (l1.length : Int) x30_1 a0_0 l0_1 a0_2 a0_3 a0_4 a0_5 = some (r1, r2)) ∧ Aside0 (kq ≤ k) ∧ Aside0 (Kd.R k94 94 w' w.heap.size (fun _ => True) v217 x6_1) ∧ Aside0 (w'.heap[gb214]? = some (.cells #[.int .i64 a0_0, (.slice A0_1 l0_1.length c0_1), .int .i64 a0_2, .int .i64 a0_3, .int .i64 a0_4, .int .i64 a0_5] 30 (0, 0))) ∧ Aside0 (Below w.heap.size w w'))
     case atStart => exact ⟨(y216), (0), (by first | rfl | (simp; done) | (simp [*]; done)), H', ⟨Nat.le_refl _⟩, ⟨by (with_reducible repeat (first | apply Kd.R_alloc | apply Kd.R_drewN | apply Kd.R_drew)); exact HO218.out⟩, ⟨by (with_reducible repeat (first | refine blk_drewN ?_ _ | refine blk_drew ?_ | refine blk_alloc ?_ _)); exact BK214.out⟩, ⟨by repeat (first | (with_reducible first | exact HB.out | apply below_alloc | apply pw_below_drewN | apply below_drew1 | refine below_set ?_ GE214.out) | exact HB.out)⟩⟩
     case round =>
      clear H'
      try clear c1
      try clear p2
      try clear c4
      try clear c5
      try clear c5b0
      try clear c5b1
      try clear p6
      try clear c7
      try clear c7b0
      try clear c7b1
      try clear c8
      try clear c8b0
      try clear c8b1
      try clear hcz10_0
      try clear hcz10_1
      try clear hcz10_2
      try clear hcz10_3
      try clear hcz10_4
      try clear hcz10_5
      try clear hcz12_0
      try clear hcz12_1
      try clear hcz12_2
      try clear hcz12_3
      try clear hcz12_4
      try clear hcz12_5
      try clear hfz10_0
      try clear hfz10_1
      try clear hfz10_2
      try clear hfz10_3
      try clear hfz10_4
      try clear hfz10_5
      try clear hfz12_0
      try clear hfz12_1
      try clear hfz12_2
      try clear hfz12_3
      try clear hfz12_4
      try clear hfz12_5
      obtain ⟨x6_1, x30_1, rfl, HA, HK1, HO_6, BK214, HB⟩ := hrel
      cases gk with
      | zero => exact absurd HA.out (by simp [impl_IsWorthProof.l0])
      | succ k1 =>
       have H := HA.out
       clear HA
       simp only [impl_IsWorthProof.l0] at H
       by_cases c15 : x30_1 < (l1.length : Int)
       ·rw [if_pos c15] at H
        have c15b0 : decide (x30_1 < (l1.length : Int)) = true := decide_eq_true c15
        clear c15
        by_cases c16 : 0 ≤ x30_1
        ·rw [if_pos c16] at H
         have c16b0 : decide (0 ≤ x30_1) = true := decide_eq_true c16
         clear c16
         by_cases c17 : x30_1 < (l1.length : Int)
         ·rw [if_pos c17] at H
          have c17b0 : decide (x30_1 < (l1.length : Int)) = true := decide_eq_true c17
          clear c17
          by_cases c18 : ((rd_L1 l1 x30_1).length : Int) = 21
          ·rw [if_pos c18] at H
           have c18b0 : (((rd_L1 l1 x30_1).length : Int) == 21) = true := beq_iff_eq.mpr c18
           have c18b1 : (((rd_L1 l1 x30_1).length : Int) != 21) = false := bne_eq_false_iff_eq.mpr c18
           clear c18
           replace H := Option.bind_eq_some_iff.mp H
           obtain ⟨t220, A190, H⟩ := H
           replace H : (if t220 = true then (if x30_1 < (x6_1.length : Int) then (impl_IsWorthProof.l0 k1 (x6_1.set (x30_1 : Int).toNat (⟨rd (rd_L1 l1 x30_1) 0, rd (rd_L1 l1 x30_1) 1, rd (rd_L1 l1 x30_1) 2, rd (rd_L1 l1 x30_1) 3, rd (rd_L1 l1 x30_1) 4, rd (rd_L1 l1 x30_1) 5, rd (rd_L1 l1 x30_1) 6, rd (rd_L1 l1 x30_1) 7, rd (rd_L1 l1 x30_1) 8, rd (rd_L1 l1 x30_1) 9, rd (rd_L1 l1 x30_1) 10, rd (rd_L1 l1 x30_1) 11, rd (rd_L1 l1 x30_1) 12, rd (rd_L1 l1 x30_1) 13, rd (rd_L1 l1 x30_1) 14, rd (rd_L1 l1 x30_1) 15, rd (rd_L1 l1 x30_1) 16, rd (rd_L1 l1 x30_1) 17, rd (rd_L1 l1 x30_1) 18, rd (rd_L1 l1 x30_1) 19, rd (rd_L1 l1 x30_1) 20⟩ : S94)) l1 (l1.length : Int) (wrap64 (x30_1 + 1)) a0_0 l0_1 a0_2 a0_3 a0_4 a0_5) else (none)) else (some (false, true))) = some (r1, r2) := H
           have A19 := Aside0.mk A190
           clear A190
           by_cases c20 : t220 = true
           ·subst c20
            have H1 : (if x30_1 < (x6_1.length : Int) then (impl_IsWorthProof.l0 k1 (x6_1.set (x30_1 : Int).toNat (⟨rd (rd_L1 l1 x30_1) 0, rd (rd_L1 l1 x30_1) 1, rd (rd_L1 l1 x30_1) 2, rd (rd_L1 l1 x30_1) 3, rd (rd_L1 l1 x30_1) 4, rd (rd_L1 l1 x30_1) 5, rd (rd_L1 l1 x30_1) 6, rd (rd_L1 l1 x30_1) 7, rd (rd_L1 l1 x30_1) 8, rd (rd_L1 l1 x30_1) 9, rd (rd_L1 l1 x30_1) 10, rd (rd_L1 l1 x30_1) 11, rd (rd_L1 l1 x30_1) 12, rd (rd_L1 l1 x30_1) 13, rd (rd_L1 l1 x30_1) 14, rd (rd_L1 l1 x30_1) 15, rd (rd_L1 l1 x30_1) 16, rd (rd_L1 l1 x30_1) 17, rd (rd_L1 l1 x30_1) 18, rd (rd_L1 l1 x30_1) 19, rd (rd_L1 l1 x30_1) 20⟩ : S94)) l1 (l1.length : Int) (wrap64 (x30_1 + 1)) a0_0 l0_1 a0_2 a0_3 a0_4 a0_5) else (none)) = some (r1, r2) := by rw [if_pos rfl] at H; exact H
            clear H
            have H := H1
            clear H1
            by_cases c21 : x30_1 < (x6_1.length : Int)
            ·rw [if_pos c21] at H
             have c21b0 : decide (x30_1 < (x6_1.length : Int)) = true := decide_eq_true c21
             clear c21
             obtain ⟨y221, hy221⟩ : ∃ y_ : List (S94), y_ = (x6_1.set (x30_1 : Int).toNat (⟨rd (rd_L1 l1 x30_1) 0, rd (rd_L1 l1 x30_1) 1, rd (rd_L1 l1 x30_1) 2, rd (rd_L1 l1 x30_1) 3, rd (rd_L1 l1 x30_1) 4, rd (rd_L1 l1 x30_1) 5, rd (rd_L1 l1 x30_1) 6, rd (rd_L1 l1 x30_1) 7, rd (rd_L1 l1 x30_1) 8, rd (rd_L1 l1 x30_1) 9, rd (rd_L1 l1 x30_1) 10, rd (rd_L1 l1 x30_1) 11, rd (rd_L1 l1 x30_1) 12, rd (rd_L1 l1 x30_1) 13, rd (rd_L1 l1 x30_1) 14, rd (rd_L1 l1 x30_1) 15, rd (rd_L1 l1 x30_1) 16, rd (rd_L1 l1 x30_1) 17, rd (rd_L1 l1 x30_1) 18, rd (rd_L1 l1 x30_1) 19, rd (rd_L1 l1 x30_1) 20⟩ : S94)) := ⟨_, rfl⟩
             replace H : (impl_IsWorthProof.l0 k1 y221 l1 (l1.length : Int) (wrap64 (x30_1 + 1)) a0_0 l0_1 a0_2 a0_3 a0_4 a0_5) = some (r1, r2) := by first | (rw [hy221]; with_reducible exact H) | (have H2_ := (Option.bind_some _ _).symm.trans H; rw [hy221]; with_reducible exact H2_) | (have H2_ := (Option.bind_some _ _).symm.trans H; with_reducible exact H2_) | with_reducible exact H | (rw [hy221]; exact H) | exact H
             have Ny221 := Aside0.mk hy221
             clear hy221
             have H' := Aside0.mk H
             clear H
             have p219 : 0 ≤ (x30_1 : Int) := of_decide_eq_true (by first | (with_reducible assumption) | assumption)
             have q219 : x30_1 < (l1.length : Int) := of_decide_eq_true (by first | (with_reducible assumption) | assumption)
             obtain ⟨ad219, A219_0, c219_0, e219, hx219_0, hl219_0, hi219_0⟩ := at_L1 HR1.out x30_1 p219 q219
             cases e219
             replace hx219_0 := (HB.out.cell (World.block_lt_of_cell? w _ hx219_0)).trans hx219_0
             have HR219_0 := Aside0.mk hi219_0
             have HC219_0 := Aside0.mk hl219_0
             clear hi219_0 hl219_0
             replace p219 := eq_true p219
             replace q219 := eq_true q219
             go_wp2_with (first | (go_at_call 87; (with_reducible refine (impl_allWithin.calls k1 _ _ (rd_L1 l1 x30_1) (-1000000000000) 1000000000000 true _ ?side1 ?side2 A19.out).mono ?_); (case side1 => repeat (first | exact (Kd.C_below HR219_0.out HB.out) | (with_reducible refine Kd.C_alloc ?_ _) | (with_reducible refine Kd.C_drewN ?_ _) | (with_reducible refine Kd.C_drew ?_))); (case side2 => exact HC219_0.out); rintro e w' ⟨rfl, ⟨nd, rfl⟩⟩; (try (rw [drewN_self wr]; generalize hq_ : World.drewN wr _ = wr; have n0_ : Aside0 (Kd.R k94 94 wr w.heap.size (fun _ => True) v217 x6_1) := ⟨by rw [← hq_]; exact (by (with_reducible repeat (first | apply Kd.R_alloc | apply Kd.R_drewN | apply Kd.R_drew)); exact HO_6.out)⟩; have n1_ : Aside0 (wr.heap[gb214]? = some (.cells #[.int .i64 a0_0, .slice A0_1 l0_1.length c0_1, .int .i64 a0_2, .int .i64 a0_3, .int .i64 a0_4, .int .i64 a0_5] 30 (0, 0))) := ⟨by rw [← hq_]; exact (by (with_reducible repeat (first | refine blk_drewN ?_ _ | refine blk_drew ?_ | refine blk_alloc ?_ _)); exact BK214.out)⟩; have n2_ : Aside0 (Below w.heap.size w wr) := ⟨by rw [← hq_]; exact (by repeat (first | (with_reducible first | exact HB.out | apply below_alloc | apply pw_below_drewN | apply below_drew1 | refine below_set ?_ GE214.out) | exact HB.out))⟩; clear HO_6 BK214 HB hq_; have HO_6 := n0_; have BK214 := n1_; have HB := n2_; clear n0_ n1_ n2_)); have p22 : 0 ≤ (x30_1 : Int) := of_decide_eq_true (by first | (with_reducible assumption) | assumption); have q22 : (x30_1 : Int) < ((x6_1.length : Int) : Int) := of_decide_eq_true (by first | (with_reducible assumption) | assumption); obtain ⟨go22, co22, eo22, gb22, gl22, cl22, HG22⟩ := Kd.R_form HO_6.out (by omega); (first | cases eo22 | (injection eo22 with ea_ en_ ec_; (first | subst ea_ | (injection ea_ with ea_; subst ea_)); subst ec_; clear en_)); have GB22 := Aside0.mk gb22; have GG22 := Aside0.mk HG22; clear gb22 gl22 HG22; obtain ⟨ce22, hcl22, hM22, hcc22, hfr22⟩ := Kd.R_elem HO_6.out z94 (x30_1 : Int) p22 q22; obtain rfl := k94_openM hM22; have hx22_0 : wr.cell? ⟨go22, (x30_1 : Int).toNat * 21, none⟩ = some (.int .i64 ((rd_T94 x6_1 x30_1).f0)) := hcc22 0 _ rfl; have hx22_1 : wr.cell? ⟨go22, (x30_1 : Int).toNat * 21 + 1, none⟩ = some (.int .i64 ((rd_T94 x6_1 x30_1).f1)) := hcc22 1 _ rfl; have hx22_2 : wr.cell? ⟨go22, (x30_1 : Int).toNat * 21 + 2, none⟩ = some (.int .i64 ((rd_T94 x6_1 x30_1).f2)) := hcc22 2 _ rfl; have hx22_3 : wr.cell? ⟨go22, (x30_1 : Int).toNat * 21 + 3, none⟩ = some (.int .i64 ((rd_T94 x6_1 x30_1).f3)) := hcc22 3 _ rfl; have hx22_4 : wr.cell? ⟨go22, (x30_1 : Int).toNat * 21 + 4, none⟩ = some (.int .i64 ((rd_T94 x6_1 x30_1).f4)) := hcc22 4 _ rfl; have hx22_5 : wr.cell? ⟨go22, (x30_1 : Int).toNat * 21 + 5, none⟩ = some (.int .i64 ((rd_T94 x6_1 x30_1).f5)) := hcc22 5 _ rfl; have hx22_6 : wr.cell? ⟨go22, (x30_1 : Int).toNat * 21 + 6, none⟩ = some (.int .i64 ((rd_T94 x6_1 x30_1).f6)) := hcc22 6 _ rfl; have hx22_7 : wr.cell? ⟨go22, (x30_1 : Int).toNat * 21 + 7, none⟩ = some (.int .i64 ((rd_T94 x6_1 x30_1).f7)) := hcc22 7 _ rfl; have hx22_8 : wr.cell? ⟨go22, (x30_1 : Int).toNat * 21 + 8, none⟩ = some (.int .i64 ((rd_T94 x6_1 x30_1).f8)) := hcc22 8 _ rfl; have hx22_9 : wr.cell? ⟨go22, (x30_1 : Int).toNat * 21 + 9, none⟩ = some (.int .i64 ((rd_T94 x6_1 x30_1).f9)) := hcc22 9 _ rfl; have hx22_10 : wr.cell? ⟨go22, (x30_1 : Int).toNat * 21 + 10, none⟩ = some (.int .i64 ((rd_T94 x6_1 x30_1).f10)) := hcc22 10 _ rfl; have hx22_11 : wr.cell? ⟨go22, (x30_1 : Int).toNat * 21 + 11, none⟩ = some (.int .i64 ((rd_T94 x6_1 x30_1).f11)) := hcc22 11 _ rfl; have hx22_12 : wr.cell? ⟨go22, (x30_1 : Int).toNat * 21 + 12, none⟩ = some (.int .i64 ((rd_T94 x6_1 x30_1).f12)) := hcc22 12 _ rfl; have hx22_13 : wr.cell? ⟨go22, (x30_1 : Int).toNat * 21 + 13, none⟩ = some (.int .i64 ((rd_T94 x6_1 x30_1).f13)) := hcc22 13 _ rfl; have hx22_14 : wr.cell? ⟨go22, (x30_1 : Int).toNat * 21 + 14, none⟩ = some (.int .i64 ((rd_T94 x6_1 x30_1).f14)) := hcc22 14 _ rfl; have hx22_15 : wr.cell? ⟨go22, (x30_1 : Int).toNat * 21 + 15, none⟩ = some (.int .i64 ((rd_T94 x6_1 x30_1).f15)) := hcc22 15 _ rfl; have hx22_16 : wr.cell? ⟨go22, (x30_1 : Int).toNat * 21 + 16, none⟩ = some (.int .i64 ((rd_T94 x6_1 x30_1).f16)) := hcc22 16 _ rfl; have hx22_17 : wr.cell? ⟨go22, (x30_1 : Int).toNat * 21 + 17, none⟩ = some (.int .i64 ((rd_T94 x6_1 x30_1).f17)) := hcc22 17 _ rfl; have hx22_18 : wr.cell? ⟨go22, (x30_1 : Int).toNat * 21 + 18, none⟩ = some (.int .i64 ((rd_T94 x6_1 x30_1).f18)) := hcc22 18 _ rfl; have hx22_19 : wr.cell? ⟨go22, (x30_1 : Int).toNat * 21 + 19, none⟩ = some (.int .i64 ((rd_T94 x6_1 x30_1).f19)) := hcc22 19 _ rfl; have hx22_20 : wr.cell? ⟨go22, (x30_1 : Int).toNat * 21 + 20, none⟩ = some (.int .i64 ((rd_T94 x6_1 x30_1).f20)) := hcc22 20 _ rfl; have hf22_0 : wr.frozen? ⟨go22, (x30_1 : Int).toNat * 21, none⟩ = false := hfr22 0; have hf22_1 : wr.frozen? ⟨go22, (x30_1 : Int).toNat * 21 + 1, none⟩ = false := hfr22 1; have hf22_2 : wr.frozen? ⟨go22, (x30_1 : Int).toNat * 21 + 2, none⟩ = false := hfr22 2; have hf22_3 : wr.frozen? ⟨go22, (x30_1 : Int).toNat * 21 + 3, none⟩ = false := hfr22 3; have hf22_4 : wr.frozen? ⟨go22, (x30_1 : Int).toNat * 21 + 4, none⟩ = false := hfr22 4; have hf22_5 : wr.frozen? ⟨go22, (x30_1 : Int).toNat * 21 + 5, none⟩ = false := hfr22 5; have hf22_6 : wr.frozen? ⟨go22, (x30_1 : Int).toNat * 21 + 6, none⟩ = false := hfr22 6; have hf22_7 : wr.frozen? ⟨go22, (x30_1 : Int).toNat * 21 + 7, none⟩ = false := hfr22 7; have hf22_8 : wr.frozen? ⟨go22, (x30_1 : Int).toNat * 21 + 8, none⟩ = false := hfr22 8; have hf22_9 : wr.frozen? ⟨go22, (x30_1 : Int).toNat * 21 + 9, none⟩ = false := hfr22 9; have hf22_10 : wr.frozen? ⟨go22, (x30_1 : Int).toNat * 21 + 10, none⟩ = false := hfr22 10; have hf22_11 : wr.frozen? ⟨go22, (x30_1 : Int).toNat * 21 + 11, none⟩ = false := hfr22 11; have hf22_12 : wr.frozen? ⟨go22, (x30_1 : Int).toNat * 21 + 12, none⟩ = false := hfr22 12; have hf22_13 : wr.frozen? ⟨go22, (x30_1 : Int).toNat * 21 + 13, none⟩ = false := hfr22 13; have hf22_14 : wr.frozen? ⟨go22, (x30_1 : Int).toNat * 21 + 14, none⟩ = false := hfr22 14; have hf22_15 : wr.frozen? ⟨go22, (x30_1 : Int).toNat * 21 + 15, none⟩ = false := hfr22 15; have hf22_16 : wr.frozen? ⟨go22, (x30_1 : Int).toNat * 21 + 16, none⟩ = false := hfr22 16; have hf22_17 : wr.frozen? ⟨go22, (x30_1 : Int).toNat * 21 + 17, none⟩ = false := hfr22 17; have hf22_18 : wr.frozen? ⟨go22, (x30_1 : Int).toNat * 21 + 18, none⟩ = false := hfr22 18; have hf22_19 : wr.frozen? ⟨go22, (x30_1 : Int).toNat * 21 + 19, none⟩ = false := hfr22 19; have hf22_20 : wr.frozen? ⟨go22, (x30_1 : Int).toNat * 21 + 20, none⟩ = false := hfr22 20; clear hcl22 hcc22 hfr22; (try clear hM22); replace p22 := eq_true p22; replace q22 := eq_true q22; have HX23 := Aside0.mk (show Kd.R k94 94 wr w.heap.size (fun _ => True) (.slice (some ⟨go22, 0, none⟩) x6_1.length co22) x6_1 from (by (with_reducible repeat (first | apply Kd.R_alloc | apply Kd.R_drewN | apply Kd.R_drew)); exact HO_6.out)); obtain ⟨ce23, hcl23, hM23, hcc23, hfr23⟩ := Kd.R_elem HX23.out z94 (x30_1 : Int) (of_decide_eq_true (by first | (with_reducible assumption) | assumption)) (by have h_ : (x30_1 : Int) < ((x6_1.length : Int) : Int) := of_decide_eq_true (by first | (with_reducible assumption) | assumption); first | exact h_ | (have e_ := (Kd.R_reads' HO_6.out).1; omega) | simpa using h_); obtain rfl := k94_openM hM23; have HP23 := Kd.R_seg HX23.out (x30_1 : Int) (of_decide_eq_true (by first | (with_reducible assumption) | assumption)) (by have h_ : (x30_1 : Int) < ((x6_1.length : Int) : Int) := of_decide_eq_true (by first | (with_reducible assumption) | assumption); first | exact h_ | (have e_ := (Kd.R_reads' HO_6.out).1; omega) | simpa using h_) (seg := [.int .i64 (rd (rd_L1 l1 x30_1) 0), .int .i64 (rd (rd_L1 l1 x30_1) 1), .int .i64 (rd (rd_L1 l1 x30_1) 2), .int .i64 (rd (rd_L1 l1 x30_1) 3), .int .i64 (rd (rd_L1 l1 x30_1) 4), .int .i64 (rd (rd_L1 l1 x30_1) 5), .int .i64 (rd (rd_L1 l1 x30_1) 6), .int .i64 (rd (rd_L1 l1 x30_1) 7), .int .i64 (rd (rd_L1 l1 x30_1) 8), .int .i64 (rd (rd_L1 l1 x30_1) 9), .int .i64 (rd (rd_L1 l1 x30_1) 10), .int .i64 (rd (rd_L1 l1 x30_1) 11), .int .i64 (rd (rd_L1 l1 x30_1) 12), .int .i64 (rd (rd_L1 l1 x30_1) 13), .int .i64 (rd (rd_L1 l1 x30_1) 14), .int .i64 (rd (rd_L1 l1 x30_1) 15), .int .i64 (rd (rd_L1 l1 x30_1) 16), .int .i64 (rd (rd_L1 l1 x30_1) 17), .int .i64 (rd (rd_L1 l1 x30_1) 18), .int .i64 (rd (rd_L1 l1 x30_1) 19), .int .i64 (rd (rd_L1 l1 x30_1) 20)]) (j := 0) hcl23 hcc23 (show 21 ≤ 21 from by decide) (x' := (⟨rd (rd_L1 l1 x30_1) 0, rd (rd_L1 l1 x30_1) 1, rd (rd_L1 l1 x30_1) 2, rd (rd_L1 l1 x30_1) 3, rd (rd_L1 l1 x30_1) 4, rd (rd_L1 l1 x30_1) 5, rd (rd_L1 l1 x30_1) 6, rd (rd_L1 l1 x30_1) 7, rd (rd_L1 l1 x30_1) 8, rd (rd_L1 l1 x30_1) 9, rd (rd_L1 l1 x30_1) 10, rd (rd_L1 l1 x30_1) 11, rd (rd_L1 l1 x30_1) 12, rd (rd_L1 l1 x30_1) 13, rd (rd_L1 l1 x30_1) 14, rd (rd_L1 l1 x30_1) 15, rd (rd_L1 l1 x30_1) 16, rd (rd_L1 l1 x30_1) 17, rd (rd_L1 l1 x30_1) 18, rd (rd_L1 l1 x30_1) 19, rd (rd_L1 l1 x30_1) 20⟩ : S94)) (k94_mkM _ _ _ (⟨rd (rd_L1 l1 x30_1) 0, rd (rd_L1 l1 x30_1) 1, rd (rd_L1 l1 x30_1) 2, rd (rd_L1 l1 x30_1) 3, rd (rd_L1 l1 x30_1) 4, rd (rd_L1 l1 x30_1) 5, rd (rd_L1 l1 x30_1) 6, rd (rd_L1 l1 x30_1) 7, rd (rd_L1 l1 x30_1) 8, rd (rd_L1 l1 x30_1) 9, rd (rd_L1 l1 x30_1) 10, rd (rd_L1 l1 x30_1) 11, rd (rd_L1 l1 x30_1) 12, rd (rd_L1 l1 x30_1) 13, rd (rd_L1 l1 x30_1) 14, rd (rd_L1 l1 x30_1) 15, rd (rd_L1 l1 x30_1) 16, rd (rd_L1 l1 x30_1) 17, rd (rd_L1 l1 x30_1) 18, rd (rd_L1 l1 x30_1) 19, rd (rd_L1 l1 x30_1) 20⟩ : S94) ) (fun _ hk => hk); have hx23_0 := hcc23 0 _ rfl; (try simp only [show (k94).sz = 21 from rfl, Nat.mul_one, Nat.add_zero] at hx23_0); have hf23_0 := hfr23 0; (try simp only [show (k94).sz = 21 from rfl, Nat.mul_one, Nat.add_zero] at hf23_0); have hx23_1 := hcc23 1 _ rfl; (try simp only [show (k94).sz = 21 from rfl, Nat.mul_one, Nat.add_zero] at hx23_1); have hf23_1 := hfr23 1; (try simp only [show (k94).sz = 21 from rfl, Nat.mul_one, Nat.add_zero] at hf23_1); have hx23_2 := hcc23 2 _ rfl; (try simp only [show (k94).sz = 21 from rfl, Nat.mul_one, Nat.add_zero] at hx23_2); have hf23_2 := hfr23 2; (try simp only [show (k94).sz = 21 from rfl, Nat.mul_one, Nat.add_zero] at hf23_2); have hx23_3 := hcc23 3 _ rfl; (try simp only [show (k94).sz = 21 from rfl, Nat.mul_one, Nat.add_zero] at hx23_3); have hf23_3 := hfr23 3; (try simp only [show (k94).sz = 21 from rfl, Nat.mul_one, Nat.add_zero] at hf23_3); have hx23_4 := hcc23 4 _ rfl; (try simp only [show (k94).sz = 21 from rfl, Nat.mul_one, Nat.add_zero] at hx23_4); have hf23_4 := hfr23 4; (try simp only [show (k94).sz = 21 from rfl, Nat.mul_one, Nat.add_zero] at hf23_4); have hx23_5 := hcc23 5 _ rfl; (try simp only [show (k94).sz = 21 from rfl, Nat.mul_one, Nat.add_zero] at hx23_5); have hf23_5 := hfr23 5; (try simp only [show (k94).sz = 21 from rfl, Nat.mul_one, Nat.add_zero] at hf23_5); have hx23_6 := hcc23 6 _ rfl; (try simp only [show (k94).sz = 21 from rfl, Nat.mul_one, Nat.add_zero] at hx23_6); have hf23_6 := hfr23 6; (try simp only [show (k94).sz = 21 from rfl, Nat.mul_one, Nat.add_zero] at hf23_6); have hx23_7 := hcc23 7 _ rfl; (try simp only [show (k94).sz = 21 from rfl, Nat.mul_one, Nat.add_zero] at hx23_7); have hf23_7 := hfr23 7; (try simp only [show (k94).sz = 21 from rfl, Nat.mul_one, Nat.add_zero] at hf23_7); have hx23_8 := hcc23 8 _ rfl; (try simp only [show (k94).sz = 21 from rfl, Nat.mul_one, Nat.add_zero] at hx23_8); have hf23_8 := hfr23 8; (try simp only [show (k94).sz = 21 from rfl, Nat.mul_one, Nat.add_zero] at hf23_8); have hx23_9 := hcc23 9 _ rfl; (try simp only [show (k94).sz = 21 from rfl, Nat.mul_one, Nat.add_zero] at hx23_9); have hf23_9 := hfr23 9; (try simp only [show (k94).sz = 21 from rfl, Nat.mul_one, Nat.add_zero] at hf23_9); have hx23_10 := hcc23 10 _ rfl; (try simp only [show (k94).sz = 21 from rfl, Nat.mul_one, Nat.add_zero] at hx23_10); have hf23_10 := hfr23 10; (try simp only [show (k94).sz = 21 from rfl, Nat.mul_one, Nat.add_zero] at hf23_10); have hx23_11 := hcc23 11 _ rfl; (try simp only [show (k94).sz = 21 from rfl, Nat.mul_one, Nat.add_zero] at hx23_11); have hf23_11 := hfr23 11; (try simp only [show (k94).sz = 21 from rfl, Nat.mul_one, Nat.add_zero] at hf23_11); have hx23_12 := hcc23 12 _ rfl; (try simp only [show (k94).sz = 21 from rfl, Nat.mul_one, Nat.add_zero] at hx23_12); have hf23_12 := hfr23 12; (try simp only [show (k94).sz = 21 from rfl, Nat.mul_one, Nat.add_zero] at hf23_12); have hx23_13 := hcc23 13 _ rfl; (try simp only [show (k94).sz = 21 from rfl, Nat.mul_one, Nat.add_zero] at hx23_13); have hf23_13 := hfr23 13; (try simp only [show (k94).sz = 21 from rfl, Nat.mul_one, Nat.add_zero] at hf23_13); have hx23_14 := hcc23 14 _ rfl; (try simp only [show (k94).sz = 21 from rfl, Nat.mul_one, Nat.add_zero] at hx23_14); have hf23_14 := hfr23 14; (try simp only [show (k94).sz = 21 from rfl, Nat.mul_one, Nat.add_zero] at hf23_14); have hx23_15 := hcc23 15 _ rfl; (try simp only [show (k94).sz = 21 from rfl, Nat.mul_one, Nat.add_zero] at hx23_15); have hf23_15 := hfr23 15; (try simp only [show (k94).sz = 21 from rfl, Nat.mul_one, Nat.add_zero] at hf23_15); have hx23_16 := hcc23 16 _ rfl; (try simp only [show (k94).sz = 21 from rfl, Nat.mul_one, Nat.add_zero] at hx23_16); have hf23_16 := hfr23 16; (try simp only [show (k94).sz = 21 from rfl, Nat.mul_one, Nat.add_zero] at hf23_16); have hx23_17 := hcc23 17 _ rfl; (try simp only [show (k94).sz = 21 from rfl, Nat.mul_one, Nat.add_zero] at hx23_17); have hf23_17 := hfr23 17; (try simp only [show (k94).sz = 21 from rfl, Nat.mul_one, Nat.add_zero] at hf23_17); have hx23_18 := hcc23 18 _ rfl; (try simp only [show (k94).sz = 21 from rfl, Nat.mul_one, Nat.add_zero] at hx23_18); have hf23_18 := hfr23 18; (try simp only [show (k94).sz = 21 from rfl, Nat.mul_one, Nat.add_zero] at hf23_18); have hx23_19 := hcc23 19 _ rfl; (try simp only [show (k94).sz = 21 from rfl, Nat.mul_one, Nat.add_zero] at hx23_19); have hf23_19 := hfr23 19; (try simp only [show (k94).sz = 21 from rfl, Nat.mul_one, Nat.add_zero] at hf23_19); have hx23_20 := hcc23 20 _ rfl; (try simp only [show (k94).sz = 21 from rfl, Nat.mul_one, Nat.add_zero] at hx23_20); have hf23_20 := hfr23 20; (try simp only [show (k94).sz = 21 from rfl, Nat.mul_one, Nat.add_zero] at hf23_20); clear hcl23 hcc23 hfr23; (try clear hM23); have hcut23 := fun (a_ : Addr) => arrcut94 (a := a_) (n := 21) rfl) | ((with_reducible refine gate_builtin (b := .copy) (xs := #[.tmp 46, .tmp 47]) rfl ?_); refine copyE94 (s := .tmp 46) (x := .tmp 47) (g := go22) (off := (x30_1 : Int).toNat * 21) (l := rd_L1 l1 x30_1) rfl rfl (by first | exact rfl | (go_simp; done) | (go_simp; rfl)) (by first | exact rfl | (go_simp; done) | (go_simp; rfl)) (by first | omega | exact beq_iff_eq.mp (by first | (with_reducible assumption) | assumption)) (Kd.C_below HR219_0.out HB.out) (fun j_ hj_ => match j_, hj_ with | 0, _ => (congrArg Option.isSome hx23_0) | 1, _ => (congrArg Option.isSome hx23_1) | 2, _ => (congrArg Option.isSome hx23_2) | 3, _ => (congrArg Option.isSome hx23_3) | 4, _ => (congrArg Option.isSome hx23_4) | 5, _ => (congrArg Option.isSome hx23_5) | 6, _ => (congrArg Option.isSome hx23_6) | 7, _ => (congrArg Option.isSome hx23_7) | 8, _ => (congrArg Option.isSome hx23_8) | 9, _ => (congrArg Option.isSome hx23_9) | 10, _ => (congrArg Option.isSome hx23_10) | 11, _ => (congrArg Option.isSome hx23_11) | 12, _ => (congrArg Option.isSome hx23_12) | 13, _ => (congrArg Option.isSome hx23_13) | 14, _ => (congrArg Option.isSome hx23_14) | 15, _ => (congrArg Option.isSome hx23_15) | 16, _ => (congrArg Option.isSome hx23_16) | 17, _ => (congrArg Option.isSome hx23_17) | 18, _ => (congrArg Option.isSome hx23_18) | 19, _ => (congrArg Option.isSome hx23_19) | 20, _ => (congrArg Option.isSome hx23_20) | j_ + 21, hj_ => absurd hj_ (by omega)) (fun j_ hj_ => match j_, hj_ with | 0, _ => hf23_0 | 1, _ => hf23_1 | 2, _ => hf23_2 | 3, _ => hf23_3 | 4, _ => hf23_4 | 5, _ => hf23_5 | 6, _ => hf23_6 | 7, _ => hf23_7 | 8, _ => hf23_8 | 9, _ => hf23_9 | 10, _ => hf23_10 | 11, _ => hf23_11 | 12, _ => hf23_12 | 13, _ => hf23_13 | 14, _ => hf23_14 | 15, _ => hf23_15 | 16, _ => hf23_16 | 17, _ => hf23_17 | 18, _ => hf23_18 | 19, _ => hf23_19 | 20, _ => hf23_20 | j_ + 21, hj_ => absurd hj_ (by omega)) ?_; intro w24 hw; have hg : wr.grownBy w24 (some go22) := (by rw [hw]; exact HP23.2); have hp_ : Kd.R k94 94 w24 w.heap.size (fun _ => True) (.slice (some ⟨go22, 0, none⟩) x6_1.length co22) y221 := (by rw [hw, Ny221.out]; exact HP23.1); clear HP23; have n0_ := Aside0.mk (hp_); have n1_ := Aside0.mk (blk_grown (g := gb214) (o := .cells #[.int .i64 a0_0, .slice A0_1 l0_1.length c0_1, .int .i64 a0_2, .int .i64 a0_3, .int .i64 a0_4, .int .i64 a0_5] 30 (0, 0)) (by (with_reducible repeat (first | refine blk_drewN ?_ _ | refine blk_drew ?_ | refine blk_alloc ?_ _)); exact BK214.out) hg (Kd.R_ne HO_6.out BK214.out (by decide))); have n2_ := Aside0.mk ((by rw [hw]; exact below_set (below_set (below_set (below_set (below_set (below_set (below_set (below_set (below_set (below_set (below_set (below_set (below_set (below_set (below_set (below_set (below_set (below_set (below_set (below_set (below_set (HB.out) GB22.out) GB22.out) GB22.out) GB22.out) GB22.out) GB22.out) GB22.out) GB22.out) GB22.out) GB22.out) GB22.out) GB22.out) GB22.out) GB22.out) GB22.out) GB22.out) GB22.out) GB22.out) GB22.out) GB22.out) GB22.out : Below w.heap.size w w24)); clear HO_6; clear BK214; clear HB; have HO_6 := n0_; have BK214 := n1_; have HB := n2_; clear n0_ n1_ n2_; clear hg hw hp_))
             go_roundg k1
             case measure => have := HK1.out; omega
             case rel => exact ⟨(y221), (wrap64 (x30_1 + 1)), (by first | rfl | (simp; done) | (simp [*]; done)), H', ⟨by have := HK1.out; omega⟩, ⟨by (with_reducible repeat (first | apply Kd.R_alloc | apply Kd.R_drewN | apply Kd.R_drew)); exact HO_6.out⟩, ⟨by (with_reducible repeat (first | refine blk_drewN ?_ _ | refine blk_drew ?_ | refine blk_alloc ?_ _)); exact BK214.out⟩, ⟨by repeat (first | (with_reducible first | exact HB.out | apply below_alloc | apply pw_below_drewN | apply below_drew1 | refine below_set ?_ GE214.out) | exact HB.out)⟩⟩
            ·rw [if_neg c21] at H
             exact absurd H (by simp)
           ·replace c20 := Bool.eq_false_iff.mpr c20
            subst c20
            have H1 : (some (false, true)) = some (r1, r2) := by rw [if_neg (show ¬ (false = true) by decide)] at H; exact H
            clear H
            have H := H1
            clear H1
            simp only [Option.some.injEq, Prod.mk.injEq] at H
            obtain ⟨rfl, rfl⟩ := H
            have p219 : 0 ≤ (x30_1 : Int) := of_decide_eq_true (by first | (with_reducible assumption) | assumption)
            have q219 : x30_1 < (l1.length : Int) := of_decide_eq_true (by first | (with_reducible assumption) | assumption)
            obtain ⟨ad219, A219_0, c219_0, e219, hx219_0, hl219_0, hi219_0⟩ := at_L1 HR1.out x30_1 p219 q219
            cases e219
            replace hx219_0 := (HB.out.cell (World.block_lt_of_cell? w _ hx219_0)).trans hx219_0
            have HR219_0 := Aside0.mk hi219_0
            have HC219_0 := Aside0.mk hl219_0
            clear hi219_0 hl219_0
            replace p219 := eq_true p219
            replace q219 := eq_true q219
            go_wp2_with (first | (go_at_call 87; (with_reducible refine (impl_allWithin.calls k1 _ _ (rd_L1 l1 x30_1) (-1000000000000) 1000000000000 false _ ?side1 ?side2 A19.out).mono ?_); (case side1 => repeat (first | exact (Kd.C_below HR219_0.out HB.out) | (with_reducible refine Kd.C_alloc ?_ _) | (with_reducible refine Kd.C_drewN ?_ _) | (with_reducible refine Kd.C_drew ?_))); (case side2 => exact HC219_0.out); rintro e w' ⟨rfl, ⟨nd, rfl⟩⟩))
            go_ret2
            exact ⟨by first | rfl | (simp [errW_none, errW_some] <;> rfl) | (simp only [← hji6]; first | rfl | (simp [errW_none, errW_some] <;> rfl)) | (simp [*, errW_none, errW_some] <;> rfl), by repeat (first | (with_reducible first | exact HB.out | apply below_alloc | apply pw_below_drewN | apply below_drew1 | refine below_set ?_ GE214.out) | exact HB.out)⟩
          ·rw [if_neg c18] at H
           have c18b0 : (((rd_L1 l1 x30_1).length : Int) == 21) = false := beq_eq_false_iff_ne.mpr c18
           have c18b1 : (((rd_L1 l1 x30_1).length : Int) != 21) = true := bne_iff_ne.mpr c18
           simp only [Option.some.injEq, Prod.mk.injEq] at H
           obtain ⟨rfl, rfl⟩ := H
           have p219 : 0 ≤ (x30_1 : Int) := of_decide_eq_true (by first | (with_reducible assumption) | assumption)
           have q219 : x30_1 < (l1.length : Int) := of_decide_eq_true (by first | (with_reducible assumption) | assumption)
           obtain ⟨ad219, A219_0, c219_0, e219, hx219_0, hl219_0, hi219_0⟩ := at_L1 HR1.out x30_1 p219 q219
           cases e219
           replace hx219_0 := (HB.out.cell (World.block_lt_of_cell? w _ hx219_0)).trans hx219_0
           have HR219_0 := Aside0.mk hi219_0
           have HC219_0 := Aside0.mk hl219_0
           clear hi219_0 hl219_0
           replace p219 := eq_true p219
           replace q219 := eq_true q219
           go_wp2
           go_ret2
           exact ⟨by first | rfl | (simp [errW_none, errW_some] <;> rfl) | (simp only [← hji6]; first | rfl | (simp [errW_none, errW_some] <;> rfl)) | (simp [*, errW_none, errW_some] <;> rfl), by repeat (first | (with_reducible first | exact HB.out | apply below_alloc | apply pw_below_drewN | apply below_drew1 | refine below_set ?_ GE214.out) | exact HB.out)⟩
         ·rw [if_neg c17] at H
          exact absurd H (by simp)
        ·rw [if_neg c16] at H
         exact absurd H (by simp)
       ·rw [if_neg c15] at H
        have c15b0 : decide (x30_1 < (l1.length : Int)) = false := decide_eq_false c15
        clear c15
        by_cases c25 : 0 ≤ a0_0
        ·rw [if_pos c25] at H
         have c25b0 : decide (0 ≤ a0_0) = true := decide_eq_true c25
         clear c25
         by_cases c26 : a0_0 < (x6_1.length : Int)
         ·rw [if_pos c26] at H
          have c26b0 : decide (a0_0 < (x6_1.length : Int)) = true := decide_eq_true c26
          clear c26
          have H' := Aside0.mk H
          clear H
          have hcz27_0 : wr.cell? ⟨gb214, 0, none⟩ = some (.int .i64 a0_0) := (blk_cell BK214.out 0).trans rfl
          have hcz27_1 : wr.cell? ⟨gb214, 1, none⟩ = some (.slice A0_1 l0_1.length c0_1) := (blk_cell BK214.out 1).trans rfl
          have hcz27_2 : wr.cell? ⟨gb214, 2, none⟩ = some (.int .i64 a0_2) := (blk_cell BK214.out 2).trans rfl
          have hcz27_3 : wr.cell? ⟨gb214, 3, none⟩ = some (.int .i64 a0_3) := (blk_cell BK214.out 3).trans rfl
          have hcz27_4 : wr.cell? ⟨gb214, 4, none⟩ = some (.int .i64 a0_4) := (blk_cell BK214.out 4).trans rfl
          have hcz27_5 : wr.cell? ⟨gb214, 5, none⟩ = some (.int .i64 a0_5) := (blk_cell BK214.out 5).trans rfl
          have hfz27_0 := blk_frozen BK214.out 0
          have hfz27_1 := blk_frozen BK214.out 1
          have hfz27_2 := blk_frozen BK214.out 2
          have hfz27_3 := blk_frozen BK214.out 3
          have hfz27_4 := blk_frozen BK214.out 4
          have hfz27_5 := blk_frozen BK214.out 5
          obtain ⟨Ao28, co28, eo28⟩ := Kd.R_slice HO_6.out
          subst eo28
          have p222 : 0 ≤ (a0_0 : Int) := of_decide_eq_true (by first | (with_reducible assumption) | assumption)
          have q222 : a0_0 < (x6_1.length : Int) := of_decide_eq_true (by first | (with_reducible assumption) | assumption)
          obtain ⟨ad222, e222, hx222_0, hx222_1, hx222_2, hx222_3, hx222_4, hx222_5, hx222_6, hx222_7, hx222_8, hx222_9, hx222_10, hx222_11, hx222_12, hx222_13, hx222_14, hx222_15, hx222_16, hx222_17, hx222_18, hx222_19, hx222_20⟩ := at_T94 (Kd.R_reads' HO_6.out).2.2 a0_0 p222 q222
          cases e222
          replace p222 := eq_true p222
          replace q222 := eq_true q222
          go_wp2_with (first | ((with_reducible refine gateL94 rfl ?_); refine loadE94 rfl (by exact rfl) (by exact rfl) hx222_0 hx222_1 hx222_2 hx222_3 hx222_4 hx222_5 hx222_6 hx222_7 hx222_8 hx222_9 hx222_10 hx222_11 hx222_12 hx222_13 hx222_14 hx222_15 hx222_16 hx222_17 hx222_18 hx222_19 hx222_20 ?_))
          go_loopg [55] k1 (fun kq v55 w' => ∃ (x55_2 : Int), v55 = .int .i64 x55_2 ∧ Aside0 (impl_IsWorthProof.l1 kq x6_1 x6_1 a0_0 x55_2 a0_0 l0_1 a0_2 a0_3 a0_4 a0_5 = some (r1, r2)) ∧ Aside0 (kq ≤ k1) ∧ Aside0 (Kd.R k94 94 w' w.heap.size (fun _ => True) (.slice (some ad222) x6_1.length co28) x6_1) ∧ Aside0 (Kd.R k94 94 w' w.heap.size (fun _ => True) (.slice (some ad222) x6_1.length co28) x6_1) ∧ Aside0 (w'.heap[gb214]? = some (.cells #[.int .i64 a0_0, (.slice A0_1 l0_1.length c0_1), .int .i64 a0_2, .int .i64 a0_3, .int .i64 a0_4, .int .i64 a0_5] 30 (0, 0))) ∧ Aside0 (Below w.heap.size w w'))
          case atStart => exact ⟨(0), (by first | rfl | (simp; done) | (simp [*]; done)), H', ⟨Nat.le_refl _⟩, ⟨by (with_reducible repeat (first | apply Kd.R_alloc | apply Kd.R_drewN | apply Kd.R_drew)); exact HO_6.out⟩, ⟨by (with_reducible repeat (first | apply Kd.R_alloc | apply Kd.R_drewN | apply Kd.R_drew)); exact HO_6.out⟩, ⟨by (with_reducible repeat (first | refine blk_drewN ?_ _ | refine blk_drew ?_ | refine blk_alloc ?_ _)); exact BK214.out⟩, ⟨by repeat (first | (with_reducible first | exact HB.out | apply below_alloc | apply pw_below_drewN | apply below_drew1 | refine below_set ?_ GE214.out) | exact HB.out)⟩⟩
          case round =>
           clear H'
           try clear c1
           try clear c2
           try clear p2
           try clear q2
           try clear hx2
           try clear hf2
           try clear c4
           try clear c5
           try clear c5b0
           try clear c5b1
           try clear p6
           try clear c7
           try clear c7b0
           try clear c7b1
           try clear c8
           try clear c8b0
           try clear c8b1
           try clear c15
           try clear c15b0
           try clear c16
           try clear c16b0
           try clear c17
           try clear c17b0
           try clear c18
           try clear c18b0
           try clear c18b1
           try clear c20
           try clear c21
           try clear c21b0
           try clear p21
           try clear q21
           try clear hx21
           try clear c22
           try clear p22
           try clear q22
           try clear hx22
           try clear hf22
           try clear c23
           try clear hx23
           try clear hf23
           try clear c25
           try clear c25b0
           try clear c26
           try clear c26b0
           try clear hcz10_0
           try clear hcz10_1
           try clear hcz10_2
           try clear hcz10_3
           try clear hcz10_4
           try clear hcz10_5
           try clear hcz12_0
           try clear hcz12_1
           try clear hcz12_2
           try clear hcz12_3
           try clear hcz12_4
           try clear hcz12_5
           try clear hcz27_0
           try clear hcz27_1
           try clear hcz27_2
           try clear hcz27_3
           try clear hcz27_4
           try clear hcz27_5
           try clear hfz10_0
           try clear hfz10_1
           try clear hfz10_2
           try clear hfz10_3
           try clear hfz10_4
           try clear hfz10_5
           try clear hfz12_0
           try clear hfz12_1
           try clear hfz12_2
           try clear hfz12_3
           try clear hfz12_4
           try clear hfz12_5
           try clear hfz27_0
           try clear hfz27_1
           try clear hfz27_2
           try clear hfz27_3
           try clear hfz27_4
           try clear hfz27_5
           try clear hx219_0
           try clear hx222_0
           try clear hx222_1
           try clear hx222_10
           try clear hx222_11
           try clear hx222_12
           try clear hx222_13
           try clear hx222_14
           try clear hx222_15
           try clear hx222_16
           try clear hx222_17
           try clear hx222_18
           try clear hx222_19
           try clear hx222_2
           try clear hx222_20
           try clear hx222_3
           try clear hx222_4
           try clear hx222_5
           try clear hx222_6
           try clear hx222_7
           try clear hx222_8
           try clear hx222_9
           try clear hx22_0
           try clear hx22_1
           try clear hx22_10
           try clear hx22_11
           try clear hx22_12
           try clear hx22_13
           try clear hx22_14
           try clear hx22_15
           try clear hx22_16
           try clear hx22_17
           try clear hx22_18
           try clear hx22_19
           try clear hx22_2
           try clear hx22_20
           try clear hx22_3
           try clear hx22_4
           try clear hx22_5
           try clear hx22_6
           try clear hx22_7
           try clear hx22_8
           try clear hx22_9
           try clear hx23_0
           try clear hx23_1
           try clear hx23_10
           try clear hx23_11
           try clear hx23_12
           try clear hx23_13
           try clear hx23_14
           try clear hx23_15
           try clear hx23_16
           try clear hx23_17
           try clear hx23_18
           try clear hx23_19
           try clear hx23_2
           try clear hx23_20
           try clear hx23_3
           try clear hx23_4
           try clear hx23_5
           try clear hx23_6
           try clear hx23_7
           try clear hx23_8
           try clear hx23_9
           try clear p2
           try clear p219
           try clear p22
           try clear p222
           try clear p6
           try clear q219
           try clear q22
           try clear q222
           obtain ⟨x55_2, rfl, HA, HK2, HO_6, HO_50, BK214, HB⟩ := hrel
           cases gk with
           | zero => exact absurd HA.out (by simp [impl_IsWorthProof.l1])
           | succ k2 =>
            have H := HA.out
            clear HA
            simp only [impl_IsWorthProof.l1] at H
            by_cases c29 : x55_2 < 21
            ·rw [if_pos c29] at H
             have c29b0 : decide (x55_2 < 21) = true := decide_eq_true c29
             clear c29
             by_cases c30 : x55_2 = 0
             ·subst c30
              have H1 : (if ((rd_T94 x6_1 a0_0).f0) > 0 then (some (false, true)) else (impl_IsWorthProof.l1 k2 x6_1 x6_1 a0_0 1 a0_0 l0_1 a0_2 a0_3 a0_4 a0_5)) = some (r1, r2) := by rw [if_pos rfl] at H; (try rw [show wrap64 (0 + 1) = 1 from by unfold wrap64; omega] at H); exact H
              clear H
              have H := H1
              clear H1
              by_cases c31 : ((rd_T94 x6_1 a0_0).f0) > 0
              ·rw [if_pos c31] at H
               have c31b0 : decide (0 < ((rd_T94 x6_1 a0_0).f0)) = true := decide_eq_true c31
               clear c31
               simp only [Option.some.injEq, Prod.mk.injEq] at H
               obtain ⟨rfl, rfl⟩ := H
               go_wp2
               go_ret2
               exact ⟨by first | rfl | (simp [errW_none, errW_some] <;> rfl) | (simp only [← hji6]; first | rfl | (simp [errW_none, errW_some] <;> rfl)) | (simp [*, errW_none, errW_some] <;> rfl), by repeat (first | (with_reducible first | exact HB.out | apply below_alloc | apply pw_below_drewN | apply below_drew1 | refine below_set ?_ GE214.out) | exact HB.out)⟩
              ·rw [if_neg c31] at H
               have c31b0 : decide (0 < ((rd_T94 x6_1 a0_0).f0)) = false := decide_eq_false c31
               clear c31
               have H' := Aside0.mk H
               clear H
               go_wp2
               go_roundg k2
               case measure => have := HK1.out; have := HK2.out; omega
               case rel => exact ⟨(1), (by first | rfl | (simp; done) | (simp [*]; done)), H', ⟨by have := HK1.out; have := HK2.out; omega⟩, ⟨by (with_reducible repeat (first | apply Kd.R_alloc | apply Kd.R_drewN | apply Kd.R_drew)); exact HO_6.out⟩, ⟨by (with_reducible repeat (first | apply Kd.R_alloc | apply Kd.R_drewN | apply Kd.R_drew)); exact HO_50.out⟩, ⟨by (with_reducible repeat (first | refine blk_drewN ?_ _ | refine blk_drew ?_ | refine blk_alloc ?_ _)); exact BK214.out⟩, ⟨by repeat (first | (with_reducible first | exact HB.out | apply below_alloc | apply pw_below_drewN | apply below_drew1 | refine below_set ?_ GE214.out) | exact HB.out)⟩⟩
             ·rw [if_neg c30] at H
              by_cases c32 : x55_2 = 1
              ·subst c32
               have H1 : (if ((rd_T94 x6_1 a0_0).f1) > 0 then (some (false, true)) else (impl_IsWorthProof.l1 k2 x6_1 x6_1 a0_0 2 a0_0 l0_1 a0_2 a0_3 a0_4 a0_5)) = some (r1, r2) := by rw [if_pos rfl] at H; (try rw [show wrap64 (1 + 1) = 2 from by unfold wrap64; omega] at H); exact H
               clear H
               have H := H1
               clear H1
               by_cases c33 : ((rd_T94 x6_1 a0_0).f1) > 0
               ·rw [if_pos c33] at H
                have c33b0 : decide (0 < ((rd_T94 x6_1 a0_0).f1)) = true := decide_eq_true c33
                clear c33
                simp only [Option.some.injEq, Prod.mk.injEq] at H
                obtain ⟨rfl, rfl⟩ := H
                go_wp2
                go_ret2
                exact ⟨by first | rfl | (simp [errW_none, errW_some] <;> rfl) | (simp only [← hji6]; first | rfl | (simp [errW_none, errW_some] <;> rfl)) | (simp [*, errW_none, errW_some] <;> rfl), by repeat (first | (with_reducible first | exact HB.out | apply below_alloc | apply pw_below_drewN | apply below_drew1 | refine below_set ?_ GE214.out) | exact HB.out)⟩
               ·rw [if_neg c33] at H
                have c33b0 : decide (0 < ((rd_T94 x6_1 a0_0).f1)) = false := decide_eq_false c33
                clear c33
                have H' := Aside0.mk H
                clear H
                go_wp2
                go_roundg k2
                case measure => have := HK1.out; have := HK2.out; omega
                case rel => exact ⟨(2), (by first | rfl | (simp; done) | (simp [*]; done)), H', ⟨by have := HK1.out; have := HK2.out; omega⟩, ⟨by (with_reducible repeat (first | apply Kd.R_alloc | apply Kd.R_drewN | apply Kd.R_drew)); exact HO_6.out⟩, ⟨by (with_reducible repeat (first | apply Kd.R_alloc | apply Kd.R_drewN | apply Kd.R_drew)); exact HO_50.out⟩, ⟨by (with_reducible repeat (first | refine blk_drewN ?_ _ | refine blk_drew ?_ | refine blk_alloc ?_ _)); exact BK214.out⟩, ⟨by repeat (first | (with_reducible first | exact HB.out | apply below_alloc | apply pw_below_drewN | apply below_drew1 | refine below_set ?_ GE214.out) | exact HB.out)⟩⟩
              ·rw [if_neg c32] at H
               by_cases c34 : x55_2 = 2
               ·subst c34
                have H1 : (if ((rd_T94 x6_1 a0_0).f2) > 0 then (some (false, true)) else (impl_IsWorthProof.l1 k2 x6_1 x6_1 a0_0 3 a0_0 l0_1 a0_2 a0_3 a0_4 a0_5)) = some (r1, r2) := by rw [if_pos rfl] at H; (try rw [show wrap64 (2 + 1) = 3 from by unfold wrap64; omega] at H); exact H
                clear H
                have H := H1
                clear H1
                by_cases c35 : ((rd_T94 x6_1 a0_0).f2) > 0
                ·rw [if_pos c35] at H
                 have c35b0 : decide (0 < ((rd_T94 x6_1 a0_0).f2)) = true := decide_eq_true c35
                 clear c35
                 simp only [Option.some.injEq, Prod.mk.injEq] at H
                 obtain ⟨rfl, rfl⟩ := H
                 go_wp2
                 go_ret2
                 exact ⟨by first | rfl | (simp [errW_none, errW_some] <;> rfl) | (simp only [← hji6]; first | rfl | (simp [errW_none, errW_some] <;> rfl)) | (simp [*, errW_none, errW_some] <;> rfl), by repeat (first | (with_reducible first | exact HB.out | apply below_alloc | apply pw_below_drewN | apply below_drew1 | refine below_set ?_ GE214.out) | exact HB.out)⟩
                ·rw [if_neg c35] at H
                 have c35b0 : decide (0 < ((rd_T94 x6_1 a0_0).f2)) = false := decide_eq_false c35
                 clear c35
                 have H' := Aside0.mk H
                 clear H
                 go_wp2
                 go_roundg k2
                 case measure => have := HK1.out; have := HK2.out; omega
                 case rel => exact ⟨(3), (by first | rfl | (simp; done) | (simp [*]; done)), H', ⟨by have := HK1.out; have := HK2.out; omega⟩, ⟨by (with_reducible repeat (first | apply Kd.R_alloc | apply Kd.R_drewN | apply Kd.R_drew)); exact HO_6.out⟩, ⟨by (with_reducible repeat (first | apply Kd.R_alloc | apply Kd.R_drewN | apply Kd.R_drew)); exact HO_50.out⟩, ⟨by (with_reducible repeat (first | refine blk_drewN ?_ _ | refine blk_drew ?_ | refine blk_alloc ?_ _)); exact BK214.out⟩, ⟨by repeat (first | (with_reducible first | exact HB.out | apply below_alloc | apply pw_below_drewN | apply below_drew1 | refine below_set ?_ GE214.out) | exact HB.out)⟩⟩
               ·rw [if_neg c34] at H
                by_cases c36 : x55_2 = 3
                ·subst c36
                 have H1 : (if ((rd_T94 x6_1 a0_0).f3) > 0 then (some (false, true)) else (impl_IsWorthProof.l1 k2 x6_1 x6_1 a0_0 4 a0_0 l0_1 a0_2 a0_3 a0_4 a0_5)) = some (r1, r2) := by rw [if_pos rfl] at H; (try rw [show wrap64 (3 + 1) = 4 from by unfold wrap64; omega] at H); exact H
                 clear H
                 have H := H1
                 clear H1
                 by_cases c37 : ((rd_T94 x6_1 a0_0).f3) > 0
                 ·rw [if_pos c37] at H
                  have c37b0 : decide (0 < ((rd_T94 x6_1 a0_0).f3)) = true := decide_eq_true c37
                  clear c37
                  simp only [Option.some.injEq, Prod.mk.injEq] at H
                  obtain ⟨rfl, rfl⟩ := H
                  go_wp2
                  go_ret2
                  exact ⟨by first | rfl | (simp [errW_none, errW_some] <;> rfl) | (simp only [← hji6]; first | rfl | (simp [errW_none, errW_some] <;> rfl)) | (simp [*, errW_none, errW_some] <;> rfl), by repeat (first | (with_reducible first | exact HB.out | apply below_alloc | apply pw_below_drewN | apply below_drew1 | refine below_set ?_ GE214.out) | exact HB.out)⟩
                 ·rw [if_neg c37] at H
                  have c37b0 : decide (0 < ((rd_T94 x6_1 a0_0).f3)) = false := decide_eq_false c37
                  clear c37
                  have H' := Aside0.mk H
                  clear H
                  go_wp2
                  go_roundg k2
                  case measure => have := HK1.out; have := HK2.out; omega
                  case rel => exact ⟨(4), (by first | rfl | (simp; done) | (simp [*]; done)), H', ⟨by have := HK1.out; have := HK2.out; omega⟩, ⟨by (with_reducible repeat (first | apply Kd.R_alloc | apply Kd.R_drewN | apply Kd.R_drew)); exact HO_6.out⟩, ⟨by (with_reducible repeat (first | apply Kd.R_alloc | apply Kd.R_drewN | apply Kd.R_drew)); exact HO_50.out⟩, ⟨by (with_reducible repeat (first | refine blk_drewN ?_ _ | refine blk_drew ?_ | refine blk_alloc ?_ _)); exact BK214.out⟩, ⟨by repeat (first | (with_reducible first | exact HB.out | apply below_alloc | apply pw_below_drewN | apply below_drew1 | refine below_set ?_ GE214.out) | exact HB.out)⟩⟩
                ·rw [if_neg c36] at H
                 by_cases c38 : x55_2 = 4
                 ·subst c38
                  have H1 : (if ((rd_T94 x6_1 a0_0).f4) > 0 then (some (false, true)) else (impl_IsWorthProof.l1 k2 x6_1 x6_1 a0_0 5 a0_0 l0_1 a0_2 a0_3 a0_4 a0_5)) = some (r1, r2) := by rw [if_pos rfl] at H; (try rw [show wrap64 (4 + 1) = 5 from by unfold wrap64; omega] at H); exact H
                  clear H
                  have H := H1
                  clear H1
                  by_cases c39 : ((rd_T94 x6_1 a0_0).f4) > 0
                  ·rw [if_pos c39] at H
                   have c39b0 : decide (0 < ((rd_T94 x6_1 a0_0).f4)) = true := decide_eq_true c39
                   clear c39
                   simp only [Option.some.injEq, Prod.mk.injEq] at H
                   obtain ⟨rfl, rfl⟩ := H
                   go_wp2
                   go_ret2
                   exact ⟨by first | rfl | (simp [errW_none, errW_some] <;> rfl) | (simp only [← hji6]; first | rfl | (simp [errW_none, errW_some] <;> rfl)) | (simp [*, errW_none, errW_some] <;> rfl), by repeat (first | (with_reducible first | exact HB.out | apply below_alloc | apply pw_below_drewN | apply below_drew1 | refine below_set ?_ GE214.out) | exact HB.out)⟩
                  ·rw [if_neg c39] at H
                   have c39b0 : decide (0 < ((rd_T94 x6_1 a0_0).f4)) = false := decide_eq_false c39
                   clear c39
                   have H' := Aside0.mk H
                   clear H
                   go_wp2
                   go_roundg k2
                   case measure => have := HK1.out; have := HK2.out; omega
                   case rel => exact ⟨(5), (by first | rfl | (simp; done) | (simp [*]; done)), H', ⟨by have := HK1.out; have := HK2.out; omega⟩, ⟨by (with_reducible repeat (first | apply Kd.R_alloc | apply Kd.R_drewN | apply Kd.R_drew)); exact HO_6.out⟩, ⟨by (with_reducible repeat (first | apply Kd.R_alloc | apply Kd.R_drewN | apply Kd.R_drew)); exact HO_50.out⟩, ⟨by (with_reducible repeat (first | refine blk_drewN ?_ _ | refine blk_drew ?_ | refine blk_alloc ?_ _)); exact BK214.out⟩, ⟨by repeat (first | (with_reducible first | exact HB.out | apply below_alloc | apply pw_below_drewN | apply below_drew1 | refine below_set ?_ GE214.out) | exact HB.out)⟩⟩
                 ·rw [if_neg c38] at H
                  by_cases c40 : x55_2 = 5
                  ·subst c40
                   have H1 : (if ((rd_T94 x6_1 a0_0).f5) > 0 then (some (false, true)) else (impl_IsWorthProof.l1 k2 x6_1 x6_1 a0_0 6 a0_0 l0_1 a0_2 a0_3 a0_4 a0_5)) = some (r1, r2) := by rw [if_pos rfl] at H; (try rw [show wrap64 (5 + 1) = 6 from by unfold wrap64; omega] at H); exact H
                   clear H
                   have H := H1
                   clear H1
                   by_cases c41 : ((rd_T94 x6_1 a0_0).f5) > 0
                   ·rw [if_pos c41] at H
                    have c41b0 : decide (0 < ((rd_T94 x6_1 a0_0).f5)) = true := decide_eq_true c41
                    clear c41
                    simp only [Option.some.injEq, Prod.mk.injEq] at H
                    obtain ⟨rfl, rfl⟩ := H
                    go_wp2
                    go_ret2
                    exact ⟨by first | rfl | (simp [errW_none, errW_some] <;> rfl) | (simp only [← hji6]; first | rfl | (simp [errW_none, errW_some] <;> rfl)) | (simp [*, errW_none, errW_some] <;> rfl), by repeat (first | (with_reducible first | exact HB.out | apply below_alloc | apply pw_below_drewN | apply below_drew1 | refine below_set ?_ GE214.out) | exact HB.out)⟩
                   ·rw [if_neg c41] at H
                    have c41b0 : decide (0 < ((rd_T94 x6_1 a0_0).f5)) = false := decide_eq_false c41
                    clear c41
                    have H' := Aside0.mk H
                    clear H
                    go_wp2
                    go_roundg k2
                    case measure => have := HK1.out; have := HK2.out; omega
                    case rel => exact ⟨(6), (by first | rfl | (simp; done) | (simp [*]; done)), H', ⟨by have := HK1.out; have := HK2.out; omega⟩, ⟨by (with_reducible repeat (first | apply Kd.R_alloc | apply Kd.R_drewN | apply Kd.R_drew)); exact HO_6.out⟩, ⟨by (with_reducible repeat (first | apply Kd.R_alloc | apply Kd.R_drewN | apply Kd.R_drew)); exact HO_50.out⟩, ⟨by (with_reducible repeat (first | refine blk_drewN ?_ _ | refine blk_drew ?_ | refine blk_alloc ?_ _)); exact BK214.out⟩, ⟨by repeat (first | (with_reducible first | exact HB.out | apply below_alloc | apply pw_below_drewN | apply below_drew1 | refine below_set ?_ GE214.out) | exact HB.out)⟩⟩
                  ·rw [if_neg c40] at H
                   by_cases c42 : x55_2 = 6
                   ·subst c42
                    have H1 : (if ((rd_T94 x6_1 a0_0).f6) > 0 then (some (false, true)) else (impl_IsWorthProof.l1 k2 x6_1 x6_1 a0_0 7 a0_0 l0_1 a0_2 a0_3 a0_4 a0_5)) = some (r1, r2) := by rw [if_pos rfl] at H; (try rw [show wrap64 (6 + 1) = 7 from by unfold wrap64; omega] at H); exact H
                    clear H
                    have H := H1
                    clear H1
                    by_cases c43 : ((rd_T94 x6_1 a0_0).f6) > 0
                    ·rw [if_pos c43] at H
                     have c43b0 : decide (0 < ((rd_T94 x6_1 a0_0).f6)) = true := decide_eq_true c43
                     clear c43
                     simp only [Option.some.injEq, Prod.mk.injEq] at H
                     obtain ⟨rfl, rfl⟩ := H
                     go_wp2
                     go_ret2
                     exact ⟨by first | rfl | (simp [errW_none, errW_some] <;> rfl) | (simp only [← hji6]; first | rfl | (simp [errW_none, errW_some] <;> rfl)) | (simp [*, errW_none, errW_some] <;> rfl), by repeat (first | (with_reducible first | exact HB.out | apply below_alloc | apply pw_below_drewN | apply below_drew1 | refine below_set ?_ GE214.out) | exact HB.out)⟩
                    ·rw [if_neg c43] at H
                     have c43b0 : decide (0 < ((rd_T94 x6_1 a0_0).f6)) = false := decide_eq_false c43
                     clear c43
                     have H' := Aside0.mk H
                     clear H
                     go_wp2
                     go_roundg k2
                     case measure => have := HK1.out; have := HK2.out; omega
                     case rel => exact ⟨(7), (by first | rfl | (simp; done) | (simp [*]; done)), H', ⟨by have := HK1.out; have := HK2.out; omega⟩, ⟨by (with_reducible repeat (first | apply Kd.R_alloc | apply Kd.R_drewN | apply Kd.R_drew)); exact HO_6.out⟩, ⟨by (with_reducible repeat (first | apply Kd.R_alloc | apply Kd.R_drewN | apply Kd.R_drew)); exact HO_50.out⟩, ⟨by (with_reducible repeat (first | refine blk_drewN ?_ _ | refine blk_drew ?_ | refine blk_alloc ?_ _)); exact BK214.out⟩, ⟨by repeat (first | (with_reducible first | exact HB.out | apply below_alloc | apply pw_below_drewN | apply below_drew1 | refine below_set ?_ GE214.out) | exact HB.out)⟩⟩
                   ·rw [if_neg c42] at H
                    by_cases c44 : x55_2 = 7
                    ·subst c44
                     have H1 : (if ((rd_T94 x6_1 a0_0).f7) > 0 then (some (false, true)) else (impl_IsWorthProof.l1 k2 x6_1 x6_1 a0_0 8 a0_0 l0_1 a0_2 a0_3 a0_4 a0_5)) = some (r1, r2) := by rw [if_pos rfl] at H; (try rw [show wrap64 (7 + 1) = 8 from by unfold wrap64; omega] at H); exact H
                     clear H
                     have H := H1
                     clear H1
                     by_cases c45 : ((rd_T94 x6_1 a0_0).f7) > 0
                     ·rw [if_pos c45] at H
                      have c45b0 : decide (0 < ((rd_T94 x6_1 a0_0).f7)) = true := decide_eq_true c45
                      clear c45
                      simp only [Option.some.injEq, Prod.mk.injEq] at H
                      obtain ⟨rfl, rfl⟩ := H
                      go_wp2
                      go_ret2
                      exact ⟨by first | rfl | (simp [errW_none, errW_some] <;> rfl) | (simp only [← hji6]; first | rfl | (simp [errW_none, errW_some] <;> rfl)) | (simp [*, errW_none, errW_some] <;> rfl), by repeat (first | (with_reducible first | exact HB.out | apply below_alloc | apply pw_below_drewN | apply below_drew1 | refine below_set ?_ GE214.out) | exact HB.out)⟩
                     ·rw [if_neg c45] at H
                      have c45b0 : decide (0 < ((rd_T94 x6_1 a0_0).f7)) = false := decide_eq_false c45
                      clear c45
                      have H' := Aside0.mk H
                      clear H
                      go_wp2
                      go_roundg k2
                      case measure => have := HK1.out; have := HK2.out; omega
                      case rel => exact ⟨(8), (by first | rfl | (simp; done) | (simp [*]; done)), H', ⟨by have := HK1.out; have := HK2.out; omega⟩, ⟨by (with_reducible repeat (first | apply Kd.R_alloc | apply Kd.R_drewN | apply Kd.R_drew)); exact HO_6.out⟩, ⟨by (with_reducible repeat (first | apply Kd.R_alloc | apply Kd.R_drewN | apply Kd.R_drew)); exact HO_50.out⟩, ⟨by (with_reducible repeat (first | refine blk_drewN ?_ _ | refine blk_drew ?_ | refine blk_alloc ?_ _)); exact BK214.out⟩, ⟨by repeat (first | (with_reducible first | exact HB.out | apply below_alloc | apply pw_below_drewN | apply below_drew1 | refine below_set ?_ GE214.out) | exact HB.out)⟩⟩
                    ·rw [if_neg c44] at H
                     by_cases c46 : x55_2 = 8
                     ·subst c46
                      have H1 : (if ((rd_T94 x6_1 a0_0).f8) > 0 then (some (false, true)) else (impl_IsWorthProof.l1 k2 x6_1 x6_1 a0_0 9 a0_0 l0_1 a0_2 a0_3 a0_4 a0_5)) = some (r1, r2) := by rw [if_pos rfl] at H; (try rw [show wrap64 (8 + 1) = 9 from by unfold wrap64; omega] at H); exact H
                      clear H
                      have H := H1
                      clear H1
                      by_cases c47 : ((rd_T94 x6_1 a0_0).f8) > 0
                      ·rw [if_pos c47] at H
                       have c47b0 : decide (0 < ((rd_T94 x6_1 a0_0).f8)) = true := decide_eq_true c47
                       clear c47
                       simp only [Option.some.injEq, Prod.mk.injEq] at H
                       obtain ⟨rfl, rfl⟩ := H
                       go_wp2
                       go_ret2
                       exact ⟨by first | rfl | (simp [errW_none, errW_some] <;> rfl) | (simp only [← hji6]; first | rfl | (simp [errW_none, errW_some] <;> rfl)) | (simp [*, errW_none, errW_some] <;> rfl), by repeat (first | (with_reducible first | exact HB.out | apply below_alloc | apply pw_below_drewN | apply below_drew1 | refine below_set ?_ GE214.out) | exact HB.out)⟩
                      ·rw [if_neg c47] at H
                       have c47b0 : decide (0 < ((rd_T94 x6_1 a0_0).f8)) = false := decide_eq_false c47
                       clear c47
                       have H' := Aside0.mk H
                       clear H
                       go_wp2
                       go_roundg k2
                       case measure => have := HK1.out; have := HK2.out; omega
                       case rel => exact ⟨(9), (by first | rfl | (simp; done) | (simp [*]; done)), H', ⟨by have := HK1.out; have := HK2.out; omega⟩, ⟨by (with_reducible repeat (first | apply Kd.R_alloc | apply Kd.R_drewN | apply Kd.R_drew)); exact HO_6.out⟩, ⟨by (with_reducible repeat (first | apply Kd.R_alloc | apply Kd.R_drewN | apply Kd.R_drew)); exact HO_50.out⟩, ⟨by (with_reducible repeat (first | refine blk_drewN ?_ _ | refine blk_drew ?_ | refine blk_alloc ?_ _)); exact BK214.out⟩, ⟨by repeat (first | (with_reducible first | exact HB.out | apply below_alloc | apply pw_below_drewN | apply below_drew1 | refine below_set ?_ GE214.out) | exact HB.out)⟩⟩
                     ·rw [if_neg c46] at H
                      by_cases c48 : x55_2 = 9
                      ·subst c48
                       have H1 : (if ((rd_T94 x6_1 a0_0).f9) > 0 then (some (false, true)) else (impl_IsWorthProof.l1 k2 x6_1 x6_1 a0_0 10 a0_0 l0_1 a0_2 a0_3 a0_4 a0_5)) = some (r1, r2) := by rw [if_pos rfl] at H; (try rw [show wrap64 (9 + 1) = 10 from by unfold wrap64; omega] at H); exact H
                       clear H
                       have H := H1
                       clear H1
                       by_cases c49 : ((rd_T94 x6_1 a0_0).f9) > 0
                       ·rw [if_pos c49] at H
                        have c49b0 : decide (0 < ((rd_T94 x6_1 a0_0).f9)) = true := decide_eq_true c49
                        clear c49
                        simp only [Option.some.injEq, Prod.mk.injEq] at H
                        obtain ⟨rfl, rfl⟩ := H
                        go_wp2
                        go_ret2
                        exact ⟨by first | rfl | (simp [errW_none, errW_some] <;> rfl) | (simp only [← hji6]; first | rfl | (simp [errW_none, errW_some] <;> rfl)) | (simp [*, errW_none, errW_some] <;> rfl), by repeat (first | (with_reducible first | exact HB.out | apply below_alloc | apply pw_below_drewN | apply below_drew1 | refine below_set ?_ GE214.out) | exact HB.out)⟩
                       ·rw [if_neg c49] at H
                        have c49b0 : decide (0 < ((rd_T94 x6_1 a0_0).f9)) = false := decide_eq_false c49
                        clear c49
                        have H' := Aside0.mk H
                        clear H
                        go_wp2
                        go_roundg k2
                        case measure => have := HK1.out; have := HK2.out; omega
                        case rel => exact ⟨(10), (by first | rfl | (simp; done) | (simp [*]; done)), H', ⟨by have := HK1.out; have := HK2.out; omega⟩, ⟨by (with_reducible repeat (first | apply Kd.R_alloc | apply Kd.R_drewN | apply Kd.R_drew)); exact HO_6.out⟩, ⟨by (with_reducible repeat (first | apply Kd.R_alloc | apply Kd.R_drewN | apply Kd.R_drew)); exact HO_50.out⟩, ⟨by (with_reducible repeat (first | refine blk_drewN ?_ _ | refine blk_drew ?_ | refine blk_alloc ?_ _)); exact BK214.out⟩, ⟨by repeat (first | (with_reducible first | exact HB.out | apply below_alloc | apply pw_below_drewN | apply below_drew1 | refine below_set ?_ GE214.out) | exact HB.out)⟩⟩
                      ·rw [if_neg c48] at H
                       by_cases c50 : x55_2 = 10
                       ·subst c50
                        have H1 : (if ((rd_T94 x6_1 a0_0).f10) > 0 then (some (false, true)) else (impl_IsWorthProof.l1 k2 x6_1 x6_1 a0_0 11 a0_0 l0_1 a0_2 a0_3 a0_4 a0_5)) = some (r1, r2) := by rw [if_pos rfl] at H; (try rw [show wrap64 (10 + 1) = 11 from by unfold wrap64; omega] at H); exact H
                        clear H
                        have H := H1
                        clear H1
                        by_cases c51 : ((rd_T94 x6_1 a0_0).f10) > 0
                        ·rw [if_pos c51] at H
                         have c51b0 : decide (0 < ((rd_T94 x6_1 a0_0).f10)) = true := decide_eq_true c51
                         clear c51
                         simp only [Option.some.injEq, Prod.mk.injEq] at H
                         obtain ⟨rfl, rfl⟩ := H
                         go_wp2
                         go_ret2
                         exact ⟨by first | rfl | (simp [errW_none, errW_some] <;> rfl) | (simp only [← hji6]; first | rfl | (simp [errW_none, errW_some] <;> rfl)) | (simp [*, errW_none, errW_some] <;> rfl), by repeat (first | (with_reducible first | exact HB.out | apply below_alloc | apply pw_below_drewN | apply below_drew1 | refine below_set ?_ GE214.out) | exact HB.out)⟩
                        ·rw [if_neg c51] at H
                         have c51b0 : decide (0 < ((rd_T94 x6_1 a0_0).f10)) = false := decide_eq_false c51
                         clear c51
                         have H' := Aside0.mk H
                         clear H
                         go_wp2
                         go_roundg k2
                         case measure => have := HK1.out; have := HK2.out; omega
                         case rel => exact ⟨(11), (by first | rfl | (simp; done) | (simp [*]; done)), H', ⟨by have := HK1.out; have := HK2.out; omega⟩, ⟨by (with_reducible repeat (first | apply Kd.R_alloc | apply Kd.R_drewN | apply Kd.R_drew)); exact HO_6.out⟩, ⟨by (with_reducible repeat (first | apply Kd.R_alloc | apply Kd.R_drewN | apply Kd.R_drew)); exact HO_50.out⟩, ⟨by (with_reducible repeat (first | refine blk_drewN ?_ _ | refine blk_drew ?_ | refine blk_alloc ?_ _)); exact BK214.out⟩, ⟨by repeat (first | (with_reducible first | exact HB.out | apply below_alloc | apply pw_below_drewN | apply below_drew1 | refine below_set ?_ GE214.out) | exact HB.out)⟩⟩
                       ·rw [if_neg c50] at H
                        by_cases c52 : x55_2 = 11
                        ·subst c52
                         have H1 : (if ((rd_T94 x6_1 a0_0).f11) > 0 then (some (false, true)) else (impl_IsWorthProof.l1 k2 x6_1 x6_1 a0_0 12 a0_0 l0_1 a0_2 a0_3 a0_4 a0_5)) = some (r1, r2) := by rw [if_pos rfl] at H; (try rw [show wrap64 (11 + 1) = 12 from by unfold wrap64; omega] at H); exact H
                         clear H
                         have H := H1
                         clear H1
                         by_cases c53 : ((rd_T94 x6_1 a0_0).f11) > 0
                         ·rw [if_pos c53] at H
                          have c53b0 : decide (0 < ((rd_T94 x6_1 a0_0).f11)) = true := decide_eq_true c53
                          clear c53
                          simp only [Option.some.injEq, Prod.mk.injEq] at H
                          obtain ⟨rfl, rfl⟩ := H
                          go_wp2
                          go_ret2
                          exact ⟨by first | rfl | (simp [errW_none, errW_some] <;> rfl) | (simp only [← hji6]; first | rfl | (simp [errW_none, errW_some] <;> rfl)) | (simp [*, errW_none, errW_some] <;> rfl), by repeat (first | (with_reducible first | exact HB.out | apply below_alloc | apply pw_below_drewN | apply below_drew1 | refine below_set ?_ GE214.out) | exact HB.out)⟩
                         ·rw [if_neg c53] at H
                          have c53b0 : decide (0 < ((rd_T94 x6_1 a0_0).f11)) = false := decide_eq_false c53
                          clear c53
                          have H' := Aside0.mk H
                          clear H
                          go_wp2
                          go_roundg k2
                          case measure => have := HK1.out; have := HK2.out; omega
                          case rel => exact ⟨(12), (by first | rfl | (simp; done) | (simp [*]; done)), H', ⟨by have := HK1.out; have := HK2.out; omega⟩, ⟨by (with_reducible repeat (first | apply Kd.R_alloc | apply Kd.R_drewN | apply Kd.R_drew)); exact HO_6.out⟩, ⟨by (with_reducible repeat (first | apply Kd.R_alloc | apply Kd.R_drewN | apply Kd.R_drew)); exact HO_50.out⟩, ⟨by (with_reducible repeat (first | refine blk_drewN ?_ _ | refine blk_drew ?_ | refine blk_alloc ?_ _)); exact BK214.out⟩, ⟨by repeat (first | (with_reducible first | exact HB.out | apply below_alloc | apply pw_below_drewN | apply below_drew1 | refine below_set ?_ GE214.out) | exact HB.out)⟩⟩
                        ·rw [if_neg c52] at H
                         by_cases c54 : x55_2 = 12
                         ·subst c54
                          have H1 : (if ((rd_T94 x6_1 a0_0).f12) > 0 then (some (false, true)) else (impl_IsWorthProof.l1 k2 x6_1 x6_1 a0_0 13 a0_0 l0_1 a0_2 a0_3 a0_4 a0_5)) = some (r1, r2) := by rw [if_pos rfl] at H; (try rw [show wrap64 (12 + 1) = 13 from by unfold wrap64; omega] at H); exact H
                          clear H
                          have H := H1
                          clear H1
                          by_cases c55 : ((rd_T94 x6_1 a0_0).f12) > 0
                          ·rw [if_pos c55] at H
                           have c55b0 : decide (0 < ((rd_T94 x6_1 a0_0).f12)) = true := decide_eq_true c55
                           clear c55
                           simp only [Option.some.injEq, Prod.mk.injEq] at H
                           obtain ⟨rfl, rfl⟩ := H
                           go_wp2
                           go_ret2
                           exact ⟨by first | rfl | (simp [errW_none, errW_some] <;> rfl) | (simp only [← hji6]; first | rfl | (simp [errW_none, errW_some] <;> rfl)) | (simp [*, errW_none, errW_some] <;> rfl), by repeat (first | (with_reducible first | exact HB.out | apply below_alloc | apply pw_below_drewN | apply below_drew1 | refine below_set ?_ GE214.out) | exact HB.out)⟩
                          ·rw [if_neg c55] at H
                           have c55b0 : decide (0 < ((rd_T94 x6_1 a0_0).f12)) = false := decide_eq_false c55
                           clear c55
                           have H' := Aside0.mk H
                           clear H
                           go_wp2
                           go_roundg k2
                           case measure => have := HK1.out; have := HK2.out; omega
                           case rel => exact ⟨(13), (by first | rfl | (simp; done) | (simp [*]; done)), H', ⟨by have := HK1.out; have := HK2.out; omega⟩, ⟨by (with_reducible repeat (first | apply Kd.R_alloc | apply Kd.R_drewN | apply Kd.R_drew)); exact HO_6.out⟩, ⟨by (with_reducible repeat (first | apply Kd.R_alloc | apply Kd.R_drewN | apply Kd.R_drew)); exact HO_50.out⟩, ⟨by (with_reducible repeat (first | refine blk_drewN ?_ _ | refine blk_drew ?_ | refine blk_alloc ?_ _)); exact BK214.out⟩, ⟨by repeat (first | (with_reducible first | exact HB.out | apply below_alloc | apply pw_below_drewN | apply below_drew1 | refine below_set ?_ GE214.out) | exact HB.out)⟩⟩
                         ·rw [if_neg c54] at H
                          by_cases c56 : x55_2 = 13
                          ·subst c56
                           have H1 : (if ((rd_T94 x6_1 a0_0).f13) > 0 then (some (false, true)) else (impl_IsWorthProof.l1 k2 x6_1 x6_1 a0_0 14 a0_0 l0_1 a0_2 a0_3 a0_4 a0_5)) = some (r1, r2) := by rw [if_pos rfl] at H; (try rw [show wrap64 (13 + 1) = 14 from by unfold wrap64; omega] at H); exact H
                           clear H
                           have H := H1
                           clear H1
                           by_cases c57 : ((rd_T94 x6_1 a0_0).f13) > 0
                           ·rw [if_pos c57] at H
                            have c57b0 : decide (0 < ((rd_T94 x6_1 a0_0).f13)) = true := decide_eq_true c57
                            clear c57
                            simp only [Option.some.injEq, Prod.mk.injEq] at H
                            obtain ⟨rfl, rfl⟩ := H
                            go_wp2
                            go_ret2
                            exact ⟨by first | rfl | (simp [errW_none, errW_some] <;> rfl) | (simp only [← hji6]; first | rfl | (simp [errW_none, errW_some] <;> rfl)) | (simp [*, errW_none, errW_some] <;> rfl), by repeat (first | (with_reducible first | exact HB.out | apply below_alloc | apply pw_below_drewN | apply below_drew1 | refine below_set ?_ GE214.out) | exact HB.out)⟩
                           ·rw [if_neg c57] at H
                            have c57b0 : decide (0 < ((rd_T94 x6_1 a0_0).f13)) = false := decide_eq_false c57
                            clear c57
                            have H' := Aside0.mk H
                            clear H
                            go_wp2
                            go_roundg k2
                            case measure => have := HK1.out; have := HK2.out; omega
                            case rel => exact ⟨(14), (by first | rfl | (simp; done) | (simp [*]; done)), H', ⟨by have := HK1.out; have := HK2.out; omega⟩, ⟨by (with_reducible repeat (first | apply Kd.R_alloc | apply Kd.R_drewN | apply Kd.R_drew)); exact HO_6.out⟩, ⟨by (with_reducible repeat (first | apply Kd.R_alloc | apply Kd.R_drewN | apply Kd.R_drew)); exact HO_50.out⟩, ⟨by (with_reducible repeat (first | refine blk_drewN ?_ _ | refine blk_drew ?_ | refine blk_alloc ?_ _)); exact BK214.out⟩, ⟨by repeat (first | (with_reducible first | exact HB.out | apply below_alloc | apply pw_below_drewN | apply below_drew1 | refine below_set ?_ GE214.out) | exact HB.out)⟩⟩
                          ·rw [if_neg c56] at H
                           by_cases c58 : x55_2 = 14
                           ·subst c58
                            have H1 : (if ((rd_T94 x6_1 a0_0).f14) > 0 then (some (false, true)) else (impl_IsWorthProof.l1 k2 x6_1 x6_1 a0_0 15 a0_0 l0_1 a0_2 a0_3 a0_4 a0_5)) = some (r1, r2) := by rw [if_pos rfl] at H; (try rw [show wrap64 (14 + 1) = 15 from by unfold wrap64; omega] at H); exact H
                            clear H
                            have H := H1
                            clear H1
                            by_cases c59 : ((rd_T94 x6_1 a0_0).f14) > 0
                            ·rw [if_pos c59] at H
                             have c59b0 : decide (0 < ((rd_T94 x6_1 a0_0).f14)) = true := decide_eq_true c59
                             clear c59
                             simp only [Option.some.injEq, Prod.mk.injEq] at H
                             obtain ⟨rfl, rfl⟩ := H
                             go_wp2
                             go_ret2
                             exact ⟨by first | rfl | (simp [errW_none, errW_some] <;> rfl) | (simp only [← hji6]; first | rfl | (simp [errW_none, errW_some] <;> rfl)) | (simp [*, errW_none, errW_some] <;> rfl), by repeat (first | (with_reducible first | exact HB.out | apply below_alloc | apply pw_below_drewN | apply below_drew1 | refine below_set ?_ GE214.out) | exact HB.out)⟩
                            ·rw [if_neg c59] at H
                             have c59b0 : decide (0 < ((rd_T94 x6_1 a0_0).f14)) = false := decide_eq_false c59
                             clear c59
                             have H' := Aside0.mk H
                             clear H
                             go_wp2
                             go_roundg k2
                             case measure => have := HK1.out; have := HK2.out; omega
                             case rel => exact ⟨(15), (by first | rfl | (simp; done) | (simp [*]; done)), H', ⟨by have := HK1.out; have := HK2.out; omega⟩, ⟨by (with_reducible repeat (first | apply Kd.R_alloc | apply Kd.R_drewN | apply Kd.R_drew)); exact HO_6.out⟩, ⟨by (with_reducible repeat (first | apply Kd.R_alloc | apply Kd.R_drewN | apply Kd.R_drew)); exact HO_50.out⟩, ⟨by (with_reducible repeat (first | refine blk_drewN ?_ _ | refine blk_drew ?_ | refine blk_alloc ?_ _)); exact BK214.out⟩, ⟨by repeat (first | (with_reducible first | exact HB.out | apply below_alloc | apply pw_below_drewN | apply below_drew1 | refine below_set ?_ GE214.out) | exact HB.out)⟩⟩
                           ·rw [if_neg c58] at H
                            by_cases c60 : x55_2 = 15
                            ·subst c60
                             have H1 : (if ((rd_T94 x6_1 a0_0).f15) > 0 then (some (false, true)) else (impl_IsWorthProof.l1 k2 x6_1 x6_1 a0_0 16 a0_0 l0_1 a0_2 a0_3 a0_4 a0_5)) = some (r1, r2) := by rw [if_pos rfl] at H; (try rw [show wrap64 (15 + 1) = 16 from by unfold wrap64; omega] at H); exact H
                             clear H
                             have H := H1
                             clear H1
                             by_cases c61 : ((rd_T94 x6_1 a0_0).f15) > 0
                             ·rw [if_pos c61] at H
                              have c61b0 : decide (0 < ((rd_T94 x6_1 a0_0).f15)) = true := decide_eq_true c61
                              clear c61
                              simp only [Option.some.injEq, Prod.mk.injEq] at H
                              obtain ⟨rfl, rfl⟩ := H
                              go_wp2
                              go_ret2
                              exact ⟨by first | rfl | (simp [errW_none, errW_some] <;> rfl) | (simp only [← hji6]; first | rfl | (simp [errW_none, errW_some] <;> rfl)) | (simp [*, errW_none, errW_some] <;> rfl), by repeat (first | (with_reducible first | exact HB.out | apply below_alloc | apply pw_below_drewN | apply below_drew1 | refine below_set ?_ GE214.out) | exact HB.out)⟩
                             ·rw [if_neg c61] at H
                              have c61b0 : decide (0 < ((rd_T94 x6_1 a0_0).f15)) = false := decide_eq_false c61
                              clear c61
                              have H' := Aside0.mk H
                              clear H
                              go_wp2
                              go_roundg k2
                              case measure => have := HK1.out; have := HK2.out; omega
                              case rel => exact ⟨(16), (by first | rfl | (simp; done) | (simp [*]; done)), H', ⟨by have := HK1.out; have := HK2.out; omega⟩, ⟨by (with_reducible repeat (first | apply Kd.R_alloc | apply Kd.R_drewN | apply Kd.R_drew)); exact HO_6.out⟩, ⟨by (with_reducible repeat (first | apply Kd.R_alloc | apply Kd.R_drewN | apply Kd.R_drew)); exact HO_50.out⟩, ⟨by (with_reducible repeat (first | refine blk_drewN ?_ _ | refine blk_drew ?_ | refine blk_alloc ?_ _)); exact BK214.out⟩, ⟨by repeat (first | (with_reducible first | exact HB.out | apply below_alloc | apply pw_below_drewN | apply below_drew1 | refine below_set ?_ GE214.out) | exact HB.out)⟩⟩
                            ·rw [if_neg c60] at H
                             by_cases c62 : x55_2 = 16
                             ·subst c62
                              have H1 : (if ((rd_T94 x6_1 a0_0).f16) > 0 then (some (false, true)) else (impl_IsWorthProof.l1 k2 x6_1 x6_1 a0_0 17 a0_0 l0_1 a0_2 a0_3 a0_4 a0_5)) = some (r1, r2) := by rw [if_pos rfl] at H; (try rw [show wrap64 (16 + 1) = 17 from by unfold wrap64; omega] at H); exact H
                              clear H
                              have H := H1
                              clear H1
                              by_cases c63 : ((rd_T94 x6_1 a0_0).f16) > 0
                              ·rw [if_pos c63] at H
                               have c63b0 : decide (0 < ((rd_T94 x6_1 a0_0).f16)) = true := decide_eq_true c63
                               clear c63
                               simp only [Option.some.injEq, Prod.mk.injEq] at H
                               obtain ⟨rfl, rfl⟩ := H
                               go_wp2
                               go_ret2
                               exact ⟨by first | rfl | (simp [errW_none, errW_some] <;> rfl) | (simp only [← hji6]; first | rfl | (simp [errW_none, errW_some] <;> rfl)) | (simp [*, errW_none, errW_some] <;> rfl), by repeat (first | (with_reducible first | exact HB.out | apply below_alloc | apply pw_below_drewN | apply below_drew1 | refine below_set ?_ GE214.out) | exact HB.out)⟩
                              ·rw [if_neg c63] at H
                               have c63b0 : decide (0 < ((rd_T94 x6_1 a0_0).f16)) = false := decide_eq_false c63
                               clear c63
                               have H' := Aside0.mk H
                               clear H
                               go_wp2
                               go_roundg k2
                               case measure => have := HK1.out; have := HK2.out; omega
                               case rel => exact ⟨(17), (by first | rfl | (simp; done) | (simp [*]; done)), H', ⟨by have := HK1.out; have := HK2.out; omega⟩, ⟨by (with_reducible repeat (first | apply Kd.R_alloc | apply Kd.R_drewN | apply Kd.R_drew)); exact HO_6.out⟩, ⟨by (with_reducible repeat (first | apply Kd.R_alloc | apply Kd.R_drewN | apply Kd.R_drew)); exact HO_50.out⟩, ⟨by (with_reducible repeat (first | refine blk_drewN ?_ _ | refine blk_drew ?_ | refine blk_alloc ?_ _)); exact BK214.out⟩, ⟨by repeat (first | (with_reducible first | exact HB.out | apply below_alloc | apply pw_below_drewN | apply below_drew1 | refine below_set ?_ GE214.out) | exact HB.out)⟩⟩
                             ·rw [if_neg c62] at H
                              by_cases c64 : x55_2 = 17
                              ·subst c64
                               have H1 : (if ((rd_T94 x6_1 a0_0).f17) > 0 then (some (false, true)) else (impl_IsWorthProof.l1 k2 x6_1 x6_1 a0_0 18 a0_0 l0_1 a0_2 a0_3 a0_4 a0_5)) = some (r1, r2) := by rw [if_pos rfl] at H; (try rw [show wrap64 (17 + 1) = 18 from by unfold wrap64; omega] at H); exact H
                               clear H
                               have H := H1
                               clear H1
                               by_cases c65 : ((rd_T94 x6_1 a0_0).f17) > 0
                               ·rw [if_pos c65] at H
                                have c65b0 : decide (0 < ((rd_T94 x6_1 a0_0).f17)) = true := decide_eq_true c65
                                clear c65
                                simp only [Option.some.injEq, Prod.mk.injEq] at H
                                obtain ⟨rfl, rfl⟩ := H
                                go_wp2
                                go_ret2
                                exact ⟨by first | rfl | (simp [errW_none, errW_some] <;> rfl) | (simp only [← hji6]; first | rfl | (simp [errW_none, errW_some] <;> rfl)) | (simp [*, errW_none, errW_some] <;> rfl), by repeat (first | (with_reducible first | exact HB.out | apply below_alloc | apply pw_below_drewN | apply below_drew1 | refine below_set ?_ GE214.out) | exact HB.out)⟩
                               ·rw [if_neg c65] at H
                                have c65b0 : decide (0 < ((rd_T94 x6_1 a0_0).f17)) = false := decide_eq_false c65
                                clear c65
                                have H' := Aside0.mk H
                                clear H
                                go_wp2
                                go_roundg k2
                                case measure => have := HK1.out; have := HK2.out; omega
                                case rel => exact ⟨(18), (by first | rfl | (simp; done) | (simp [*]; done)), H', ⟨by have := HK1.out; have := HK2.out; omega⟩, ⟨by (with_reducible repeat (first | apply Kd.R_alloc | apply Kd.R_drewN | apply Kd.R_drew)); exact HO_6.out⟩, ⟨by (with_reducible repeat (first | apply Kd.R_alloc | apply Kd.R_drewN | apply Kd.R_drew)); exact HO_50.out⟩, ⟨by (with_reducible repeat (first | refine blk_drewN ?_ _ | refine blk_drew ?_ | refine blk_alloc ?_ _)); exact BK214.out⟩, ⟨by repeat (first | (with_reducible first | exact HB.out | apply below_alloc | apply pw_below_drewN | apply below_drew1 | refine below_set ?_ GE214.out) | exact HB.out)⟩⟩
                              ·rw [if_neg c64] at H
                               by_cases c66 : x55_2 = 18
                               ·subst c66
                                have H1 : (if ((rd_T94 x6_1 a0_0).f18) > 0 then (some (false, true)) else (impl_IsWorthProof.l1 k2 x6_1 x6_1 a0_0 19 a0_0 l0_1 a0_2 a0_3 a0_4 a0_5)) = some (r1, r2) := by rw [if_pos rfl] at H; (try rw [show wrap64 (18 + 1) = 19 from by unfold wrap64; omega] at H); exact H
                                clear H
                                have H := H1
                                clear H1
                                by_cases c67 : ((rd_T94 x6_1 a0_0).f18) > 0
                                ·rw [if_pos c67] at H
                                 have c67b0 : decide (0 < ((rd_T94 x6_1 a0_0).f18)) = true := decide_eq_true c67
                                 clear c67
                                 simp only [Option.some.injEq, Prod.mk.injEq] at H
                                 obtain ⟨rfl, rfl⟩ := H
                                 go_wp2
                                 go_ret2
                                 exact ⟨by first | rfl | (simp [errW_none, errW_some] <;> rfl) | (simp only [← hji6]; first | rfl | (simp [errW_none, errW_some] <;> rfl)) | (simp [*, errW_none, errW_some] <;> rfl), by repeat (first | (with_reducible first | exact HB.out | apply below_alloc | apply pw_below_drewN | apply below_drew1 | refine below_set ?_ GE214.out) | exact HB.out)⟩
                                ·rw [if_neg c67] at H
                                 have c67b0 : decide (0 < ((rd_T94 x6_1 a0_0).f18)) = false := decide_eq_false c67
                                 clear c67
                                 have H' := Aside0.mk H
                                 clear H
                                 go_wp2
                                 go_roundg k2
                                 case measure => have := HK1.out; have := HK2.out; omega
                                 case rel => exact ⟨(19), (by first | rfl | (simp; done) | (simp [*]; done)), H', ⟨by have := HK1.out; have := HK2.out; omega⟩, ⟨by (with_reducible repeat (first | apply Kd.R_alloc | apply Kd.R_drewN | apply Kd.R_drew)); exact HO_6.out⟩, ⟨by (with_reducible repeat (first | apply Kd.R_alloc | apply Kd.R_drewN | apply Kd.R_drew)); exact HO_50.out⟩, ⟨by (with_reducible repeat (first | refine blk_drewN ?_ _ | refine blk_drew ?_ | refine blk_alloc ?_ _)); exact BK214.out⟩, ⟨by repeat (first | (with_reducible first | exact HB.out | apply below_alloc | apply pw_below_drewN | apply below_drew1 | refine below_set ?_ GE214.out) | exact HB.out)⟩⟩
                               ·rw [if_neg c66] at H
                                by_cases c68 : x55_2 = 19
                                ·subst c68
                                 have H1 : (if ((rd_T94 x6_1 a0_0).f19) > 0 then (some (false, true)) else (impl_IsWorthProof.l1 k2 x6_1 x6_1 a0_0 20 a0_0 l0_1 a0_2 a0_3 a0_4 a0_5)) = some (r1, r2) := by rw [if_pos rfl] at H; (try rw [show wrap64 (19 + 1) = 20 from by unfold wrap64; omega] at H); exact H
                                 clear H
                                 have H := H1
                                 clear H1
                                 by_cases c69 : ((rd_T94 x6_1 a0_0).f19) > 0
                                 ·rw [if_pos c69] at H
                                  have c69b0 : decide (0 < ((rd_T94 x6_1 a0_0).f19)) = true := decide_eq_true c69
                                  clear c69
                                  simp only [Option.some.injEq, Prod.mk.injEq] at H
                                  obtain ⟨rfl, rfl⟩ := H
                                  go_wp2
                                  go_ret2
                                  exact ⟨by first | rfl | (simp [errW_none, errW_some] <;> rfl) | (simp only [← hji6]; first | rfl | (simp [errW_none, errW_some] <;> rfl)) | (simp [*, errW_none, errW_some] <;> rfl), by repeat (first | (with_reducible first | exact HB.out | apply below_alloc | apply pw_below_drewN | apply below_drew1 | refine below_set ?_ GE214.out) | exact HB.out)⟩
                                 ·rw [if_neg c69] at H
                                  have c69b0 : decide (0 < ((rd_T94 x6_1 a0_0).f19)) = false := decide_eq_false c69
                                  clear c69
                                  have H' := Aside0.mk H
                                  clear H
                                  go_wp2
                                  go_roundg k2
                                  case measure => have := HK1.out; have := HK2.out; omega
                                  case rel => exact ⟨(20), (by first | rfl | (simp; done) | (simp [*]; done)), H', ⟨by have := HK1.out; have := HK2.out; omega⟩, ⟨by (with_reducible repeat (first | apply Kd.R_alloc | apply Kd.R_drewN | apply Kd.R_drew)); exact HO_6.out⟩, ⟨by (with_reducible repeat (first | apply Kd.R_alloc | apply Kd.R_drewN | apply Kd.R_drew)); exact HO_50.out⟩, ⟨by (with_reducible repeat (first | refine blk_drewN ?_ _ | refine blk_drew ?_ | refine blk_alloc ?_ _)); exact BK214.out⟩, ⟨by repeat (first | (with_reducible first | exact HB.out | apply below_alloc | apply pw_below_drewN | apply below_drew1 | refine below_set ?_ GE214.out) | exact HB.out)⟩⟩
                                ·rw [if_neg c68] at H
                                 by_cases c70 : x55_2 = 20
                                 ·subst c70
                                  have H1 : (if ((rd_T94 x6_1 a0_0).f20) > 0 then (some (false, true)) else (impl_IsWorthProof.l1 k2 x6_1 x6_1 a0_0 21 a0_0 l0_1 a0_2 a0_3 a0_4 a0_5)) = some (r1, r2) := by rw [if_pos rfl] at H; (try rw [show wrap64 (20 + 1) = 21 from by unfold wrap64; omega] at H); exact H
                                  clear H
                                  have H := H1
                                  clear H1
                                  by_cases c71 : ((rd_T94 x6_1 a0_0).f20) > 0
                                  ·rw [if_pos c71] at H
                                   have c71b0 : decide (0 < ((rd_T94 x6_1 a0_0).f20)) = true := decide_eq_true c71
                                   clear c71
                                   simp only [Option.some.injEq, Prod.mk.injEq] at H
                                   obtain ⟨rfl, rfl⟩ := H
                                   go_wp2
                                   go_ret2
                                   exact ⟨by first | rfl | (simp [errW_none, errW_some] <;> rfl) | (simp only [← hji6]; first | rfl | (simp [errW_none, errW_some] <;> rfl)) | (simp [*, errW_none, errW_some] <;> rfl), by repeat (first | (with_reducible first | exact HB.out | apply below_alloc | apply pw_below_drewN | apply below_drew1 | refine below_set ?_ GE214.out) | exact HB.out)⟩
                                  ·rw [if_neg c71] at H
                                   have c71b0 : decide (0 < ((rd_T94 x6_1 a0_0).f20)) = false := decide_eq_false c71
                                   clear c71
                                   have H' := Aside0.mk H
                                   clear H
                                   go_wp2
                                   go_roundg k2
                                   case measure => have := HK1.out; have := HK2.out; omega
                                   case rel => exact ⟨(21), (by first | rfl | (simp; done) | (simp [*]; done)), H', ⟨by have := HK1.out; have := HK2.out; omega⟩, ⟨by (with_reducible repeat (first | apply Kd.R_alloc | apply Kd.R_drewN | apply Kd.R_drew)); exact HO_6.out⟩, ⟨by (with_reducible repeat (first | apply Kd.R_alloc | apply Kd.R_drewN | apply Kd.R_drew)); exact HO_50.out⟩, ⟨by (with_reducible repeat (first | refine blk_drewN ?_ _ | refine blk_drew ?_ | refine blk_alloc ?_ _)); exact BK214.out⟩, ⟨by repeat (first | (with_reducible first | exact HB.out | apply below_alloc | apply pw_below_drewN | apply below_drew1 | refine below_set ?_ GE214.out) | exact HB.out)⟩⟩
                                 ·rw [if_neg c70] at H
                                  exact absurd H (by simp)
            ·rw [if_neg c29] at H
             have c29b0 : decide (x55_2 < 21) = false := decide_eq_false c29
             clear c29
             have H' := Aside0.mk H
             clear H
             have hcz72_0 : wr.cell? ⟨gb214, 0, none⟩ = some (.int .i64 a0_0) := (blk_cell BK214.out 0).trans rfl
             have hcz72_1 : wr.cell? ⟨gb214, 1, none⟩ = some (.slice A0_1 l0_1.length c0_1) := (blk_cell BK214.out 1).trans rfl
             have hcz72_2 : wr.cell? ⟨gb214, 2, none⟩ = some (.int .i64 a0_2) := (blk_cell BK214.out 2).trans rfl
             have hcz72_3 : wr.cell? ⟨gb214, 3, none⟩ = some (.int .i64 a0_3) := (blk_cell BK214.out 3).trans rfl
             have hcz72_4 : wr.cell? ⟨gb214, 4, none⟩ = some (.int .i64 a0_4) := (blk_cell BK214.out 4).trans rfl
             have hcz72_5 : wr.cell? ⟨gb214, 5, none⟩ = some (.int .i64 a0_5) := (blk_cell BK214.out 5).trans rfl
             have hfz72_0 := blk_frozen BK214.out 0
             have hfz72_1 := blk_frozen BK214.out 1
             have hfz72_2 := blk_frozen BK214.out 2
             have hfz72_3 := blk_frozen BK214.out 3
             have hfz72_4 := blk_frozen BK214.out 4
             have hfz72_5 := blk_frozen BK214.out 5
             go_wp2
             go_loopg [63] k2 (fun kq v63 w' => ∃ (x63_3 : Int), v63 = .int .i64 x63_3 ∧ Aside0 (impl_IsWorthProof.l2 kq x6_1 a0_0 x63_3 a0_0 l0_1 a0_2 a0_3 a0_4 a0_5 = some (r1, r2)) ∧ Aside0 (kq ≤ k2) ∧ Aside0 (Kd.R k94 94 w' w.heap.size (fun _ => True) (.slice (some ad222) x6_1.length co28) x6_1) ∧ Aside0 (w'.heap[gb214]? = some (.cells #[.int .i64 a0_0, (.slice A0_1 l0_1.length c0_1), .int .i64 a0_2, .int .i64 a0_3, .int .i64 a0_4, .int .i64 a0_5] 30 (0, 0))) ∧ Aside0 (Below w.heap.size w w'))
             case atStart => exact ⟨(0), (by first | rfl | (simp; done) | (simp [*]; done)), H', ⟨Nat.le_refl _⟩, ⟨by (with_reducible repeat (first | apply Kd.R_alloc | apply Kd.R_drewN | apply Kd.R_drew)); exact HO_6.out⟩, ⟨by (with_reducible repeat (first | refine blk_drewN ?_ _ | refine blk_drew ?_ | refine blk_alloc ?_ _)); exact BK214.out⟩, ⟨by repeat (first | (with_reducible first | exact HB.out | apply below_alloc | apply pw_below_drewN | apply below_drew1 | refine below_set ?_ GE214.out) | exact HB.out)⟩⟩
             case round =>
              clear H'
              try clear c2
              try clear p2
              try clear q2
              try clear hx2
              try clear c3
              try clear c4
              try clear c5
              try clear c6
              try clear p6
              try clear c7
              try clear p21
              try clear q21
              try clear p22
              try clear q22
              try clear hx22
              try clear hx23
              try clear c29
              try clear c29b0
              try clear c30
              try clear c31
              try clear c31b0
              try clear c32
              try clear c33
              try clear c33b0
              try clear c34
              try clear c35
              try clear c35b0
              try clear c36
              try clear c37
              try clear c37b0
              try clear c38
              try clear c39
              try clear c39b0
              try clear c40
              try clear c41
              try clear c41b0
              try clear c42
              try clear c43
              try clear c43b0
              try clear c44
              try clear c45
              try clear c45b0
              try clear c46
              try clear c47
              try clear c47b0
              try clear c48
              try clear c49
              try clear c49b0
              try clear c50
              try clear c51
              try clear c51b0
              try clear c52
              try clear c53
              try clear c53b0
              try clear c54
              try clear c55
              try clear c55b0
              try clear c56
              try clear c57
              try clear c57b0
              try clear c58
              try clear c59
              try clear c59b0
              try clear c60
              try clear c61
              try clear c61b0
              try clear c62
              try clear c63
              try clear c63b0
              try clear c64
              try clear p64
              try clear c65
              try clear c65b0
              try clear c66
              try clear c67
              try clear c67b0
              try clear c68
              try clear c69
              try clear c69b0
              try clear c70
              try clear c71
              try clear c71b0
              try clear hcz72_0
              try clear hcz72_1
              try clear hcz72_2
              try clear hcz72_3
              try clear hcz72_4
              try clear hcz72_5
              try clear hfz72_0
              try clear hfz72_1
              try clear hfz72_2
              try clear hfz72_3
              try clear hfz72_4
              try clear hfz72_5
              try clear hx22_17
              try clear hx22_18
              try clear hx22_19
              try clear hx22_2
              try clear hx22_20
              try clear hx22_3
              try clear hx22_4
              try clear hx22_5
              try clear hx22_6
              try clear hx22_7
              try clear hx22_8
              try clear hx22_9
              try clear hx23_0
              try clear hx23_1
              try clear hx23_10
              try clear hx23_11
              try clear hx23_12
              try clear hx23_13
              try clear hx23_14
              try clear hx23_15
              try clear hx23_16
              try clear hx23_17
              try clear hx23_18
              try clear hx23_19
              try clear hx23_2
              try clear hx23_20
              try clear hx23_3
              try clear hx23_4
              try clear hx23_5
              try clear hx23_6
              try clear hx23_7
              try clear hx23_8
              try clear hx23_9
              try clear p2
              try clear p219
              try clear p22
              try clear p222
              try clear p6
              try clear q219
              try clear q22
              try clear q222
              obtain ⟨x63_3, rfl, HA, HK3, HO_6, BK214, HB⟩ := hrel
              cases gk with
              | zero => exact absurd HA.out (by simp [impl_IsWorthProof.l2])
              | succ k3 =>
               have H := HA.out
               clear HA
               simp only [impl_IsWorthProof.l2] at H
               by_cases c73 : x63_3 < a0_0
               ·rw [if_pos c73] at H
                have c73b0 : decide (x63_3 < a0_0) = true := decide_eq_true c73
                clear c73
                have H' := Aside0.mk H
                clear H
                go_wp2
                go_loopg [12] k3 (fun kq v12 w' => ∃ (x12_4 : Int), v12 = .int .i64 x12_4 ∧ Aside0 (impl_IsWorthProof.l3 kq x6_1 x63_3 x12_4 a0_0 x63_3 a0_0 l0_1 a0_2 a0_3 a0_4 a0_5 = some (r1, r2)) ∧ Aside0 (kq ≤ k3) ∧ Aside0 (Kd.R k94 94 w' w.heap.size (fun _ => True) (.slice (some ad222) x6_1.length co28) x6_1) ∧ Aside0 (w'.heap[gb214]? = some (.cells #[.int .i64 a0_0, (.slice A0_1 l0_1.length c0_1), .int .i64 a0_2, .int .i64 a0_3, .int .i64 a0_4, .int .i64 a0_5] 30 (0, 0))) ∧ Aside0 (Below w.heap.size w w'))
                case atStart => exact ⟨((-10)), (by first | rfl | (simp; done) | (simp [*]; done)), H', ⟨Nat.le_refl _⟩, ⟨by (with_reducible repeat (first | apply Kd.R_alloc | apply Kd.R_drewN | apply Kd.R_drew)); exact HO_6.out⟩, ⟨by (with_reducible repeat (first | refine blk_drewN ?_ _ | refine blk_drew ?_ | refine blk_alloc ?_ _)); exact BK214.out⟩, ⟨by repeat (first | (with_reducible first | exact HB.out | apply below_alloc | apply pw_below_drewN | apply below_drew1 | refine below_set ?_ GE214.out) | exact HB.out)⟩⟩
                case round =>
                 clear H'
                 try clear c2
                 try clear p2
                 try clear q2
                 try clear hx2
                 try clear c3
                 try clear c4
                 try clear c5
                 try clear c6
                 try clear p6
                 try clear c7
                 try clear p21
                 try clear q21
                 try clear p22
                 try clear q22
                 try clear hx22
                 try clear hx23
                 try clear c29
                 try clear c29b0
                 try clear c30
                 try clear c31
                 try clear c31b0
                 try clear c32
                 try clear c33
                 try clear c33b0
                 try clear c34
                 try clear c35
                 try clear c35b0
                 try clear c36
                 try clear c37
                 try clear c37b0
                 try clear c38
                 try clear c39
                 try clear c39b0
                 try clear c40
                 try clear c41
                 try clear c41b0
                 try clear c42
                 try clear c43
                 try clear c43b0
                 try clear c44
                 try clear c45
                 try clear c45b0
                 try clear c46
                 try clear c47
                 try clear c47b0
                 try clear c48
                 try clear c49
                 try clear c49b0
                 try clear c50
                 try clear c51
                 try clear c51b0
                 try clear c52
                 try clear c53
                 try clear c53b0
                 try clear c54
                 try clear c55
                 try clear c55b0
                 try clear c56
                 try clear c57
                 try clear c57b0
                 try clear c58
                 try clear c59
                 try clear c59b0
                 try clear c60
                 try clear c61
                 try clear c61b0
                 try clear c62
                 try clear c63
                 try clear c63b0
                 try clear c64
                 try clear p64
                 try clear c65
                 try clear c65b0
                 try clear c66
                 try clear c67
                 try clear c67b0
                 try clear c68
                 try clear c69
                 try clear c69b0
                 try clear c70
                 try clear c71
                 try clear c71b0
                 try clear c73
                 try clear c73b0
                 try clear hcz72_0
                 try clear hcz72_1
                 try clear hcz72_2
                 try clear hcz72_3
                 try clear hcz72_4
                 try clear hcz72_5
                 try clear hfz72_0
                 try clear hfz72_1
                 try clear hfz72_2
                 try clear hfz72_3
                 try clear hfz72_4
                 try clear hfz72_5
                 try clear hx22_17
                 try clear hx22_18
                 try clear hx22_19
                 try clear hx22_2
                 try clear hx22_20
                 try clear hx22_3
                 try clear hx22_4
                 try clear hx22_5
                 try clear hx22_6
                 try clear hx22_7
                 try clear hx22_8
                 try clear hx22_9
                 try clear hx23_0
                 try clear hx23_1
                 try clear hx23_10
                 try clear hx23_11
                 try clear hx23_12
                 try clear hx23_13
                 try clear hx23_14
                 try clear hx23_15
                 try clear hx23_16
                 try clear hx23_17
                 try clear hx23_18
                 try clear hx23_19
                 try clear hx23_2
                 try clear hx23_20
                 try clear hx23_3
                 try clear hx23_4
                 try clear hx23_5
                 try clear hx23_6
                 try clear hx23_7
                 try clear hx23_8
                 try clear hx23_9
                 try clear p2
                 try clear p21
                 try clear p219
                 try clear p22
                 try clear p222
                 try clear p6
                 try clear p64
                 try clear q2
                 try clear q21
                 try clear q219
                 try clear q22
                 try clear q222
                 obtain ⟨x12_4, rfl, HA, HK4, HO_6, BK214, HB⟩ := hrel
                 cases gk with
                 | zero => exact absurd HA.out (by simp [impl_IsWorthProof.l3])
                 | succ k4 =>
                  have H := HA.out
                  clear HA
                  simp only [impl_IsWorthProof.l3] at H
                  by_cases c74 : x12_4 ≤ 10
                  ·rw [if_pos c74] at H
                   have c74b0 : decide (x12_4 ≤ 10) = true := decide_eq_true c74
                   clear c74
                   obtain ⟨ji75, hji75⟩ : ∃ j_ : Int, (wrap64 (x63_3 + 1)) = j_ := ⟨_, rfl⟩
                   replace H : (if 0 ≤ (ji75) then (if (ji75) < (x6_1.length : Int) then ((impl_Process_least.f k4 a0_0 l0_1 a0_2 a0_3 a0_4 a0_5 (wrap64 (a0_0 - x63_3)) x12_4 ((rd_T94 x6_1 (ji75)).f0) ((rd_T94 x6_1 (ji75)).f1) ((rd_T94 x6_1 (ji75)).f2) ((rd_T94 x6_1 (ji75)).f3) ((rd_T94 x6_1 (ji75)).f4) ((rd_T94 x6_1 (ji75)).f5) ((rd_T94 x6_1 (ji75)).f6) ((rd_T94 x6_1 (ji75)).f7) ((rd_T94 x6_1 (ji75)).f8) ((rd_T94 x6_1 (ji75)).f9) ((rd_T94 x6_1 (ji75)).f10) ((rd_T94 x6_1 (ji75)).f11) ((rd_T94 x6_1 (ji75)).f12) ((rd_T94 x6_1 (ji75)).f13) ((rd_T94 x6_1 (ji75)).f14) ((rd_T94 x6_1 (ji75)).f15) ((rd_T94 x6_1 (ji75)).f16) ((rd_T94 x6_1 (ji75)).f17) ((rd_T94 x6_1 (ji75)).f18) ((rd_T94 x6_1 (ji75)).f19) ((rd_T94 x6_1 (ji75)).f20)).bind fun bt224 => (if 0 ≤ x63_3 then (if x63_3 < (x6_1.length : Int) then ((impl_levels_at.f ((rd_T94 x6_1 x63_3).f0) ((rd_T94 x6_1 x63_3).f1) ((rd_T94 x6_1 x63_3).f2) ((rd_T94 x6_1 x63_3).f3) ((rd_T94 x6_1 x63_3).f4) ((rd_T94 x6_1 x63_3).f5) ((rd_T94 x6_1 x63_3).f6) ((rd_T94 x6_1 x63_3).f7) ((rd_T94 x6_1 x63_3).f8) ((rd_T94 x6_1 x63_3).f9) ((rd_T94 x6_1 x63_3).f10) ((rd_T94 x6_1 x63_3).f11) ((rd_T94 x6_1 x63_3).f12) ((rd_T94 x6_1 x63_3).f13) ((rd_T94 x6_1 x63_3).f14) ((rd_T94 x6_1 x63_3).f15) ((rd_T94 x6_1 x63_3).f16) ((rd_T94 x6_1 x63_3).f17) ((rd_T94 x6_1 x63_3).f18) ((rd_T94 x6_1 x63_3).f19) ((rd_T94 x6_1 x63_3).f20) x12_4).bind fun t227 => (if t227 > bt224.1 then (some (false, true)) else (impl_IsWorthProof.l3 k4 x6_1 x63_3 (wrap64 (x12_4 + 1)) a0_0 x63_3 a0_0 l0_1 a0_2 a0_3 a0_4 a0_5))) else (none)) else (none))) else (none)) else (none)) = some (r1, r2) := by first | (rw [hji75] at H; exact H) | (simp only [hji75] at H ⊢; exact H)
                   have hji75w : (IntKind.i64.wrap (x63_3 + 1)) = ji75 := (i64_w _).trans hji75
                   by_cases c76 : 0 ≤ (ji75)
                   ·rw [if_pos c76] at H
                    have c76b0 : decide (0 ≤ (ji75)) = true := decide_eq_true c76
                    clear c76
                    by_cases c77 : (ji75) < (x6_1.length : Int)
                    ·rw [if_pos c77] at H
                     have c77b0 : decide ((ji75) < (x6_1.length : Int)) = true := decide_eq_true c77
                     clear c77
                     replace H := Option.bind_eq_some_iff.mp H
                     obtain ⟨⟨t224, t225⟩, A780, H⟩ := H
                     replace H : (if 0 ≤ x63_3 then (if x63_3 < (x6_1.length : Int) then ((impl_levels_at.f ((rd_T94 x6_1 x63_3).f0) ((rd_T94 x6_1 x63_3).f1) ((rd_T94 x6_1 x63_3).f2) ((rd_T94 x6_1 x63_3).f3) ((rd_T94 x6_1 x63_3).f4) ((rd_T94 x6_1 x63_3).f5) ((rd_T94 x6_1 x63_3).f6) ((rd_T94 x6_1 x63_3).f7) ((rd_T94 x6_1 x63_3).f8) ((rd_T94 x6_1 x63_3).f9) ((rd_T94 x6_1 x63_3).f10) ((rd_T94 x6_1 x63_3).f11) ((rd_T94 x6_1 x63_3).f12) ((rd_T94 x6_1 x63_3).f13) ((rd_T94 x6_1 x63_3).f14) ((rd_T94 x6_1 x63_3).f15) ((rd_T94 x6_1 x63_3).f16) ((rd_T94 x6_1 x63_3).f17) ((rd_T94 x6_1 x63_3).f18) ((rd_T94 x6_1 x63_3).f19) ((rd_T94 x6_1 x63_3).f20) x12_4).bind fun t227 => (if t227 > t224 then (some (false, true)) else (impl_IsWorthProof.l3 k4 x6_1 x63_3 (wrap64 (x12_4 + 1)) a0_0 x63_3 a0_0 l0_1 a0_2 a0_3 a0_4 a0_5))) else (none)) else (none)) = some (r1, r2) := H
                     have A78 := Aside0.mk A780
                     clear A780
                     by_cases c79 : 0 ≤ x63_3
                     ·rw [if_pos c79] at H
                      have c79b0 : decide (0 ≤ x63_3) = true := decide_eq_true c79
                      clear c79
                      by_cases c80 : x63_3 < (x6_1.length : Int)
                      ·rw [if_pos c80] at H
                       have c80b0 : decide (x63_3 < (x6_1.length : Int)) = true := decide_eq_true c80
                       clear c80
                       replace H := Option.bind_eq_some_iff.mp H
                       obtain ⟨t227, A810, H⟩ := H
                       replace H : (if t227 > t224 then (some (false, true)) else (impl_IsWorthProof.l3 k4 x6_1 x63_3 (wrap64 (x12_4 + 1)) a0_0 x63_3 a0_0 l0_1 a0_2 a0_3 a0_4 a0_5)) = some (r1, r2) := H
                       have A81 := Aside0.mk A810
                       clear A810
                       by_cases c82 : t227 > t224
                       ·rw [if_pos c82] at H
                        have c82b0 : decide (t224 < t227) = true := decide_eq_true c82
                        clear c82
                        simp only [Option.some.injEq, Prod.mk.injEq] at H
                        obtain ⟨rfl, rfl⟩ := H
                        try go_wp2
                        have n0_ := Aside0.mk (Kd.R_drew HO_6.out)
                        have n1_ := Aside0.mk (blk_drew BK214.out)
                        have n2_ := Aside0.mk (below_drew1 HB.out)
                        clear HO_6
                        clear BK214
                        clear HB
                        have HO_6 := n0_
                        have BK214 := n1_
                        have HB := n2_
                        clear n0_ n1_ n2_
                        have p223 : 0 ≤ ((ji75) : Int) := of_decide_eq_true (by first | (with_reducible assumption) | assumption)
                        have q223 : (ji75) < (x6_1.length : Int) := of_decide_eq_true (by first | (with_reducible assumption) | assumption)
                        obtain ⟨ad223, e223, hx223_0, hx223_1, hx223_2, hx223_3, hx223_4, hx223_5, hx223_6, hx223_7, hx223_8, hx223_9, hx223_10, hx223_11, hx223_12, hx223_13, hx223_14, hx223_15, hx223_16, hx223_17, hx223_18, hx223_19, hx223_20⟩ := at_T94 (Kd.R_reads' HO_6.out).2.2 (ji75) p223 q223
                        obtain rfl : ad222 = ad223 := (by injection e223)
                        replace p223 := eq_true p223
                        replace q223 := eq_true q223
                        refine start_ (n := 17) (S := fun w' => w'.cell? ⟨gb214, 0, none⟩ = some (.int .i64 a0_0) ∧ w'.cell? ⟨gb214, 1, none⟩ = some (.slice A0_1 l0_1.length c0_1) ∧ w'.cell? ⟨gb214, 2, none⟩ = some (.int .i64 a0_2) ∧ w'.cell? ⟨gb214, 3, none⟩ = some (.int .i64 a0_3) ∧ w'.cell? ⟨gb214, 4, none⟩ = some (.int .i64 a0_4) ∧ w'.cell? ⟨gb214, 5, none⟩ = some (.int .i64 a0_5) ∧ w'.cell? (ad222.add (((ji75)).toNat * 21)) = some (.int .i64 ((rd_T94 x6_1 (ji75)).f0)) ∧ w'.cell? ⟨(ad222.add (((ji75)).toNat * 21)).block, (ad222.add (((ji75)).toNat * 21)).off + 1, none⟩ = some (.int .i64 ((rd_T94 x6_1 (ji75)).f1)) ∧ w'.cell? ⟨(ad222.add (((ji75)).toNat * 21)).block, (ad222.add (((ji75)).toNat * 21)).off + 2, none⟩ = some (.int .i64 ((rd_T94 x6_1 (ji75)).f2)) ∧ w'.cell? ⟨(ad222.add (((ji75)).toNat * 21)).block, (ad222.add (((ji75)).toNat * 21)).off + 3, none⟩ = some (.int .i64 ((rd_T94 x6_1 (ji75)).f3)) ∧ w'.cell? ⟨(ad222.add (((ji75)).toNat * 21)).block, (ad222.add (((ji75)).toNat * 21)).off + 4, none⟩ = some (.int .i64 ((rd_T94 x6_1 (ji75)).f4)) ∧ w'.cell? ⟨(ad222.add (((ji75)).toNat * 21)).block, (ad222.add (((ji75)).toNat * 21)).off + 5, none⟩ = some (.int .i64 ((rd_T94 x6_1 (ji75)).f5)) ∧ w'.cell? ⟨(ad222.add (((ji75)).toNat * 21)).block, (ad222.add (((ji75)).toNat * 21)).off + 6, none⟩ = some (.int .i64 ((rd_T94 x6_1 (ji75)).f6)) ∧ w'.cell? ⟨(ad222.add (((ji75)).toNat * 21)).block, (ad222.add (((ji75)).toNat * 21)).off + 7, none⟩ = some (.int .i64 ((rd_T94 x6_1 (ji75)).f7)) ∧ w'.cell? ⟨(ad222.add (((ji75)).toNat * 21)).block, (ad222.add (((ji75)).toNat * 21)).off + 8, none⟩ = some (.int .i64 ((rd_T94 x6_1 (ji75)).f8)) ∧ w'.cell? ⟨(ad222.add (((ji75)).toNat * 21)).block, (ad222.add (((ji75)).toNat * 21)).off + 9, none⟩ = some (.int .i64 ((rd_T94 x6_1 (ji75)).f9)) ∧ w'.cell? ⟨(ad222.add (((ji75)).toNat * 21)).block, (ad222.add (((ji75)).toNat * 21)).off + 10, none⟩ = some (.int .i64 ((rd_T94 x6_1 (ji75)).f10)) ∧ w'.cell? ⟨(ad222.add (((ji75)).toNat * 21)).block, (ad222.add (((ji75)).toNat * 21)).off + 11, none⟩ = some (.int .i64 ((rd_T94 x6_1 (ji75)).f11)) ∧ w'.cell? ⟨(ad222.add (((ji75)).toNat * 21)).block, (ad222.add (((ji75)).toNat * 21)).off + 12, none⟩ = some (.int .i64 ((rd_T94 x6_1 (ji75)).f12)) ∧ w'.cell? ⟨(ad222.add (((ji75)).toNat * 21)).block, (ad222.add (((ji75)).toNat * 21)).off + 13, none⟩ = some (.int .i64 ((rd_T94 x6_1 (ji75)).f13)) ∧ w'.cell? ⟨(ad222.add (((ji75)).toNat * 21)).block, (ad222.add (((ji75)).toNat * 21)).off + 14, none⟩ = some (.int .i64 ((rd_T94 x6_1 (ji75)).f14)) ∧ w'.cell? ⟨(ad222.add (((ji75)).toNat * 21)).block, (ad222.add (((ji75)).toNat * 21)).off + 15, none⟩ = some (.int .i64 ((rd_T94 x6_1 (ji75)).f15)) ∧ w'.cell? ⟨(ad222.add (((ji75)).toNat * 21)).block, (ad222.add (((ji75)).toNat * 21)).off + 16, none⟩ = some (.int .i64 ((rd_T94 x6_1 (ji75)).f16)) ∧ w'.cell? ⟨(ad222.add (((ji75)).toNat * 21)).block, (ad222.add (((ji75)).toNat * 21)).off + 17, none⟩ = some (.int .i64 ((rd_T94 x6_1 (ji75)).f17)) ∧ w'.cell? ⟨(ad222.add (((ji75)).toNat * 21)).block, (ad222.add (((ji75)).toNat * 21)).off + 18, none⟩ = some (.int .i64 ((rd_T94 x6_1 (ji75)).f18)) ∧ w'.cell? ⟨(ad222.add (((ji75)).toNat * 21)).block, (ad222.add (((ji75)).toNat * 21)).off + 19, none⟩ = some (.int .i64 ((rd_T94 x6_1 (ji75)).f19)) ∧ w'.cell? ⟨(ad222.add (((ji75)).toNat * 21)).block, (ad222.add (((ji75)).toNat * 21)).off + 20, none⟩ = some (.int .i64 ((rd_T94 x6_1 (ji75)).f20))) (ds := []) #[false, false, false, false, false, false, false, false, false, false, false, false, false, false, false, false, false] (by kernel_rfl) rfl rfl ⟨(blk_cell BK214.out 0).trans rfl, (blk_cell BK214.out 1).trans rfl, (blk_cell BK214.out 2).trans rfl, (blk_cell BK214.out 3).trans rfl, (blk_cell BK214.out 4).trans rfl, (blk_cell BK214.out 5).trans rfl, hx223_0, hx223_1, hx223_2, hx223_3, hx223_4, hx223_5, hx223_6, hx223_7, hx223_8, hx223_9, hx223_10, hx223_11, hx223_12, hx223_13, hx223_14, hx223_15, hx223_16, hx223_17, hx223_18, hx223_19, hx223_20⟩ (fun hHeld => ?_); refine with_tabW impl_IsWorthProof.tab25 impl_IsWorthProof.bits25 (fun HT_ HW_ => ?_)
                        generalize wr.drew = w83 at HO_6 BK214 HB hx223_0 hx223_1 hx223_10 hx223_11 hx223_12 hx223_13 hx223_14 hx223_15 hx223_16 hx223_17 hx223_18 hx223_19 hx223_2 hx223_20 hx223_3 hx223_4 hx223_5 hx223_6 hx223_7 hx223_8 hx223_9 hHeld ⊢
                        refine pure_ (i := 1) (N := some 72) (v := ?_) (a' := ?_) #[false, true, false, false, false, false, false, false, false, false, false, false, false, false, false, false, false] rfl rfl (any_of HT_.out (by kernel_rfl)) (fun _ _ _ h => h) (Or.inl ⟨by rfl, ?_⟩) ?_ ?_
                        rotate_left
                        ·intro w'
                         go_simp
                         with_reducible rfl
                        rotate_left
                        ·simp only [Act.put, List.setIfInBounds_toArray, List.set_cons_zero, List.set_cons_succ, i64_w, i32_w]
                         rfl
                        refine pure_ (i := 3) (N := some 74) (v := ?_) (a' := ?_) #[false, true, false, true, false, false, false, false, false, false, false, false, false, false, false, false, false] rfl rfl (any_of HT_.out (by kernel_rfl)) (fun _ _ _ h => h) (Or.inl ⟨by rfl, ?_⟩) ?_ ?_
                        rotate_left
                        ·intro w'
                         go_simp
                         with_reducible rfl
                        rotate_left
                        ·simp only [Act.put, List.setIfInBounds_toArray, List.set_cons_zero, List.set_cons_succ, i64_w, i32_w]
                         rfl
                        refine pure_ (i := 5) (N := some 76) (v := ?_) (a' := ?_) #[false, true, false, true, false, true, false, false, false, false, false, false, false, false, false, false, false] rfl rfl (any_of HT_.out (by kernel_rfl)) (fun _ _ _ h => h) (Or.inl ⟨by rfl, ?_⟩) ?_ ?_
                        rotate_left
                        ·intro w'
                         go_simp
                         with_reducible rfl
                        rotate_left
                        ·simp only [Act.put, List.setIfInBounds_toArray, List.set_cons_zero, List.set_cons_succ, i64_w, i32_w]
                         rfl
                        refine pure_ (i := 6) (N := some 77) (v := ?_) (a' := ?_) #[false, true, false, true, false, true, true, false, false, false, false, false, false, false, false, false, false] rfl rfl (any_of HT_.out (by kernel_rfl)) (fun _ _ _ h => h) (Or.inl ⟨by rfl, ?_⟩) ?_ ?_
                        rotate_left
                        ·intro w'
                         go_simp
                         with_reducible rfl
                        rotate_left
                        ·simp only [Act.put, List.setIfInBounds_toArray, List.set_cons_zero, List.set_cons_succ, i64_w, i32_w]
                         rfl
                        refine pure_ (i := 7) (N := some 78) (v := ?_) (a' := ?_) #[false, true, false, true, false, true, true, true, false, false, false, false, false, false, false, false, false] rfl rfl (any_of HT_.out (by kernel_rfl)) (fun _ _ _ h => h) (Or.inl ⟨by rfl, ?_⟩) ?_ ?_
                        rotate_left
                        ·intro w'
                         go_simp
                         with_reducible rfl
                        rotate_left
                        ·simp only [Act.put, List.setIfInBounds_toArray, List.set_cons_zero, List.set_cons_succ, i64_w, i32_w]
                         rfl
                        refine pure_ (i := 8) (N := some 79) (v := ?_) (a' := ?_) #[false, true, false, true, false, true, true, true, true, false, false, false, false, false, false, false, false] rfl rfl (any_of HT_.out (by kernel_rfl)) (fun _ _ _ h => h) (Or.inl ⟨by rfl, ?_⟩) ?_ ?_
                        rotate_left
                        ·intro w'
                         go_simp
                         with_reducible rfl
                        rotate_left
                        ·simp only [Act.put, List.setIfInBounds_toArray, List.set_cons_zero, List.set_cons_succ, i64_w, i32_w]
                         rfl
                        refine pure_ (i := 9) (N := some 80) (v := ?_) (a' := ?_) #[false, true, false, true, false, true, true, true, true, true, false, false, false, false, false, false, false] rfl rfl (any_of HT_.out (by kernel_rfl)) (fun _ _ _ h => h) (Or.inl ⟨by rfl, ?_⟩) ?_ ?_
                        rotate_left
                        ·intro w'
                         go_simp
                         with_reducible rfl
                        rotate_left
                        ·simp only [Act.put, List.setIfInBounds_toArray, List.set_cons_zero, List.set_cons_succ, i64_w, i32_w]
                         rfl
                        refine take_ (i := 0) (N := some 71) (v := ?_) (a' := ?_) #[true, true, false, true, false, true, true, true, true, true, false, false, false, false, false, false, false] rfl rfl (take_ofW HT_.out HW_.out (by kernel_rfl)) (fun _ _ _ h => h) (Or.inl ⟨by rfl, ?_⟩) hHeld ?_ ?_
                        rotate_left
                        ·rintro w' ⟨s0, s1, s2, s3, s4, s5, s6, s7, s8, s9, s10, s11, s12, s13, s14, s15, s16, s17, s18, s19, s20, s21, s22, s23, s24, s25, s26⟩
                         first | (refine (loadA94 (by exact rfl) (by exact rfl) s6 s7 s8 s9 s10 s11 s12 s13 s14 s15 s16 s17 s18 s19 s20 s21 s22 s23 s24 s25 s26).trans ?_; with_reducible rfl) | (go_simp; with_reducible rfl)
                        rotate_left
                        ·simp only [Act.put, List.setIfInBounds_toArray, List.set_cons_zero, List.set_cons_succ, i64_w, i32_w]
                         rfl
                        refine take_ (i := 2) (N := some 73) (v := ?_) (a' := ?_) #[true, true, true, true, false, true, true, true, true, true, false, false, false, false, false, false, false] rfl rfl (take_ofW HT_.out HW_.out (by kernel_rfl)) (fun _ _ _ h => h) (Or.inl ⟨by rfl, ?_⟩) hHeld ?_ ?_
                        rotate_left
                        ·rintro w' ⟨s0, s1, s2, s3, s4, s5, s6, s7, s8, s9, s10, s11, s12, s13, s14, s15, s16, s17, s18, s19, s20, s21, s22, s23, s24, s25, s26⟩
                         first | (refine (loadA94 (by exact rfl) (by exact rfl) s6 s7 s8 s9 s10 s11 s12 s13 s14 s15 s16 s17 s18 s19 s20 s21 s22 s23 s24 s25 s26).trans ?_; with_reducible rfl) | (go_simp; with_reducible rfl)
                        rotate_left
                        ·simp only [Act.put, List.setIfInBounds_toArray, List.set_cons_zero, List.set_cons_succ, i64_w, i32_w]
                         rfl
                        refine pure_ (i := 4) (N := some 75) (v := ?_) (a' := ?_) #[true, true, true, true, true, true, true, true, true, true, false, false, false, false, false, false, false] rfl rfl (any_of HT_.out (by kernel_rfl)) (fun _ _ _ h => h) (Or.inl ⟨by rfl, ?_⟩) ?_ ?_
                        rotate_left
                        ·intro w'
                         go_simp
                         with_reducible rfl
                        rotate_left
                        ·simp only [Act.put, List.setIfInBounds_toArray, List.set_cons_zero, List.set_cons_succ, i64_w, i32_w]
                         rfl
                        refine take_ (i := 10) (N := some 81) (v := ?_) (a' := ?_) #[true, true, true, true, true, true, true, true, true, true, true, false, false, false, false, false, false] rfl rfl (take_ofW HT_.out HW_.out (by kernel_rfl)) (fun _ _ _ h => h) (Or.inl ⟨by rfl, ?_⟩) hHeld ?_ ?_
                        rotate_left
                        ·rintro w' ⟨s0, s1, s2, s3, s4, s5, s6, s7, s8, s9, s10, s11, s12, s13, s14, s15, s16, s17, s18, s19, s20, s21, s22, s23, s24, s25, s26⟩
                         first | (refine (loadA94 (by exact rfl) (by exact rfl) s6 s7 s8 s9 s10 s11 s12 s13 s14 s15 s16 s17 s18 s19 s20 s21 s22 s23 s24 s25 s26).trans ?_; with_reducible rfl) | (go_simp; with_reducible rfl)
                        rotate_left
                        ·simp only [Act.put, List.setIfInBounds_toArray, List.set_cons_zero, List.set_cons_succ, i64_w, i32_w]
                         rfl
                        refine one_ (i := 11) (N := some 82) #[true, true, true, true, true, true, true, true, true, true, true, true, false, false, false, false, false] rfl rfl (one_of HT_.out (by kernel_rfl)) (by decide) (fun K hK => ?_)
                        refine goes_ Try.func79 (by kernel_rfl) rfl #[.agg #[.int .i64 a0_0, .slice A0_1 l0_1.length c0_1, .int .i64 a0_2, .int .i64 a0_3, .int .i64 a0_4, .int .i64 a0_5], .int .i64 (wrap64 (a0_0 - x63_3)), .int .i64 x12_4, .agg #[.int .i64 ((rd_T94 x6_1 (ji75)).f0), .int .i64 ((rd_T94 x6_1 (ji75)).f1), .int .i64 ((rd_T94 x6_1 (ji75)).f2), .int .i64 ((rd_T94 x6_1 (ji75)).f3), .int .i64 ((rd_T94 x6_1 (ji75)).f4), .int .i64 ((rd_T94 x6_1 (ji75)).f5), .int .i64 ((rd_T94 x6_1 (ji75)).f6), .int .i64 ((rd_T94 x6_1 (ji75)).f7), .int .i64 ((rd_T94 x6_1 (ji75)).f8), .int .i64 ((rd_T94 x6_1 (ji75)).f9), .int .i64 ((rd_T94 x6_1 (ji75)).f10), .int .i64 ((rd_T94 x6_1 (ji75)).f11), .int .i64 ((rd_T94 x6_1 (ji75)).f12), .int .i64 ((rd_T94 x6_1 (ji75)).f13), .int .i64 ((rd_T94 x6_1 (ji75)).f14), .int .i64 ((rd_T94 x6_1 (ji75)).f15), .int .i64 ((rd_T94 x6_1 (ji75)).f16), .int .i64 ((rd_T94 x6_1 (ji75)).f17), .int .i64 ((rd_T94 x6_1 (ji75)).f18), .int .i64 ((rd_T94 x6_1 (ji75)).f19), .int .i64 ((rd_T94 x6_1 (ji75)).f20)]] (by rfl) rfl rfl (by (try simp only [List.map_toArray, List.map_cons, List.map_nil]); first | done | (simp only [hji75]; rfl) | rfl | (simp only [List.length_drop, List.length_take]; rfl)) ?_
                        with_reducible refine (impl_Process_least.calls k4 a0_0 _ _ l0_1 a0_2 a0_3 a0_4 a0_5 (wrap64 (a0_0 - x63_3)) x12_4 ((rd_T94 x6_1 (ji75)).f0) ((rd_T94 x6_1 (ji75)).f1) ((rd_T94 x6_1 (ji75)).f2) ((rd_T94 x6_1 (ji75)).f3) ((rd_T94 x6_1 (ji75)).f4) ((rd_T94 x6_1 (ji75)).f5) ((rd_T94 x6_1 (ji75)).f6) ((rd_T94 x6_1 (ji75)).f7) ((rd_T94 x6_1 (ji75)).f8) ((rd_T94 x6_1 (ji75)).f9) ((rd_T94 x6_1 (ji75)).f10) ((rd_T94 x6_1 (ji75)).f11) ((rd_T94 x6_1 (ji75)).f12) ((rd_T94 x6_1 (ji75)).f13) ((rd_T94 x6_1 (ji75)).f14) ((rd_T94 x6_1 (ji75)).f15) ((rd_T94 x6_1 (ji75)).f16) ((rd_T94 x6_1 (ji75)).f17) ((rd_T94 x6_1 (ji75)).f18) ((rd_T94 x6_1 (ji75)).f19) ((rd_T94 x6_1 (ji75)).f20) t224 t225 _ ?side1 ?side2 A78.out).mono ?_
                        (case side1 => repeat (first | exact (Kd.C_below HR0_1.out HB.out) | (with_reducible refine Kd.C_alloc ?_ _) | (with_reducible refine Kd.C_drewN ?_ _) | (with_reducible refine Kd.C_drew ?_)))
                        (case side2 => exact HC0_1.out)
                        rintro e w84 ⟨rfl, hb⟩
                        have HS6_ := (hb.cell (World.block_lt_of_cell? _ _ (hHeld.2.2.2.2.2.2.1))).trans (hHeld.2.2.2.2.2.2.1)
                        have HS7_ := (hb.cell (World.block_lt_of_cell? _ _ (hHeld.2.2.2.2.2.2.2.1))).trans (hHeld.2.2.2.2.2.2.2.1)
                        have HS8_ := (hb.cell (World.block_lt_of_cell? _ _ (hHeld.2.2.2.2.2.2.2.2.1))).trans (hHeld.2.2.2.2.2.2.2.2.1)
                        have HS9_ := (hb.cell (World.block_lt_of_cell? _ _ (hHeld.2.2.2.2.2.2.2.2.2.1))).trans (hHeld.2.2.2.2.2.2.2.2.2.1)
                        have HS10_ := (hb.cell (World.block_lt_of_cell? _ _ (hHeld.2.2.2.2.2.2.2.2.2.2.1))).trans (hHeld.2.2.2.2.2.2.2.2.2.2.1)
                        have HS11_ := (hb.cell (World.block_lt_of_cell? _ _ (hHeld.2.2.2.2.2.2.2.2.2.2.2.1))).trans (hHeld.2.2.2.2.2.2.2.2.2.2.2.1)
                        have HS12_ := (hb.cell (World.block_lt_of_cell? _ _ (hHeld.2.2.2.2.2.2.2.2.2.2.2.2.1))).trans (hHeld.2.2.2.2.2.2.2.2.2.2.2.2.1)
                        have HS13_ := (hb.cell (World.block_lt_of_cell? _ _ (hHeld.2.2.2.2.2.2.2.2.2.2.2.2.2.1))).trans (hHeld.2.2.2.2.2.2.2.2.2.2.2.2.2.1)
                        have HS14_ := (hb.cell (World.block_lt_of_cell? _ _ (hHeld.2.2.2.2.2.2.2.2.2.2.2.2.2.2.1))).trans (hHeld.2.2.2.2.2.2.2.2.2.2.2.2.2.2.1)
                        have HS15_ := (hb.cell (World.block_lt_of_cell? _ _ (hHeld.2.2.2.2.2.2.2.2.2.2.2.2.2.2.2.1))).trans (hHeld.2.2.2.2.2.2.2.2.2.2.2.2.2.2.2.1)
                        have HS16_ := (hb.cell (World.block_lt_of_cell? _ _ (hHeld.2.2.2.2.2.2.2.2.2.2.2.2.2.2.2.2.1))).trans (hHeld.2.2.2.2.2.2.2.2.2.2.2.2.2.2.2.2.1)
                        have HS17_ := (hb.cell (World.block_lt_of_cell? _ _ (hHeld.2.2.2.2.2.2.2.2.2.2.2.2.2.2.2.2.2.1))).trans (hHeld.2.2.2.2.2.2.2.2.2.2.2.2.2.2.2.2.2.1)
                        have HS18_ := (hb.cell (World.block_lt_of_cell? _ _ (hHeld.2.2.2.2.2.2.2.2.2.2.2.2.2.2.2.2.2.2.1))).trans (hHeld.2.2.2.2.2.2.2.2.2.2.2.2.2.2.2.2.2.2.1)
                        have HS19_ := (hb.cell (World.block_lt_of_cell? _ _ (hHeld.2.2.2.2.2.2.2.2.2.2.2.2.2.2.2.2.2.2.2.1))).trans (hHeld.2.2.2.2.2.2.2.2.2.2.2.2.2.2.2.2.2.2.2.1)
                        have HS20_ := (hb.cell (World.block_lt_of_cell? _ _ (hHeld.2.2.2.2.2.2.2.2.2.2.2.2.2.2.2.2.2.2.2.2.1))).trans (hHeld.2.2.2.2.2.2.2.2.2.2.2.2.2.2.2.2.2.2.2.2.1)
                        have HS21_ := (hb.cell (World.block_lt_of_cell? _ _ (hHeld.2.2.2.2.2.2.2.2.2.2.2.2.2.2.2.2.2.2.2.2.2.1))).trans (hHeld.2.2.2.2.2.2.2.2.2.2.2.2.2.2.2.2.2.2.2.2.2.1)
                        have HS22_ := (hb.cell (World.block_lt_of_cell? _ _ (hHeld.2.2.2.2.2.2.2.2.2.2.2.2.2.2.2.2.2.2.2.2.2.2.1))).trans (hHeld.2.2.2.2.2.2.2.2.2.2.2.2.2.2.2.2.2.2.2.2.2.2.1)
                        have HS23_ := (hb.cell (World.block_lt_of_cell? _ _ (hHeld.2.2.2.2.2.2.2.2.2.2.2.2.2.2.2.2.2.2.2.2.2.2.2.1))).trans (hHeld.2.2.2.2.2.2.2.2.2.2.2.2.2.2.2.2.2.2.2.2.2.2.2.1)
                        have HS24_ := (hb.cell (World.block_lt_of_cell? _ _ (hHeld.2.2.2.2.2.2.2.2.2.2.2.2.2.2.2.2.2.2.2.2.2.2.2.2.1))).trans (hHeld.2.2.2.2.2.2.2.2.2.2.2.2.2.2.2.2.2.2.2.2.2.2.2.2.1)
                        have HS25_ := (hb.cell (World.block_lt_of_cell? _ _ (hHeld.2.2.2.2.2.2.2.2.2.2.2.2.2.2.2.2.2.2.2.2.2.2.2.2.2.1))).trans (hHeld.2.2.2.2.2.2.2.2.2.2.2.2.2.2.2.2.2.2.2.2.2.2.2.2.2.1)
                        have HS26_ := (hb.cell (World.block_lt_of_cell? _ _ (hHeld.2.2.2.2.2.2.2.2.2.2.2.2.2.2.2.2.2.2.2.2.2.2.2.2.2.2))).trans (hHeld.2.2.2.2.2.2.2.2.2.2.2.2.2.2.2.2.2.2.2.2.2.2.2.2.2.2)
                        refine ⟨_, rfl, ?_⟩
                        have n0_ := Aside0.mk (Kd.R_below (by (with_reducible repeat (first | apply Kd.R_alloc | apply Kd.R_drewN | apply Kd.R_drew)); exact HO_6.out) hb)
                        have n1_ := Aside0.mk (blk_below (g := gb214) (o := .cells #[.int .i64 a0_0, .slice A0_1 l0_1.length c0_1, .int .i64 a0_2, .int .i64 a0_3, .int .i64 a0_4, .int .i64 a0_5] 30 (0, 0)) (by (with_reducible repeat (first | refine blk_drewN ?_ _ | refine blk_drew ?_ | refine blk_alloc ?_ _)); exact BK214.out) hb)
                        have n2_ := Aside0.mk (below_step (by repeat (first | (with_reducible first | exact HB.out | apply below_alloc | apply pw_below_drewN | apply below_drew1 | refine below_set ?_ GE214.out) | exact HB.out)) hb)
                        clear HO_6
                        clear BK214
                        clear HB
                        have HO_6 := n0_
                        have BK214 := n1_
                        have HB := n2_
                        clear n0_ n1_ n2_
                        (try clear hb)
                        (try clear hb2)
                        (try clear hk)
                        (try clear hi)
                        refine hK.out _ _ ⟨(blk_cell BK214.out 0).trans rfl, (blk_cell BK214.out 1).trans rfl, (blk_cell BK214.out 2).trans rfl, (blk_cell BK214.out 3).trans rfl, (blk_cell BK214.out 4).trans rfl, (blk_cell BK214.out 5).trans rfl, HS6_, HS7_, HS8_, HS9_, HS10_, HS11_, HS12_, HS13_, HS14_, HS15_, HS16_, HS17_, HS18_, HS19_, HS20_, HS21_, HS22_, HS23_, HS24_, HS25_, HS26_⟩ (fun hHeld => ?_)
                        clear hK K
                        refine norm_ (a' := ?_) ?_ ?_
                        rotate_left
                        ·show Act.put _ (some 82) _ = _
                         simp only [Act.put, List.setIfInBounds_toArray, List.set_cons_zero, List.set_cons_succ, i64_w, i32_w]
                         rfl
                        refine pure_ (i := 12) (N := some 70) (v := ?_) (a' := ?_) #[true, true, true, true, true, true, true, true, true, true, true, true, true, false, false, false, false] rfl rfl (any_of HT_.out (by kernel_rfl)) (fun _ _ _ h => h) (Or.inl ⟨by rfl, ?_⟩) ?_ ?_
                        rotate_left
                        ·intro w'
                         go_simp
                         with_reducible rfl
                        rotate_left
                        ·simp only [Act.put, List.setIfInBounds_toArray, List.set_cons_zero, List.set_cons_succ, i64_w, i32_w]
                         rfl
                        refine pure_ (i := 13) (N := some 83) (v := ?_) (a' := ?_) #[true, true, true, true, true, true, true, true, true, true, true, true, true, true, false, false, false] rfl rfl (any_of HT_.out (by kernel_rfl)) (fun _ _ _ h => h) (Or.inl ⟨by rfl, ?_⟩) ?_ ?_
                        rotate_left
                        ·intro w'
                         go_simp
                         with_reducible rfl
                        rotate_left
                        ·simp only [Act.put, List.setIfInBounds_toArray, List.set_cons_zero, List.set_cons_succ, i64_w, i32_w]
                         rfl
                        refine pure_ (i := 14) (N := some 84) (v := ?_) (a' := ?_) #[true, true, true, true, true, true, true, true, true, true, true, true, true, true, true, false, false] rfl rfl (any_of HT_.out (by kernel_rfl)) (fun _ _ _ h => h) (Or.inl ⟨by rfl, ?_⟩) ?_ ?_
                        rotate_left
                        ·intro w'
                         go_simp
                         with_reducible rfl
                        rotate_left
                        ·simp only [Act.put, List.setIfInBounds_toArray, List.set_cons_zero, List.set_cons_succ, i64_w, i32_w]
                         rfl
                        refine pure_ (i := 15) (N := some 13) (v := ?_) (a' := ?_) #[true, true, true, true, true, true, true, true, true, true, true, true, true, true, true, true, false] rfl rfl (any_of HT_.out (by kernel_rfl)) (fun _ _ _ h => h) (Or.inl ⟨by rfl, ?_⟩) ?_ ?_
                        rotate_left
                        ·intro w'
                         go_simp
                         with_reducible rfl
                        rotate_left
                        ·simp only [Act.put, List.setIfInBounds_toArray, List.set_cons_zero, List.set_cons_succ, i64_w, i32_w]
                         rfl
                        refine pure_ (i := 16) (N := some 14) (v := ?_) (a' := ?_) #[true, true, true, true, true, true, true, true, true, true, true, true, true, true, true, true, true] rfl rfl (any_of HT_.out (by kernel_rfl)) (fun _ _ _ h => h) (Or.inl ⟨by rfl, ?_⟩) ?_ ?_
                        rotate_left
                        ·intro w'
                         go_simp
                         with_reducible rfl
                        rotate_left
                        ·simp only [Act.put, List.setIfInBounds_toArray, List.set_cons_zero, List.set_cons_succ, i64_w, i32_w]
                         rfl
                        refine done_ (done_of HT_.out (by kernel_rfl)) ?_
                        have p226 : 0 ≤ (x63_3 : Int) := of_decide_eq_true (by first | (with_reducible assumption) | assumption)
                        have q226 : x63_3 < (x6_1.length : Int) := of_decide_eq_true (by first | (with_reducible assumption) | assumption)
                        obtain ⟨ad226, e226, hx226_0, hx226_1, hx226_2, hx226_3, hx226_4, hx226_5, hx226_6, hx226_7, hx226_8, hx226_9, hx226_10, hx226_11, hx226_12, hx226_13, hx226_14, hx226_15, hx226_16, hx226_17, hx226_18, hx226_19, hx226_20⟩ := at_T94 (Kd.R_reads' HO_6.out).2.2 x63_3 p226 q226
                        obtain rfl : ad222 = ad226 := (by injection e226)
                        replace p226 := eq_true p226
                        replace q226 := eq_true q226
                        try go_wp2_with (first | ((with_reducible refine gateL94 rfl ?_); first | (refine loadE94 rfl (by exact rfl) (by exact rfl) hx226_0 hx226_1 hx226_2 hx226_3 hx226_4 hx226_5 hx226_6 hx226_7 hx226_8 hx226_9 hx226_10 hx226_11 hx226_12 hx226_13 hx226_14 hx226_15 hx226_16 hx226_17 hx226_18 hx226_19 hx226_20 ?_)) | ((with_reducible refine gate_callee (f := 88) rfl ?_); refine goesL_ (some 90) rfl rfl Try.func88 (by kernel_rfl) rfl #[.agg #[.int .i64 ((rd_T94 x6_1 x63_3).f0), .int .i64 ((rd_T94 x6_1 x63_3).f1), .int .i64 ((rd_T94 x6_1 x63_3).f2), .int .i64 ((rd_T94 x6_1 x63_3).f3), .int .i64 ((rd_T94 x6_1 x63_3).f4), .int .i64 ((rd_T94 x6_1 x63_3).f5), .int .i64 ((rd_T94 x6_1 x63_3).f6), .int .i64 ((rd_T94 x6_1 x63_3).f7), .int .i64 ((rd_T94 x6_1 x63_3).f8), .int .i64 ((rd_T94 x6_1 x63_3).f9), .int .i64 ((rd_T94 x6_1 x63_3).f10), .int .i64 ((rd_T94 x6_1 x63_3).f11), .int .i64 ((rd_T94 x6_1 x63_3).f12), .int .i64 ((rd_T94 x6_1 x63_3).f13), .int .i64 ((rd_T94 x6_1 x63_3).f14), .int .i64 ((rd_T94 x6_1 x63_3).f15), .int .i64 ((rd_T94 x6_1 x63_3).f16), .int .i64 ((rd_T94 x6_1 x63_3).f17), .int .i64 ((rd_T94 x6_1 x63_3).f18), .int .i64 ((rd_T94 x6_1 x63_3).f19), .int .i64 ((rd_T94 x6_1 x63_3).f20)], .int .i64 x12_4] rfl (by (try simp only [List.map_toArray, List.map_cons, List.map_nil]); first | done | rfl | (simp only [List.length_drop, List.length_take]; rfl)) ?_; (with_reducible refine (impl_levels_at.calls ((rd_T94 x6_1 x63_3).f0) ((rd_T94 x6_1 x63_3).f1) ((rd_T94 x6_1 x63_3).f2) ((rd_T94 x6_1 x63_3).f3) ((rd_T94 x6_1 x63_3).f4) ((rd_T94 x6_1 x63_3).f5) ((rd_T94 x6_1 x63_3).f6) ((rd_T94 x6_1 x63_3).f7) ((rd_T94 x6_1 x63_3).f8) ((rd_T94 x6_1 x63_3).f9) ((rd_T94 x6_1 x63_3).f10) ((rd_T94 x6_1 x63_3).f11) ((rd_T94 x6_1 x63_3).f12) ((rd_T94 x6_1 x63_3).f13) ((rd_T94 x6_1 x63_3).f14) ((rd_T94 x6_1 x63_3).f15) ((rd_T94 x6_1 x63_3).f16) ((rd_T94 x6_1 x63_3).f17) ((rd_T94 x6_1 x63_3).f18) ((rd_T94 x6_1 x63_3).f19) ((rd_T94 x6_1 x63_3).f20) x12_4 t227 _ A81.out).mono ?_); rintro e w85 ⟨rfl, hb⟩; refine ⟨_, rfl, ?_⟩; have n0_ := Aside0.mk (Kd.R_below (by (with_reducible repeat (first | apply Kd.R_alloc | apply Kd.R_drewN | apply Kd.R_drew)); exact HO_6.out) hb); have n1_ := Aside0.mk (blk_below (g := gb214) (o := .cells #[.int .i64 a0_0, .slice A0_1 l0_1.length c0_1, .int .i64 a0_2, .int .i64 a0_3, .int .i64 a0_4, .int .i64 a0_5] 30 (0, 0)) (by (with_reducible repeat (first | refine blk_drewN ?_ _ | refine blk_drew ?_ | refine blk_alloc ?_ _)); exact BK214.out) hb); have n2_ := Aside0.mk (below_step (by repeat (first | (with_reducible first | exact HB.out | apply below_alloc | apply pw_below_drewN | apply below_drew1 | refine below_set ?_ GE214.out) | exact HB.out)) hb); clear HO_6; clear BK214; clear HB; have HO_6 := n0_; have BK214 := n1_; have HB := n2_; clear n0_ n1_ n2_; (try clear hb); (try clear hb2); (try clear hk); (try clear hi)))
                        go_ret2
                        exact ⟨by first | rfl | (simp [errW_none, errW_some] <;> rfl) | (simp only [← hji6, ← hji75]; first | rfl | (simp [errW_none, errW_some] <;> rfl)) | (simp [*, errW_none, errW_some] <;> rfl), by repeat (first | (with_reducible first | exact HB.out | apply below_alloc | apply pw_below_drewN | apply below_drew1 | refine below_set ?_ GE214.out) | exact HB.out)⟩
                       ·rw [if_neg c82] at H
                        have c82b0 : decide (t224 < t227) = false := decide_eq_false c82
                        clear c82
                        have H' := Aside0.mk H
                        clear H
                        try go_wp2
                        have n0_ := Aside0.mk (Kd.R_drew HO_6.out)
                        have n1_ := Aside0.mk (blk_drew BK214.out)
                        have n2_ := Aside0.mk (below_drew1 HB.out)
                        clear HO_6
                        clear BK214
                        clear HB
                        have HO_6 := n0_
                        have BK214 := n1_
                        have HB := n2_
                        clear n0_ n1_ n2_
                        have p223 : 0 ≤ ((ji75) : Int) := of_decide_eq_true (by first | (with_reducible assumption) | assumption)
                        have q223 : (ji75) < (x6_1.length : Int) := of_decide_eq_true (by first | (with_reducible assumption) | assumption)
                        obtain ⟨ad223, e223, hx223_0, hx223_1, hx223_2, hx223_3, hx223_4, hx223_5, hx223_6, hx223_7, hx223_8, hx223_9, hx223_10, hx223_11, hx223_12, hx223_13, hx223_14, hx223_15, hx223_16, hx223_17, hx223_18, hx223_19, hx223_20⟩ := at_T94 (Kd.R_reads' HO_6.out).2.2 (ji75) p223 q223
                        obtain rfl : ad222 = ad223 := (by injection e223)
                        replace p223 := eq_true p223
                        replace q223 := eq_true q223
                        refine start_ (n := 17) (S := fun w' => w'.cell? ⟨gb214, 0, none⟩ = some (.int .i64 a0_0) ∧ w'.cell? ⟨gb214, 1, none⟩ = some (.slice A0_1 l0_1.length c0_1) ∧ w'.cell? ⟨gb214, 2, none⟩ = some (.int .i64 a0_2) ∧ w'.cell? ⟨gb214, 3, none⟩ = some (.int .i64 a0_3) ∧ w'.cell? ⟨gb214, 4, none⟩ = some (.int .i64 a0_4) ∧ w'.cell? ⟨gb214, 5, none⟩ = some (.int .i64 a0_5) ∧ w'.cell? (ad222.add (((ji75)).toNat * 21)) = some (.int .i64 ((rd_T94 x6_1 (ji75)).f0)) ∧ w'.cell? ⟨(ad222.add (((ji75)).toNat * 21)).block, (ad222.add (((ji75)).toNat * 21)).off + 1, none⟩ = some (.int .i64 ((rd_T94 x6_1 (ji75)).f1)) ∧ w'.cell? ⟨(ad222.add (((ji75)).toNat * 21)).block, (ad222.add (((ji75)).toNat * 21)).off + 2, none⟩ = some (.int .i64 ((rd_T94 x6_1 (ji75)).f2)) ∧ w'.cell? ⟨(ad222.add (((ji75)).toNat * 21)).block, (ad222.add (((ji75)).toNat * 21)).off + 3, none⟩ = some (.int .i64 ((rd_T94 x6_1 (ji75)).f3)) ∧ w'.cell? ⟨(ad222.add (((ji75)).toNat * 21)).block, (ad222.add (((ji75)).toNat * 21)).off + 4, none⟩ = some (.int .i64 ((rd_T94 x6_1 (ji75)).f4)) ∧ w'.cell? ⟨(ad222.add (((ji75)).toNat * 21)).block, (ad222.add (((ji75)).toNat * 21)).off + 5, none⟩ = some (.int .i64 ((rd_T94 x6_1 (ji75)).f5)) ∧ w'.cell? ⟨(ad222.add (((ji75)).toNat * 21)).block, (ad222.add (((ji75)).toNat * 21)).off + 6, none⟩ = some (.int .i64 ((rd_T94 x6_1 (ji75)).f6)) ∧ w'.cell? ⟨(ad222.add (((ji75)).toNat * 21)).block, (ad222.add (((ji75)).toNat * 21)).off + 7, none⟩ = some (.int .i64 ((rd_T94 x6_1 (ji75)).f7)) ∧ w'.cell? ⟨(ad222.add (((ji75)).toNat * 21)).block, (ad222.add (((ji75)).toNat * 21)).off + 8, none⟩ = some (.int .i64 ((rd_T94 x6_1 (ji75)).f8)) ∧ w'.cell? ⟨(ad222.add (((ji75)).toNat * 21)).block, (ad222.add (((ji75)).toNat * 21)).off + 9, none⟩ = some (.int .i64 ((rd_T94 x6_1 (ji75)).f9)) ∧ w'.cell? ⟨(ad222.add (((ji75)).toNat * 21)).block, (ad222.add (((ji75)).toNat * 21)).off + 10, none⟩ = some (.int .i64 ((rd_T94 x6_1 (ji75)).f10)) ∧ w'.cell? ⟨(ad222.add (((ji75)).toNat * 21)).block, (ad222.add (((ji75)).toNat * 21)).off + 11, none⟩ = some (.int .i64 ((rd_T94 x6_1 (ji75)).f11)) ∧ w'.cell? ⟨(ad222.add (((ji75)).toNat * 21)).block, (ad222.add (((ji75)).toNat * 21)).off + 12, none⟩ = some (.int .i64 ((rd_T94 x6_1 (ji75)).f12)) ∧ w'.cell? ⟨(ad222.add (((ji75)).toNat * 21)).block, (ad222.add (((ji75)).toNat * 21)).off + 13, none⟩ = some (.int .i64 ((rd_T94 x6_1 (ji75)).f13)) ∧ w'.cell? ⟨(ad222.add (((ji75)).toNat * 21)).block, (ad222.add (((ji75)).toNat * 21)).off + 14, none⟩ = some (.int .i64 ((rd_T94 x6_1 (ji75)).f14)) ∧ w'.cell? ⟨(ad222.add (((ji75)).toNat * 21)).block, (ad222.add (((ji75)).toNat * 21)).off + 15, none⟩ = some (.int .i64 ((rd_T94 x6_1 (ji75)).f15)) ∧ w'.cell? ⟨(ad222.add (((ji75)).toNat * 21)).block, (ad222.add (((ji75)).toNat * 21)).off + 16, none⟩ = some (.int .i64 ((rd_T94 x6_1 (ji75)).f16)) ∧ w'.cell? ⟨(ad222.add (((ji75)).toNat * 21)).block, (ad222.add (((ji75)).toNat * 21)).off + 17, none⟩ = some (.int .i64 ((rd_T94 x6_1 (ji75)).f17)) ∧ w'.cell? ⟨(ad222.add (((ji75)).toNat * 21)).block, (ad222.add (((ji75)).toNat * 21)).off + 18, none⟩ = some (.int .i64 ((rd_T94 x6_1 (ji75)).f18)) ∧ w'.cell? ⟨(ad222.add (((ji75)).toNat * 21)).block, (ad222.add (((ji75)).toNat * 21)).off + 19, none⟩ = some (.int .i64 ((rd_T94 x6_1 (ji75)).f19)) ∧ w'.cell? ⟨(ad222.add (((ji75)).toNat * 21)).block, (ad222.add (((ji75)).toNat * 21)).off + 20, none⟩ = some (.int .i64 ((rd_T94 x6_1 (ji75)).f20))) (ds := []) #[false, false, false, false, false, false, false, false, false, false, false, false, false, false, false, false, false] (by kernel_rfl) rfl rfl ⟨(blk_cell BK214.out 0).trans rfl, (blk_cell BK214.out 1).trans rfl, (blk_cell BK214.out 2).trans rfl, (blk_cell BK214.out 3).trans rfl, (blk_cell BK214.out 4).trans rfl, (blk_cell BK214.out 5).trans rfl, hx223_0, hx223_1, hx223_2, hx223_3, hx223_4, hx223_5, hx223_6, hx223_7, hx223_8, hx223_9, hx223_10, hx223_11, hx223_12, hx223_13, hx223_14, hx223_15, hx223_16, hx223_17, hx223_18, hx223_19, hx223_20⟩ (fun hHeld => ?_); refine with_tabW impl_IsWorthProof.tab25 impl_IsWorthProof.bits25 (fun HT_ HW_ => ?_)
                        generalize wr.drew = w86 at HO_6 BK214 HB hx223_0 hx223_1 hx223_10 hx223_11 hx223_12 hx223_13 hx223_14 hx223_15 hx223_16 hx223_17 hx223_18 hx223_19 hx223_2 hx223_20 hx223_3 hx223_4 hx223_5 hx223_6 hx223_7 hx223_8 hx223_9 hHeld ⊢
                        refine pure_ (i := 1) (N := some 72) (v := ?_) (a' := ?_) #[false, true, false, false, false, false, false, false, false, false, false, false, false, false, false, false, false] rfl rfl (any_of HT_.out (by kernel_rfl)) (fun _ _ _ h => h) (Or.inl ⟨by rfl, ?_⟩) ?_ ?_
                        rotate_left
                        ·intro w'
                         go_simp
                         with_reducible rfl
                        rotate_left
                        ·simp only [Act.put, List.setIfInBounds_toArray, List.set_cons_zero, List.set_cons_succ, i64_w, i32_w]
                         rfl
                        refine pure_ (i := 3) (N := some 74) (v := ?_) (a' := ?_) #[false, true, false, true, false, false, false, false, false, false, false, false, false, false, false, false, false] rfl rfl (any_of HT_.out (by kernel_rfl)) (fun _ _ _ h => h) (Or.inl ⟨by rfl, ?_⟩) ?_ ?_
                        rotate_left
                        ·intro w'
                         go_simp
                         with_reducible rfl
                        rotate_left
                        ·simp only [Act.put, List.setIfInBounds_toArray, List.set_cons_zero, List.set_cons_succ, i64_w, i32_w]
                         rfl
                        refine pure_ (i := 5) (N := some 76) (v := ?_) (a' := ?_) #[false, true, false, true, false, true, false, false, false, false, false, false, false, false, false, false, false] rfl rfl (any_of HT_.out (by kernel_rfl)) (fun _ _ _ h => h) (Or.inl ⟨by rfl, ?_⟩) ?_ ?_
                        rotate_left
                        ·intro w'
                         go_simp
                         with_reducible rfl
                        rotate_left
                        ·simp only [Act.put, List.setIfInBounds_toArray, List.set_cons_zero, List.set_cons_succ, i64_w, i32_w]
                         rfl
                        refine pure_ (i := 6) (N := some 77) (v := ?_) (a' := ?_) #[false, true, false, true, false, true, true, false, false, false, false, false, false, false, false, false, false] rfl rfl (any_of HT_.out (by kernel_rfl)) (fun _ _ _ h => h) (Or.inl ⟨by rfl, ?_⟩) ?_ ?_
                        rotate_left
                        ·intro w'
                         go_simp
                         with_reducible rfl
                        rotate_left
                        ·simp only [Act.put, List.setIfInBounds_toArray, List.set_cons_zero, List.set_cons_succ, i64_w, i32_w]
                         rfl
                        refine pure_ (i := 7) (N := some 78) (v := ?_) (a' := ?_) #[false, true, false, true, false, true, true, true, false, false, false, false, false, false, false, false, false] rfl rfl (any_of HT_.out (by kernel_rfl)) (fun _ _ _ h => h) (Or.inl ⟨by rfl, ?_⟩) ?_ ?_
                        rotate_left
                        ·intro w'
                         go_simp
                         with_reducible rfl
                        rotate_left
                        ·simp only [Act.put, List.setIfInBounds_toArray, List.set_cons_zero, List.set_cons_succ, i64_w, i32_w]
                         rfl
                        refine pure_ (i := 8) (N := some 79) (v := ?_) (a' := ?_) #[false, true, false, true, false, true, true, true, true, false, false, false, false, false, false, false, false] rfl rfl (any_of HT_.out (by kernel_rfl)) (fun _ _ _ h => h) (Or.inl ⟨by rfl, ?_⟩) ?_ ?_
                        rotate_left
                        ·intro w'
                         go_simp
                         with_reducible rfl
                        rotate_left
                        ·simp only [Act.put, List.setIfInBounds_toArray, List.set_cons_zero, List.set_cons_succ, i64_w, i32_w]
                         rfl
                        refine pure_ (i := 9) (N := some 80) (v := ?_) (a' := ?_) #[false, true, false, true, false, true, true, true, true, true, false, false, false, false, false, false, false] rfl rfl (any_of HT_.out (by kernel_rfl)) (fun _ _ _ h => h) (Or.inl ⟨by rfl, ?_⟩) ?_ ?_
                        rotate_left
                        ·intro w'
                         go_simp
                         with_reducible rfl
                        rotate_left
                        ·simp only [Act.put, List.setIfInBounds_toArray, List.set_cons_zero, List.set_cons_succ, i64_w, i32_w]
                         rfl
                        refine take_ (i := 0) (N := some 71) (v := ?_) (a' := ?_) #[true, true, false, true, false, true, true, true, true, true, false, false, false, false, false, false, false] rfl rfl (take_ofW HT_.out HW_.out (by kernel_rfl)) (fun _ _ _ h => h) (Or.inl ⟨by rfl, ?_⟩) hHeld ?_ ?_
                        rotate_left
                        ·rintro w' ⟨s0, s1, s2, s3, s4, s5, s6, s7, s8, s9, s10, s11, s12, s13, s14, s15, s16, s17, s18, s19, s20, s21, s22, s23, s24, s25, s26⟩
                         first | (refine (loadA94 (by exact rfl) (by exact rfl) s6 s7 s8 s9 s10 s11 s12 s13 s14 s15 s16 s17 s18 s19 s20 s21 s22 s23 s24 s25 s26).trans ?_; with_reducible rfl) | (go_simp; with_reducible rfl)
                        rotate_left
                        ·simp only [Act.put, List.setIfInBounds_toArray, List.set_cons_zero, List.set_cons_succ, i64_w, i32_w]
                         rfl
                        refine take_ (i := 2) (N := some 73) (v := ?_) (a' := ?_) #[true, true, true, true, false, true, true, true, true, true, false, false, false, false, false, false, false] rfl rfl (take_ofW HT_.out HW_.out (by kernel_rfl)) (fun _ _ _ h => h) (Or.inl ⟨by rfl, ?_⟩) hHeld ?_ ?_
                        rotate_left
                        ·rintro w' ⟨s0, s1, s2, s3, s4, s5, s6, s7, s8, s9, s10, s11, s12, s13, s14, s15, s16, s17, s18, s19, s20, s21, s22, s23, s24, s25, s26⟩
                         first | (refine (loadA94 (by exact rfl) (by exact rfl) s6 s7 s8 s9 s10 s11 s12 s13 s14 s15 s16 s17 s18 s19 s20 s21 s22 s23 s24 s25 s26).trans ?_; with_reducible rfl) | (go_simp; with_reducible rfl)
                        rotate_left
                        ·simp only [Act.put, List.setIfInBounds_toArray, List.set_cons_zero, List.set_cons_succ, i64_w, i32_w]
                         rfl
                        refine pure_ (i := 4) (N := some 75) (v := ?_) (a' := ?_) #[true, true, true, true, true, true, true, true, true, true, false, false, false, false, false, false, false] rfl rfl (any_of HT_.out (by kernel_rfl)) (fun _ _ _ h => h) (Or.inl ⟨by rfl, ?_⟩) ?_ ?_
                        rotate_left
                        ·intro w'
                         go_simp
                         with_reducible rfl
                        rotate_left
                        ·simp only [Act.put, List.setIfInBounds_toArray, List.set_cons_zero, List.set_cons_succ, i64_w, i32_w]
                         rfl
                        refine take_ (i := 10) (N := some 81) (v := ?_) (a' := ?_) #[true, true, true, true, true, true, true, true, true, true, true, false, false, false, false, false, false] rfl rfl (take_ofW HT_.out HW_.out (by kernel_rfl)) (fun _ _ _ h => h) (Or.inl ⟨by rfl, ?_⟩) hHeld ?_ ?_
                        rotate_left
                        ·rintro w' ⟨s0, s1, s2, s3, s4, s5, s6, s7, s8, s9, s10, s11, s12, s13, s14, s15, s16, s17, s18, s19, s20, s21, s22, s23, s24, s25, s26⟩
                         first | (refine (loadA94 (by exact rfl) (by exact rfl) s6 s7 s8 s9 s10 s11 s12 s13 s14 s15 s16 s17 s18 s19 s20 s21 s22 s23 s24 s25 s26).trans ?_; with_reducible rfl) | (go_simp; with_reducible rfl)
                        rotate_left
                        ·simp only [Act.put, List.setIfInBounds_toArray, List.set_cons_zero, List.set_cons_succ, i64_w, i32_w]
                         rfl
                        refine one_ (i := 11) (N := some 82) #[true, true, true, true, true, true, true, true, true, true, true, true, false, false, false, false, false] rfl rfl (one_of HT_.out (by kernel_rfl)) (by decide) (fun K hK => ?_)
                        refine goes_ Try.func79 (by kernel_rfl) rfl #[.agg #[.int .i64 a0_0, .slice A0_1 l0_1.length c0_1, .int .i64 a0_2, .int .i64 a0_3, .int .i64 a0_4, .int .i64 a0_5], .int .i64 (wrap64 (a0_0 - x63_3)), .int .i64 x12_4, .agg #[.int .i64 ((rd_T94 x6_1 (ji75)).f0), .int .i64 ((rd_T94 x6_1 (ji75)).f1), .int .i64 ((rd_T94 x6_1 (ji75)).f2), .int .i64 ((rd_T94 x6_1 (ji75)).f3), .int .i64 ((rd_T94 x6_1 (ji75)).f4), .int .i64 ((rd_T94 x6_1 (ji75)).f5), .int .i64 ((rd_T94 x6_1 (ji75)).f6), .int .i64 ((rd_T94 x6_1 (ji75)).f7), .int .i64 ((rd_T94 x6_1 (ji75)).f8), .int .i64 ((rd_T94 x6_1 (ji75)).f9), .int .i64 ((rd_T94 x6_1 (ji75)).f10), .int .i64 ((rd_T94 x6_1 (ji75)).f11), .int .i64 ((rd_T94 x6_1 (ji75)).f12), .int .i64 ((rd_T94 x6_1 (ji75)).f13), .int .i64 ((rd_T94 x6_1 (ji75)).f14), .int .i64 ((rd_T94 x6_1 (ji75)).f15), .int .i64 ((rd_T94 x6_1 (ji75)).f16), .int .i64 ((rd_T94 x6_1 (ji75)).f17), .int .i64 ((rd_T94 x6_1 (ji75)).f18), .int .i64 ((rd_T94 x6_1 (ji75)).f19), .int .i64 ((rd_T94 x6_1 (ji75)).f20)]] (by rfl) rfl rfl (by (try simp only [List.map_toArray, List.map_cons, List.map_nil]); first | done | (simp only [hji75]; rfl) | rfl | (simp only [List.length_drop, List.length_take]; rfl)) ?_
                        with_reducible refine (impl_Process_least.calls k4 a0_0 _ _ l0_1 a0_2 a0_3 a0_4 a0_5 (wrap64 (a0_0 - x63_3)) x12_4 ((rd_T94 x6_1 (ji75)).f0) ((rd_T94 x6_1 (ji75)).f1) ((rd_T94 x6_1 (ji75)).f2) ((rd_T94 x6_1 (ji75)).f3) ((rd_T94 x6_1 (ji75)).f4) ((rd_T94 x6_1 (ji75)).f5) ((rd_T94 x6_1 (ji75)).f6) ((rd_T94 x6_1 (ji75)).f7) ((rd_T94 x6_1 (ji75)).f8) ((rd_T94 x6_1 (ji75)).f9) ((rd_T94 x6_1 (ji75)).f10) ((rd_T94 x6_1 (ji75)).f11) ((rd_T94 x6_1 (ji75)).f12) ((rd_T94 x6_1 (ji75)).f13) ((rd_T94 x6_1 (ji75)).f14) ((rd_T94 x6_1 (ji75)).f15) ((rd_T94 x6_1 (ji75)).f16) ((rd_T94 x6_1 (ji75)).f17) ((rd_T94 x6_1 (ji75)).f18) ((rd_T94 x6_1 (ji75)).f19) ((rd_T94 x6_1 (ji75)).f20) t224 t225 _ ?side1 ?side2 A78.out).mono ?_
                        (case side1 => repeat (first | exact (Kd.C_below HR0_1.out HB.out) | (with_reducible refine Kd.C_alloc ?_ _) | (with_reducible refine Kd.C_drewN ?_ _) | (with_reducible refine Kd.C_drew ?_)))
                        (case side2 => exact HC0_1.out)
                        rintro e w87 ⟨rfl, hb⟩
                        have HS6_ := (hb.cell (World.block_lt_of_cell? _ _ (hHeld.2.2.2.2.2.2.1))).trans (hHeld.2.2.2.2.2.2.1)
                        have HS7_ := (hb.cell (World.block_lt_of_cell? _ _ (hHeld.2.2.2.2.2.2.2.1))).trans (hHeld.2.2.2.2.2.2.2.1)
                        have HS8_ := (hb.cell (World.block_lt_of_cell? _ _ (hHeld.2.2.2.2.2.2.2.2.1))).trans (hHeld.2.2.2.2.2.2.2.2.1)
                        have HS9_ := (hb.cell (World.block_lt_of_cell? _ _ (hHeld.2.2.2.2.2.2.2.2.2.1))).trans (hHeld.2.2.2.2.2.2.2.2.2.1)
                        have HS10_ := (hb.cell (World.block_lt_of_cell? _ _ (hHeld.2.2.2.2.2.2.2.2.2.2.1))).trans (hHeld.2.2.2.2.2.2.2.2.2.2.1)
                        have HS11_ := (hb.cell (World.block_lt_of_cell? _ _ (hHeld.2.2.2.2.2.2.2.2.2.2.2.1))).trans (hHeld.2.2.2.2.2.2.2.2.2.2.2.1)
                        have HS12_ := (hb.cell (World.block_lt_of_cell? _ _ (hHeld.2.2.2.2.2.2.2.2.2.2.2.2.1))).trans (hHeld.2.2.2.2.2.2.2.2.2.2.2.2.1)
                        have HS13_ := (hb.cell (World.block_lt_of_cell? _ _ (hHeld.2.2.2.2.2.2.2.2.2.2.2.2.2.1))).trans (hHeld.2.2.2.2.2.2.2.2.2.2.2.2.2.1)
                        have HS14_ := (hb.cell (World.block_lt_of_cell? _ _ (hHeld.2.2.2.2.2.2.2.2.2.2.2.2.2.2.1))).trans (hHeld.2.2.2.2.2.2.2.2.2.2.2.2.2.2.1)
                        have HS15_ := (hb.cell (World.block_lt_of_cell? _ _ (hHeld.2.2.2.2.2.2.2.2.2.2.2.2.2.2.2.1))).trans (hHeld.2.2.2.2.2.2.2.2.2.2.2.2.2.2.2.1)
                        have HS16_ := (hb.cell (World.block_lt_of_cell? _ _ (hHeld.2.2.2.2.2.2.2.2.2.2.2.2.2.2.2.2.1))).trans (hHeld.2.2.2.2.2.2.2.2.2.2.2.2.2.2.2.2.1)
                        have HS17_ := (hb.cell (World.block_lt_of_cell? _ _ (hHeld.2.2.2.2.2.2.2.2.2.2.2.2.2.2.2.2.2.1))).trans (hHeld.2.2.2.2.2.2.2.2.2.2.2.2.2.2.2.2.2.1)
                        have HS18_ := (hb.cell (World.block_lt_of_cell? _ _ (hHeld.2.2.2.2.2.2.2.2.2.2.2.2.2.2.2.2.2.2.1))).trans (hHeld.2.2.2.2.2.2.2.2.2.2.2.2.2.2.2.2.2.2.1)
                        have HS19_ := (hb.cell (World.block_lt_of_cell? _ _ (hHeld.2.2.2.2.2.2.2.2.2.2.2.2.2.2.2.2.2.2.2.1))).trans (hHeld.2.2.2.2.2.2.2.2.2.2.2.2.2.2.2.2.2.2.2.1)
                        have HS20_ := (hb.cell (World.block_lt_of_cell? _ _ (hHeld.2.2.2.2.2.2.2.2.2.2.2.2.2.2.2.2.2.2.2.2.1))).trans (hHeld.2.2.2.2.2.2.2.2.2.2.2.2.2.2.2.2.2.2.2.2.1)
                        have HS21_ := (hb.cell (World.block_lt_of_cell? _ _ (hHeld.2.2.2.2.2.2.2.2.2.2.2.2.2.2.2.2.2.2.2.2.2.1))).trans (hHeld.2.2.2.2.2.2.2.2.2.2.2.2.2.2.2.2.2.2.2.2.2.1)
                        have HS22_ := (hb.cell (World.block_lt_of_cell? _ _ (hHeld.2.2.2.2.2.2.2.2.2.2.2.2.2.2.2.2.2.2.2.2.2.2.1))).trans (hHeld.2.2.2.2.2.2.2.2.2.2.2.2.2.2.2.2.2.2.2.2.2.2.1)
                        have HS23_ := (hb.cell (World.block_lt_of_cell? _ _ (hHeld.2.2.2.2.2.2.2.2.2.2.2.2.2.2.2.2.2.2.2.2.2.2.2.1))).trans (hHeld.2.2.2.2.2.2.2.2.2.2.2.2.2.2.2.2.2.2.2.2.2.2.2.1)
                        have HS24_ := (hb.cell (World.block_lt_of_cell? _ _ (hHeld.2.2.2.2.2.2.2.2.2.2.2.2.2.2.2.2.2.2.2.2.2.2.2.2.1))).trans (hHeld.2.2.2.2.2.2.2.2.2.2.2.2.2.2.2.2.2.2.2.2.2.2.2.2.1)
                        have HS25_ := (hb.cell (World.block_lt_of_cell? _ _ (hHeld.2.2.2.2.2.2.2.2.2.2.2.2.2.2.2.2.2.2.2.2.2.2.2.2.2.1))).trans (hHeld.2.2.2.2.2.2.2.2.2.2.2.2.2.2.2.2.2.2.2.2.2.2.2.2.2.1)
                        have HS26_ := (hb.cell (World.block_lt_of_cell? _ _ (hHeld.2.2.2.2.2.2.2.2.2.2.2.2.2.2.2.2.2.2.2.2.2.2.2.2.2.2))).trans (hHeld.2.2.2.2.2.2.2.2.2.2.2.2.2.2.2.2.2.2.2.2.2.2.2.2.2.2)
                        refine ⟨_, rfl, ?_⟩
                        have n0_ := Aside0.mk (Kd.R_below (by (with_reducible repeat (first | apply Kd.R_alloc | apply Kd.R_drewN | apply Kd.R_drew)); exact HO_6.out) hb)
                        have n1_ := Aside0.mk (blk_below (g := gb214) (o := .cells #[.int .i64 a0_0, .slice A0_1 l0_1.length c0_1, .int .i64 a0_2, .int .i64 a0_3, .int .i64 a0_4, .int .i64 a0_5] 30 (0, 0)) (by (with_reducible repeat (first | refine blk_drewN ?_ _ | refine blk_drew ?_ | refine blk_alloc ?_ _)); exact BK214.out) hb)
                        have n2_ := Aside0.mk (below_step (by repeat (first | (with_reducible first | exact HB.out | apply below_alloc | apply pw_below_drewN | apply below_drew1 | refine below_set ?_ GE214.out) | exact HB.out)) hb)
                        clear HO_6
                        clear BK214
                        clear HB
                        have HO_6 := n0_
                        have BK214 := n1_
                        have HB := n2_
                        clear n0_ n1_ n2_
                        (try clear hb)
                        (try clear hb2)
                        (try clear hk)
                        (try clear hi)
                        refine hK.out _ _ ⟨(blk_cell BK214.out 0).trans rfl, (blk_cell BK214.out 1).trans rfl, (blk_cell BK214.out 2).trans rfl, (blk_cell BK214.out 3).trans rfl, (blk_cell BK214.out 4).trans rfl, (blk_cell BK214.out 5).trans rfl, HS6_, HS7_, HS8_, HS9_, HS10_, HS11_, HS12_, HS13_, HS14_, HS15_, HS16_, HS17_, HS18_, HS19_, HS20_, HS21_, HS22_, HS23_, HS24_, HS25_, HS26_⟩ (fun hHeld => ?_)
                        clear hK K
                        refine norm_ (a' := ?_) ?_ ?_
                        rotate_left
                        ·show Act.put _ (some 82) _ = _
                         simp only [Act.put, List.setIfInBounds_toArray, List.set_cons_zero, List.set_cons_succ, i64_w, i32_w]
                         rfl
                        refine pure_ (i := 12) (N := some 70) (v := ?_) (a' := ?_) #[true, true, true, true, true, true, true, true, true, true, true, true, true, false, false, false, false] rfl rfl (any_of HT_.out (by kernel_rfl)) (fun _ _ _ h => h) (Or.inl ⟨by rfl, ?_⟩) ?_ ?_
                        rotate_left
                        ·intro w'
                         go_simp
                         with_reducible rfl
                        rotate_left
                        ·simp only [Act.put, List.setIfInBounds_toArray, List.set_cons_zero, List.set_cons_succ, i64_w, i32_w]
                         rfl
                        refine pure_ (i := 13) (N := some 83) (v := ?_) (a' := ?_) #[true, true, true, true, true, true, true, true, true, true, true, true, true, true, false, false, false] rfl rfl (any_of HT_.out (by kernel_rfl)) (fun _ _ _ h => h) (Or.inl ⟨by rfl, ?_⟩) ?_ ?_
                        rotate_left
                        ·intro w'
                         go_simp
                         with_reducible rfl
                        rotate_left
                        ·simp only [Act.put, List.setIfInBounds_toArray, List.set_cons_zero, List.set_cons_succ, i64_w, i32_w]
                         rfl
                        refine pure_ (i := 14) (N := some 84) (v := ?_) (a' := ?_) #[true, true, true, true, true, true, true, true, true, true, true, true, true, true, true, false, false] rfl rfl (any_of HT_.out (by kernel_rfl)) (fun _ _ _ h => h) (Or.inl ⟨by rfl, ?_⟩) ?_ ?_
                        rotate_left
                        ·intro w'
                         go_simp
                         with_reducible rfl
                        rotate_left
                        ·simp only [Act.put, List.setIfInBounds_toArray, List.set_cons_zero, List.set_cons_succ, i64_w, i32_w]
                         rfl
                        refine pure_ (i := 15) (N := some 13) (v := ?_) (a' := ?_) #[true, true, true, true, true, true, true, true, true, true, true, true, true, true, true, true, false] rfl rfl (any_of HT_.out (by kernel_rfl)) (fun _ _ _ h => h) (Or.inl ⟨by rfl, ?_⟩) ?_ ?_
                        rotate_left
                        ·intro w'
                         go_simp
                         with_reducible rfl
                        rotate_left
                        ·simp only [Act.put, List.setIfInBounds_toArray, List.set_cons_zero, List.set_cons_succ, i64_w, i32_w]
                         rfl
                        refine pure_ (i := 16) (N := some 14) (v := ?_) (a' := ?_) #[true, true, true, true, true, true, true, true, true, true, true, true, true, true, true, true, true] rfl rfl (any_of HT_.out (by kernel_rfl)) (fun _ _ _ h => h) (Or.inl ⟨by rfl, ?_⟩) ?_ ?_
                        rotate_left
                        ·intro w'
                         go_simp
                         with_reducible rfl
                        rotate_left
                        ·simp only [Act.put, List.setIfInBounds_toArray, List.set_cons_zero, List.set_cons_succ, i64_w, i32_w]
                         rfl
                        refine done_ (done_of HT_.out (by kernel_rfl)) ?_
                        have p226 : 0 ≤ (x63_3 : Int) := of_decide_eq_true (by first | (with_reducible assumption) | assumption)
                        have q226 : x63_3 < (x6_1.length : Int) := of_decide_eq_true (by first | (with_reducible assumption) | assumption)
                        obtain ⟨ad226, e226, hx226_0, hx226_1, hx226_2, hx226_3, hx226_4, hx226_5, hx226_6, hx226_7, hx226_8, hx226_9, hx226_10, hx226_11, hx226_12, hx226_13, hx226_14, hx226_15, hx226_16, hx226_17, hx226_18, hx226_19, hx226_20⟩ := at_T94 (Kd.R_reads' HO_6.out).2.2 x63_3 p226 q226
                        obtain rfl : ad222 = ad226 := (by injection e226)
                        replace p226 := eq_true p226
                        replace q226 := eq_true q226
                        try go_wp2_with (first | ((with_reducible refine gateL94 rfl ?_); first | (refine loadE94 rfl (by exact rfl) (by exact rfl) hx226_0 hx226_1 hx226_2 hx226_3 hx226_4 hx226_5 hx226_6 hx226_7 hx226_8 hx226_9 hx226_10 hx226_11 hx226_12 hx226_13 hx226_14 hx226_15 hx226_16 hx226_17 hx226_18 hx226_19 hx226_20 ?_)) | ((with_reducible refine gate_callee (f := 88) rfl ?_); refine goesL_ (some 90) rfl rfl Try.func88 (by kernel_rfl) rfl #[.agg #[.int .i64 ((rd_T94 x6_1 x63_3).f0), .int .i64 ((rd_T94 x6_1 x63_3).f1), .int .i64 ((rd_T94 x6_1 x63_3).f2), .int .i64 ((rd_T94 x6_1 x63_3).f3), .int .i64 ((rd_T94 x6_1 x63_3).f4), .int .i64 ((rd_T94 x6_1 x63_3).f5), .int .i64 ((rd_T94 x6_1 x63_3).f6), .int .i64 ((rd_T94 x6_1 x63_3).f7), .int .i64 ((rd_T94 x6_1 x63_3).f8), .int .i64 ((rd_T94 x6_1 x63_3).f9), .int .i64 ((rd_T94 x6_1 x63_3).f10), .int .i64 ((rd_T94 x6_1 x63_3).f11), .int .i64 ((rd_T94 x6_1 x63_3).f12), .int .i64 ((rd_T94 x6_1 x63_3).f13), .int .i64 ((rd_T94 x6_1 x63_3).f14), .int .i64 ((rd_T94 x6_1 x63_3).f15), .int .i64 ((rd_T94 x6_1 x63_3).f16), .int .i64 ((rd_T94 x6_1 x63_3).f17), .int .i64 ((rd_T94 x6_1 x63_3).f18), .int .i64 ((rd_T94 x6_1 x63_3).f19), .int .i64 ((rd_T94 x6_1 x63_3).f20)], .int .i64 x12_4] rfl (by (try simp only [List.map_toArray, List.map_cons, List.map_nil]); first | done | rfl | (simp only [List.length_drop, List.length_take]; rfl)) ?_; (with_reducible refine (impl_levels_at.calls ((rd_T94 x6_1 x63_3).f0) ((rd_T94 x6_1 x63_3).f1) ((rd_T94 x6_1 x63_3).f2) ((rd_T94 x6_1 x63_3).f3) ((rd_T94 x6_1 x63_3).f4) ((rd_T94 x6_1 x63_3).f5) ((rd_T94 x6_1 x63_3).f6) ((rd_T94 x6_1 x63_3).f7) ((rd_T94 x6_1 x63_3).f8) ((rd_T94 x6_1 x63_3).f9) ((rd_T94 x6_1 x63_3).f10) ((rd_T94 x6_1 x63_3).f11) ((rd_T94 x6_1 x63_3).f12) ((rd_T94 x6_1 x63_3).f13) ((rd_T94 x6_1 x63_3).f14) ((rd_T94 x6_1 x63_3).f15) ((rd_T94 x6_1 x63_3).f16) ((rd_T94 x6_1 x63_3).f17) ((rd_T94 x6_1 x63_3).f18) ((rd_T94 x6_1 x63_3).f19) ((rd_T94 x6_1 x63_3).f20) x12_4 t227 _ A81.out).mono ?_); rintro e w88 ⟨rfl, hb⟩; refine ⟨_, rfl, ?_⟩; have n0_ := Aside0.mk (Kd.R_below (by (with_reducible repeat (first | apply Kd.R_alloc | apply Kd.R_drewN | apply Kd.R_drew)); exact HO_6.out) hb); have n1_ := Aside0.mk (blk_below (g := gb214) (o := .cells #[.int .i64 a0_0, .slice A0_1 l0_1.length c0_1, .int .i64 a0_2, .int .i64 a0_3, .int .i64 a0_4, .int .i64 a0_5] 30 (0, 0)) (by (with_reducible repeat (first | refine blk_drewN ?_ _ | refine blk_drew ?_ | refine blk_alloc ?_ _)); exact BK214.out) hb); have n2_ := Aside0.mk (below_step (by repeat (first | (with_reducible first | exact HB.out | apply below_alloc | apply pw_below_drewN | apply below_drew1 | refine below_set ?_ GE214.out) | exact HB.out)) hb); clear HO_6; clear BK214; clear HB; have HO_6 := n0_; have BK214 := n1_; have HB := n2_; clear n0_ n1_ n2_; (try clear hb); (try clear hb2); (try clear hk); (try clear hi)))
                        go_roundg k4
                        case measure => have := HK1.out; have := HK2.out; have := HK3.out; have := HK4.out; omega
                        case rel => exact ⟨(wrap64 (x12_4 + 1)), (by first | rfl | (simp; done) | (simp [*]; done)), H', ⟨by have := HK1.out; have := HK2.out; have := HK3.out; have := HK4.out; omega⟩, ⟨by (with_reducible repeat (first | apply Kd.R_alloc | apply Kd.R_drewN | apply Kd.R_drew)); exact HO_6.out⟩, ⟨by (with_reducible repeat (first | refine blk_drewN ?_ _ | refine blk_drew ?_ | refine blk_alloc ?_ _)); exact BK214.out⟩, ⟨by repeat (first | (with_reducible first | exact HB.out | apply below_alloc | apply pw_below_drewN | apply below_drew1 | refine below_set ?_ GE214.out) | exact HB.out)⟩⟩
                      ·rw [if_neg c80] at H
                       exact absurd H (by simp)
                     ·rw [if_neg c79] at H
                      exact absurd H (by simp)
                    ·rw [if_neg c77] at H
                     exact absurd H (by simp)
                   ·rw [if_neg c76] at H
                    exact absurd H (by simp)
                  ·rw [if_neg c74] at H
                   have c74b0 : decide (x12_4 ≤ 10) = false := decide_eq_false c74
                   clear c74
                   have H' := Aside0.mk H
                   clear H
                   go_wp2
                   go_roundg k4
                   case measure => have := HK1.out; have := HK2.out; have := HK3.out; have := HK4.out; omega
                   case rel => exact ⟨(wrap64 (x63_3 + 1)), (by first | rfl | (simp; done) | (simp [*]; done)), H', ⟨by have := HK1.out; have := HK2.out; have := HK3.out; have := HK4.out; omega⟩, ⟨by (with_reducible repeat (first | apply Kd.R_alloc | apply Kd.R_drewN | apply Kd.R_drew)); exact HO_6.out⟩, ⟨by (with_reducible repeat (first | refine blk_drewN ?_ _ | refine blk_drew ?_ | refine blk_alloc ?_ _)); exact BK214.out⟩, ⟨by repeat (first | (with_reducible first | exact HB.out | apply below_alloc | apply pw_below_drewN | apply below_drew1 | refine below_set ?_ GE214.out) | exact HB.out)⟩⟩
               ·rw [if_neg c73] at H
                have c73b0 : decide (x63_3 < a0_0) = false := decide_eq_false c73
                clear c73
                simp only [Option.some.injEq, Prod.mk.injEq] at H
                obtain ⟨rfl, rfl⟩ := H
                go_wp2
                go_ret2
                exact ⟨by first | rfl | (simp [errW_none, errW_some] <;> rfl) | (simp only [← hji6]; first | rfl | (simp [errW_none, errW_some] <;> rfl)) | (simp [*, errW_none, errW_some] <;> rfl), by repeat (first | (with_reducible first | exact HB.out | apply below_alloc | apply pw_below_drewN | apply below_drew1 | refine below_set ?_ GE214.out) | exact HB.out)⟩
         ·rw [if_neg c26] at H
          exact absurd H (by simp)
        ·rw [if_neg c25] at H
         exact absurd H (by simp)
    ·rw [if_neg c8] at H
     exact absurd H (by simp)
   ·rw [if_neg c7] at H
    exact absurd H (by simp)
  ·rw [if_neg c5] at H
   have c5b0 : ((l1.length : Int) == (wrap64 (a0_0 + 1))) = false := beq_eq_false_iff_ne.mpr c5
   have c5b1 : ((l1.length : Int) != (wrap64 (a0_0 + 1))) = true := bne_iff_ne.mpr c5
   simp only [Option.some.injEq, Prod.mk.injEq] at H
   obtain ⟨rfl, rfl⟩ := H
   go_enter Try.func41, Try.ntmps41
   go_wp2_with (first | ((with_reducible refine gateL94 rfl ?_); first | (refine loadE94 rfl (by exact rfl) (by exact rfl) hx226_0 hx226_1 hx226_2 hx226_3 hx226_4 hx226_5 hx226_6 hx226_7 hx226_8 hx226_9 hx226_10 hx226_11 hx226_12 hx226_13 hx226_14 hx226_15 hx226_16 hx226_17 hx226_18 hx226_19 hx226_20 ?_)) | ((with_reducible refine gate_dst (N := 2) rfl ?_); refine box_event ?hg (N := 2) ?hd (cs := #[.int .i64 a0_0, .slice A0_1 l0_1.length c0_1, .int .i64 a0_2, .int .i64 a0_3, .int .i64 a0_4, .int .i64 a0_5]) (t := 30) ?hr ?_; (case hd => rfl); (case hg => rfl); (case hr => first | (go_simp; done) | (go_simp; rfl)); intro gb214 hg w89 hbox hb; have n0_ := Aside0.mk (below_step (by repeat (first | (with_reducible first | exact HB.out | apply below_alloc | apply pw_below_drewN | apply below_drew1) | exact HB.out)) hb); have n1_ := Aside0.mk (hbox); have n2_ := Aside0.mk ((by rw [hg]; exact (below_size (by repeat (first | (with_reducible first | exact HB.out | apply below_alloc | apply pw_below_drewN | apply below_drew1) | exact HB.out))) : w.heap.size ≤ gb214)); have n3_ := Aside0.mk ((by rw [hg]; exact (below_size (by repeat (first | (with_reducible first | exact HB.out | apply below_alloc | apply pw_below_drewN | apply below_drew1) | exact HB.out))) : w.heap.size ≤ gb214)); clear HB; have HB := n0_; have BK214 := n1_; have GW214 := n2_; have GE214 := n3_; clear n0_ n1_ n2_ n3_; clear hb hbox hg; have hcz90_0 : w89.cell? ⟨gb214, 0, none⟩ = some (.int .i64 a0_0) := (blk_cell BK214.out 0).trans rfl; have hcz90_1 : w89.cell? ⟨gb214, 1, none⟩ = some (.slice A0_1 l0_1.length c0_1) := (blk_cell BK214.out 1).trans rfl; have hcz90_2 : w89.cell? ⟨gb214, 2, none⟩ = some (.int .i64 a0_2) := (blk_cell BK214.out 2).trans rfl; have hcz90_3 : w89.cell? ⟨gb214, 3, none⟩ = some (.int .i64 a0_3) := (blk_cell BK214.out 3).trans rfl; have hcz90_4 : w89.cell? ⟨gb214, 4, none⟩ = some (.int .i64 a0_4) := (blk_cell BK214.out 4).trans rfl; have hcz90_5 : w89.cell? ⟨gb214, 5, none⟩ = some (.int .i64 a0_5) := (blk_cell BK214.out 5).trans rfl; have hfz90_0 := blk_frozen BK214.out 0; have hfz90_1 := blk_frozen BK214.out 1; have hfz90_2 := blk_frozen BK214.out 2; have hfz90_3 := blk_frozen BK214.out 3; have hfz90_4 := blk_frozen BK214.out 4; have hfz90_5 := blk_frozen BK214.out 5) | ((with_reducible refine gate_callee (f := 52) rfl ?_); refine goesL_ (some 16) rfl rfl Try.func52 (by kernel_rfl) rfl #[.agg #[.int .i64 a0_0, .slice A0_1 l0_1.length c0_1, .int .i64 a0_2, .int .i64 a0_3, .int .i64 a0_4, .int .i64 a0_5]] rfl (by (try simp only [List.map_toArray, List.map_cons, List.map_nil]); first | done | rfl | (simp only [List.length_drop, List.length_take]; rfl)) ?_; (with_reducible refine (impl_IsProcess.calls k a0_0 _ _ l0_1 a0_2 a0_3 a0_4 a0_5 true _ ?side1 ?side2 A3.out).mono ?_); (case side1 => repeat (first | exact (Kd.C_below HR0_1.out HB.out) | (with_reducible refine Kd.C_alloc ?_ _) | (with_reducible refine Kd.C_drewN ?_ _) | (with_reducible refine Kd.C_drew ?_))); (case side2 => exact HC0_1.out); rintro e w91 ⟨rfl, hb⟩; refine ⟨_, rfl, ?_⟩; have n0_ := Aside0.mk (blk_below (g := gb214) (o := .cells #[.int .i64 a0_0, .slice A0_1 l0_1.length c0_1, .int .i64 a0_2, .int .i64 a0_3, .int .i64 a0_4, .int .i64 a0_5] 30 (0, 0)) (by (with_reducible repeat (first | refine blk_drewN ?_ _ | refine blk_drew ?_ | refine blk_alloc ?_ _)); exact BK214.out) hb); have n1_ := Aside0.mk (below_step (by repeat (first | (with_reducible first | exact HB.out | apply below_alloc | apply pw_below_drewN | apply below_drew1 | refine below_set ?_ GE214.out) | exact HB.out)) hb); clear BK214; clear HB; have BK214 := n0_; have HB := n1_; clear n0_ n1_; (try clear hb); (try clear hb2); (try clear hk); (try clear hi); have hcz92_0 : w91.cell? ⟨gb214, 0, none⟩ = some (.int .i64 a0_0) := (blk_cell BK214.out 0).trans rfl; have hcz92_1 : w91.cell? ⟨gb214, 1, none⟩ = some (.slice A0_1 l0_1.length c0_1) := (blk_cell BK214.out 1).trans rfl; have hcz92_2 : w91.cell? ⟨gb214, 2, none⟩ = some (.int .i64 a0_2) := (blk_cell BK214.out 2).trans rfl; have hcz92_3 : w91.cell? ⟨gb214, 3, none⟩ = some (.int .i64 a0_3) := (blk_cell BK214.out 3).trans rfl; have hcz92_4 : w91.cell? ⟨gb214, 4, none⟩ = some (.int .i64 a0_4) := (blk_cell BK214.out 4).trans rfl; have hcz92_5 : w91.cell? ⟨gb214, 5, none⟩ = some (.int .i64 a0_5) := (blk_cell BK214.out 5).trans rfl; have hfz92_0 := blk_frozen BK214.out 0; have hfz92_1 := blk_frozen BK214.out 1; have hfz92_2 := blk_frozen BK214.out 2; have hfz92_3 := blk_frozen BK214.out 3; have hfz92_4 := blk_frozen BK214.out 4; have hfz92_5 := blk_frozen BK214.out 5))
   go_ret2
   exact ⟨by first | rfl | (simp only [i64_w]; rfl) | (simp [errW_none, errW_some] <;> rfl) | (simp [*, errW_none, errW_some] <;> rfl), by repeat (first | (with_reducible first | exact HB.out | apply below_alloc | apply pw_below_drewN | apply below_drew1 | refine below_set ?_ GE214.out) | exact HB.out)⟩
 ·replace c4 := Bool.eq_false_iff.mpr c4
  subst c4
  have H1 : (some (false, false)) = some (r1, r2) := by rw [if_neg (show ¬ (false = true) by decide)] at H; exact H
  clear H
  have H := H1
  clear H1
  simp only [Option.some.injEq, Prod.mk.injEq] at H
  obtain ⟨rfl, rfl⟩ := H
  go_enter Try.func41, Try.ntmps41
  go_wp2_with (first | ((with_reducible refine gateL94 rfl ?_); first | (refine loadE94 rfl (by exact rfl) (by exact rfl) hx226_0 hx226_1 hx226_2 hx226_3 hx226_4 hx226_5 hx226_6 hx226_7 hx226_8 hx226_9 hx226_10 hx226_11 hx226_12 hx226_13 hx226_14 hx226_15 hx226_16 hx226_17 hx226_18 hx226_19 hx226_20 ?_)) | ((with_reducible refine gate_dst (N := 2) rfl ?_); refine box_event ?hg (N := 2) ?hd (cs := #[.int .i64 a0_0, .slice A0_1 l0_1.length c0_1, .int .i64 a0_2, .int .i64 a0_3, .int .i64 a0_4, .int .i64 a0_5]) (t := 30) ?hr ?_; (case hd => rfl); (case hg => rfl); (case hr => first | (go_simp; done) | (go_simp; rfl)); intro gb214 hg w93 hbox hb; have n0_ := Aside0.mk (below_step (by repeat (first | (with_reducible first | exact HB.out | apply below_alloc | apply pw_below_drewN | apply below_drew1) | exact HB.out)) hb); have n1_ := Aside0.mk (hbox); have n2_ := Aside0.mk ((by rw [hg]; exact (below_size (by repeat (first | (with_reducible first | exact HB.out | apply below_alloc | apply pw_below_drewN | apply below_drew1) | exact HB.out))) : w.heap.size ≤ gb214)); have n3_ := Aside0.mk ((by rw [hg]; exact (below_size (by repeat (first | (with_reducible first | exact HB.out | apply below_alloc | apply pw_below_drewN | apply below_drew1) | exact HB.out))) : w.heap.size ≤ gb214)); clear HB; have HB := n0_; have BK214 := n1_; have GW214 := n2_; have GE214 := n3_; clear n0_ n1_ n2_ n3_; clear hb hbox hg; have hcz94_0 : w93.cell? ⟨gb214, 0, none⟩ = some (.int .i64 a0_0) := (blk_cell BK214.out 0).trans rfl; have hcz94_1 : w93.cell? ⟨gb214, 1, none⟩ = some (.slice A0_1 l0_1.length c0_1) := (blk_cell BK214.out 1).trans rfl; have hcz94_2 : w93.cell? ⟨gb214, 2, none⟩ = some (.int .i64 a0_2) := (blk_cell BK214.out 2).trans rfl; have hcz94_3 : w93.cell? ⟨gb214, 3, none⟩ = some (.int .i64 a0_3) := (blk_cell BK214.out 3).trans rfl; have hcz94_4 : w93.cell? ⟨gb214, 4, none⟩ = some (.int .i64 a0_4) := (blk_cell BK214.out 4).trans rfl; have hcz94_5 : w93.cell? ⟨gb214, 5, none⟩ = some (.int .i64 a0_5) := (blk_cell BK214.out 5).trans rfl; have hfz94_0 := blk_frozen BK214.out 0; have hfz94_1 := blk_frozen BK214.out 1; have hfz94_2 := blk_frozen BK214.out 2; have hfz94_3 := blk_frozen BK214.out 3; have hfz94_4 := blk_frozen BK214.out 4; have hfz94_5 := blk_frozen BK214.out 5) | ((with_reducible refine gate_callee (f := 52) rfl ?_); refine goesL_ (some 16) rfl rfl Try.func52 (by kernel_rfl) rfl #[.agg #[.int .i64 a0_0, .slice A0_1 l0_1.length c0_1, .int .i64 a0_2, .int .i64 a0_3, .int .i64 a0_4, .int .i64 a0_5]] rfl (by (try simp only [List.map_toArray, List.map_cons, List.map_nil]); first | done | rfl | (simp only [List.length_drop, List.length_take]; rfl)) ?_; (with_reducible refine (impl_IsProcess.calls k a0_0 _ _ l0_1 a0_2 a0_3 a0_4 a0_5 false _ ?side1 ?side2 A3.out).mono ?_); (case side1 => repeat (first | exact (Kd.C_below HR0_1.out HB.out) | (with_reducible refine Kd.C_alloc ?_ _) | (with_reducible refine Kd.C_drewN ?_ _) | (with_reducible refine Kd.C_drew ?_))); (case side2 => exact HC0_1.out); rintro e w95 ⟨rfl, hb⟩; refine ⟨_, rfl, ?_⟩; have n0_ := Aside0.mk (blk_below (g := gb214) (o := .cells #[.int .i64 a0_0, .slice A0_1 l0_1.length c0_1, .int .i64 a0_2, .int .i64 a0_3, .int .i64 a0_4, .int .i64 a0_5] 30 (0, 0)) (by (with_reducible repeat (first | refine blk_drewN ?_ _ | refine blk_drew ?_ | refine blk_alloc ?_ _)); exact BK214.out) hb); have n1_ := Aside0.mk (below_step (by repeat (first | (with_reducible first | exact HB.out | apply below_alloc | apply pw_below_drewN | apply below_drew1 | refine below_set ?_ GE214.out) | exact HB.out)) hb); clear BK214; clear HB; have BK214 := n0_; have HB := n1_; clear n0_ n1_; (try clear hb); (try clear hb2); (try clear hk); (try clear hi)))
  go_ret2
  exact ⟨by first | rfl | (simp only [i64_w]; rfl) | (simp [errW_none, errW_some] <;> rfl) | (simp [*, errW_none, errW_some] <;> rfl), by repeat (first | (with_reducible first | exact HB.out | apply below_alloc | apply pw_below_drewN | apply below_drew1 | refine below_set ?_ GE214.out) | exact HB.out)⟩

end Go.Proofs.Ytmekmkhdhakohaa.PFnExactIsWorthProof
