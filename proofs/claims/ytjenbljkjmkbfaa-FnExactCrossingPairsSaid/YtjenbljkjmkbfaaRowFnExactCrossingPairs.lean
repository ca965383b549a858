/- The row of the law FnExactCrossingPairs: for every input it answers true, and its arguments read as before. No condition. (Written by this session's program rowgen.py.) -/
import Derived.Test.YtjenbljkjmkbfaaRows
import Derived.Test.YtjenbljkjmkbfaaPFnExactCrossingPairsx8
import Derived.Test.YtjenbljkjmkbfaaPureFnExactCrossingPairs
import Derived.Test.YtjenbljkjmkbfaaOpens
import Derived.WalkKit
import Derived.ProofKit
import Derived.OpenShut
import Derived.ShutString
import Derived.ChangeOld
import Derived.Below
import Derived.SizedLaws
import Derived.WideShapes
namespace Go.Proofs.Ytjenbljkjmkbfaa.fnExactCrossingPairs
open Go.ChangeShapes Go.WideShapes Go.ChangeAt Go.RowKit Go.Proofs.Ytjenbljkjmkbfaa.Op Go.Proofs.YtjenbljkjmkbfaaW.PrintWords
open Go.ChangeMaps (open_string shut_string)
set_option linter.unusedVariables false
theorem own : ownKnob Try.prog.godebug = none := by kernel_rfl
theorem laidOut : laidOutB Try.prog = true := by kernel_rfl
theorem opens87 {H : Type} {enc : TypeId × Value → H} {W : World} {base : Nat} {spare : Nat → Bool} {held : Bool} : Opens enc Try.prog W base spare held 87 PFnExactCrossingPairs.k87 (fun x => ((Lit.int .i64 x.f0).wf = true ∧ (Lit.int .i64 x.f1).wf = true ∧ (Lit.int .i64 x.f2).wf = true)) := by
  intro fuel cs x h
  have F := fields_of Try.underlying87 (by kernel_rfl) (by kernel_rfl) h
  obtain ⟨c0, c1, c2, rfl⟩ := three_of F.1
  obtain ⟨_, _, t0⟩ := F.2 0 _ rfl _ rfl
  obtain ⟨a0, rfl, w0⟩ := int_of (t := 3) Try.underlying3 t0
  obtain ⟨_, _, t1⟩ := F.2 1 _ rfl _ rfl
  obtain ⟨a1, rfl, w1⟩ := int_of (t := 3) Try.underlying3 t1
  obtain ⟨_, _, t2⟩ := F.2 2 _ rfl _ rfl
  obtain ⟨a2, rfl, w2⟩ := int_of (t := 3) Try.underlying3 t2
  exact ⟨⟨a0, a1, a2⟩, PFnExactCrossingPairs.k87_mk W ⟨a0, a1, a2⟩, w0, w1, w2⟩
set_option maxRecDepth 100000 in
set_option maxHeartbeats 1000000 in
theorem lifted (os : Os) (started : os.Started) (H : Type) (enc : TypeId × Value → H) :
    ReturnsInHanded {} Try.checked os 11 .any (Rows.fnExactCrossingPairsSpec.pre6 enc Try.prog Try.f11 Rows.fnExactCrossingPairsRow.domain false) (Rows.fnExactCrossingPairsSpec.post enc Try.prog Try.f11 false true false false) := by
  refine returnsInHanded_of_change_sized (C := Try.checked) own started (by kernel_rfl) Try.func11
    (ChangeSpec.witness6 (enc := enc) (C := Try.checked) false ⟨#[], #[.slice none 0 0], []⟩ 8 (by kernel_rfl) (by kernel_rfl) (by kernel_rfl) (by kernel_rfl)) ?_
  intro W base args ds gs before hval0 hW hcnd hsz0 _
  have hval : ∀ (j : Nat) t v, Try.f11.params[j]? = some t → args[j]? = some v → Value.okWide Try.prog W .any base t v := hval0
  have hW' := hW
  obtain ⟨p, q, hA0, hV, rfl, hfz, hnd⟩ := hW
  have hA : DataW.TrodAll enc Try.prog W 0 (fun _ => true) true Try.f11.params.toList args.toList ds p := hA0
  rw [Try.params11] at hA hval
  obtain ⟨v0, vs0, d0, ds0, p0, q0, hargs, rfl, rfl, h0, r0⟩ := trodAll_cons hA
  obtain ⟨rfl, rfl, rfl⟩ := trodAll_nil r0
  obtain rfl : args = #[v0] := by cases args; simp_all
  obtain ⟨rfl, rfl⟩ := trodVars_none hV
  have k0 := h0
  have lt0 : ∀ x ∈ p0, x.block < W.heap.size := by obtain ⟨m, hm⟩ := k0; exact DataW.trod_lt m _ _ _ hm
  obtain ⟨A0_, n0_, c0_, rfl⟩ := okWide_slice Try.underlying50 (hval 0 50 v0 rfl rfl)
  obtain ⟨fu0, hf0⟩ := h0
  obtain ⟨A0, c0, l0, e0, hl0, hC0, ok0⟩ := row_of (t := 50) hf0 (Opens.slice Try.underlying50 (by kernel_rfl) opens87)
  injection e0 with e0a e0b e0c
  subst e0a; subst e0b; subst e0c
  clear hA0 hval0 hsz0
  obtain ⟨k, hp⟩ := Pure.FnExactCrossingPairs l0 hC0.2.1 ok0
  refine (PFnExactCrossingPairs.laws_FnExactCrossingPairs.calls k A0_ c0_ l0 true W hC0 hl0 hp).mono fun e W' ⟨he, bel⟩ => ?_
  subst he
  exact ⟨_, rfl, _, _, _, [], _, [], hW', trodAll_mk1 (shut_bool Try.underlying4 _), (trodAll_cons_mk (Below.trod laidOut (by kernel_rfl) (of_decide_eq_true (by kernel_rfl)) k0 bel lt0) trodAll_mk0), rfl, bel.frame _, fun h => by cases h⟩
theorem over : Rows.fnExactCrossingPairsRow.holds Try.pinned (OpenSpec.ofChange Rows.fnExactCrossingPairsSpec) :=
  OpenClaim.holds_of_wide 11 Try.f11 rfl rfl rfl rfl rfl rfl rfl ⟨rfl, rfl, rfl, rfl, rfl⟩ rfl rfl rfl rfl rfl (by kernel_rfl) Try.func11 (by kernel_rfl)
    (of_decide_eq_true (by kernel_rfl)) (by unfold Func.isWrapper; first | (rw [if_pos (by decide +kernel)]; kernel_rfl) | (rw [if_neg (by decide +kernel)]; exact ⟨rfl, rfl⟩))
    (fun os started H enc _ => lifted os started H enc)
theorem proved : Rows.FnExactCrossingPairsSaid := over
#print axioms proved
end Go.Proofs.Ytjenbljkjmkbfaa.fnExactCrossingPairs
namespace Go.Proofs.Ytjenbljkjmkbfaa
/-- The row, under a short name, for the claim. -/
theorem fnExactCrossingPairs_holds : Rows.FnExactCrossingPairsSaid := fnExactCrossingPairs.proved
end Go.Proofs.Ytjenbljkjmkbfaa
