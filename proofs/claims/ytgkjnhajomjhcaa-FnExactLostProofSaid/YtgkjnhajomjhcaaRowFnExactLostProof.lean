/- The row of the law FnExactLostProof: for every input it answers true, and its arguments read as before. No condition. (Written by this session's program rowgen.py.) -/
import Derived.Test.YtgkjnhajomjhcaaRows
import Derived.Test.YtgkjnhajomjhcaaPFnExactLostProofx8
import Derived.Test.YtgkjnhajomjhcaaPureFnExactLostProof
import Derived.Test.YtgkjnhajomjhcaaOFnExactLostProof
import Derived.WalkKit
import Derived.ProofKit
import Derived.OpenShut
import Derived.ShutString
import Derived.ChangeOld
import Derived.Below
import Derived.SizedLaws
import Derived.WideShapes
namespace Go.Proofs.Ytgkjnhajomjhcaa.fnExactLostProof
open Go.ChangeShapes Go.WideShapes Go.ChangeAt Go.RowKit Go.Proofs.Ytgkjnhajomjhcaa.Op Go.Proofs.YtgkjnhajomjhcaaW.PrintWords
open Go.ChangeMaps (open_string shut_string)
set_option linter.unusedVariables false
theorem own : ownKnob Try.prog.godebug = none := by kernel_rfl
theorem laidOut : laidOutB Try.prog = true := by kernel_rfl
set_option maxRecDepth 100000 in
set_option maxHeartbeats 1000000 in
theorem lifted (os : Os) (started : os.Started) (H : Type) (enc : TypeId × Value → H) :
    ReturnsInHanded {} Try.checked os 7 .any (Rows.fnExactLostProofSpec.pre6 enc Try.prog Try.f7 Rows.fnExactLostProofRow.domain false) (Rows.fnExactLostProofSpec.post enc Try.prog Try.f7 false true false false) := by
  refine returnsInHanded_of_change_sized (C := Try.checked) own started (by kernel_rfl) Try.func7
    (ChangeSpec.witness6 (enc := enc) (C := Try.checked) false ⟨#[], #[.agg #[.int .i64 0, .slice none 0 0, .slice none 0 0, .int .i64 0, .int .i64 0]], []⟩ 8 (by kernel_rfl) (by kernel_rfl) (by kernel_rfl) (by kernel_rfl)) ?_
  intro W base args ds gs before hval0 hW hcnd hsz0 _
  have hval : ∀ (j : Nat) t v, Try.f7.params[j]? = some t → args[j]? = some v → Value.okWide Try.prog W .any base t v := hval0
  have hW' := hW
  obtain ⟨p, q, hA0, hV, rfl, hfz, hnd⟩ := hW
  have hA : DataW.TrodAll enc Try.prog W 0 (fun _ => true) true Try.f7.params.toList args.toList ds p := hA0
  rw [Try.params7] at hA hval
  obtain ⟨v0, vs0, d0, ds0, p0, q0, hargs, rfl, rfl, h0, r0⟩ := trodAll_cons hA
  obtain ⟨rfl, rfl, rfl⟩ := trodAll_nil r0
  obtain rfl : args = #[v0] := by cases args; simp_all
  obtain ⟨rfl, rfl⟩ := trodVars_none hV
  have k0 := h0
  have lt0 : ∀ x ∈ p0, x.block < W.heap.size := by obtain ⟨m, hm⟩ := k0; exact DataW.trod_lt m _ _ _ hm
  obtain ⟨cs0, rfl, _⟩ := okWide_struct Try.underlying24 (hval 0 24 v0 rfl rfl)
  obtain ⟨fu0, hf0⟩ := h0
  have F0 := fields_of (t := 24) Try.underlying24 (by kernel_rfl) (by kernel_rfl) hf0
  obtain ⟨cl0⟩ := cs0
  obtain ⟨x0_0, x0_1, x0_2, x0_3, x0_4, e0⟩ := five_of F0.1
  have e0' : cl0 = [x0_0, x0_1, x0_2, x0_3, x0_4] := e0
  subst e0'
  obtain ⟨_, _, t0_0⟩ := F0.2 0 _ rfl _ rfl
  obtain ⟨a0_0, rfl, w0_0⟩ := int_of (t := 3) Try.underlying3 t0_0
  obtain ⟨_, _, t0_1⟩ := F0.2 1 _ rfl _ rfl
  obtain ⟨A0_1, c0_1, l0_1, rfl, hl0_1, hC0_1, ok0_1⟩ := row_of (t := 22) t0_1 (Opens.slice Try.underlying22 (by kernel_rfl) (Opens.int Try.underlying3))
  obtain ⟨_, _, t0_2⟩ := F0.2 2 _ rfl _ rfl
  obtain ⟨A0_2, c0_2, l0_2, rfl, hl0_2, hC0_2, ok0_2⟩ := row_of (t := 22) t0_2 (Opens.slice Try.underlying22 (by kernel_rfl) (Opens.int Try.underlying3))
  obtain ⟨_, _, t0_3⟩ := F0.2 3 _ rfl _ rfl
  obtain ⟨a0_3, rfl, w0_3⟩ := int_of (t := 3) Try.underlying3 t0_3
  obtain ⟨_, _, t0_4⟩ := F0.2 4 _ rfl _ rfl
  obtain ⟨a0_4, rfl, w0_4⟩ := int_of (t := 3) Try.underlying3 t0_4
  clear hA0 hval0 hsz0
  obtain ⟨k, hp⟩ := Pure.FnExactLostProof a0_0 l0_1 l0_2 a0_3 a0_4 w0_0 hC0_1.2.1 ok0_1 hC0_2.2.1 ok0_2 w0_3 w0_4
  refine (PFnExactLostProof.laws_FnExactLostProof.calls k a0_0 A0_1 c0_1 l0_1 A0_2 c0_2 l0_2 a0_3 a0_4 true W hC0_1 hl0_1 hC0_2 hl0_2 hp).mono fun e W' ⟨he, bel⟩ => ?_
  subst he
  exact ⟨_, rfl, _, _, _, [], _, [], hW', trodAll_mk1 (shut_bool Try.underlying4 _), (trodAll_cons_mk (Below.trod laidOut (by kernel_rfl) (of_decide_eq_true (by kernel_rfl)) k0 bel lt0) trodAll_mk0), rfl, bel.frame _, fun h => by cases h⟩
theorem over : Rows.fnExactLostProofRow.holds Try.pinned (OpenSpec.ofChange Rows.fnExactLostProofSpec) :=
  OpenClaim.holds_of_wide 7 Try.f7 rfl rfl rfl rfl rfl rfl rfl ⟨rfl, rfl, rfl, rfl, rfl⟩ rfl rfl rfl rfl rfl (by kernel_rfl) Try.func7 (by kernel_rfl)
    (of_decide_eq_true (by kernel_rfl)) (by unfold Func.isWrapper; first | (rw [if_pos (by decide +kernel)]; kernel_rfl) | (rw [if_neg (by decide +kernel)]; exact ⟨rfl, rfl⟩))
    (fun os started H enc _ => lifted os started H enc)
theorem proved : Rows.FnExactLostProofSaid := over
#print axioms proved
end Go.Proofs.Ytgkjnhajomjhcaa.fnExactLostProof
namespace Go.Proofs.Ytgkjnhajomjhcaa
/-- The row, under a short name, for the claim. -/
theorem fnExactLostProof_holds : Rows.FnExactLostProofSaid := fnExactLostProof.proved
end Go.Proofs.Ytgkjnhajomjhcaa
