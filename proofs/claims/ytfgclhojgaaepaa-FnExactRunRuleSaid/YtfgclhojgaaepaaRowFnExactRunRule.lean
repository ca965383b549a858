/- The row of the law FnExactRunRule: for every input it answers true, and its arguments read as before. No condition. (Written by this session's program rowgen.py.) -/
import Derived.Test.YtfgclhojgaaepaaRows
import Derived.Test.YtfgclhojgaaepaaPFnExactRunRulex8
import Derived.Test.YtfgclhojgaaepaaPureFnExactRunRule
import Derived.Test.YtfgclhojgaaepaaOFnExactRunRule
import Derived.WalkKit
import Derived.ProofKit
import Derived.OpenShut
import Derived.ShutString
import Derived.ChangeOld
import Derived.Below
import Derived.SizedLaws
import Derived.WideShapes
namespace Go.Proofs.Ytfgclhojgaaepaa.fnExactRunRule
open Go.ChangeShapes Go.WideShapes Go.ChangeAt Go.RowKit Go.Proofs.Ytfgclhojgaaepaa.Op Go.Proofs.YtfgclhojgaaepaaW.PrintWords
open Go.ChangeMaps (open_string shut_string)
set_option linter.unusedVariables false
theorem own : ownKnob Try.prog.godebug = none := by kernel_rfl
theorem laidOut : laidOutB Try.prog = true := by kernel_rfl
set_option maxRecDepth 100000 in
set_option maxHeartbeats 1000000 in
theorem lifted (os : Os) (started : os.Started) (H : Type) (enc : TypeId × Value → H) :
    ReturnsInHanded {} Try.checked os 4 .any (Rows.fnExactRunRuleSpec.pre6 enc Try.prog Try.f4 Rows.fnExactRunRuleRow.domain false) (Rows.fnExactRunRuleSpec.post enc Try.prog Try.f4 false true false false) := by
  refine returnsInHanded_of_change_sized (C := Try.checked) own started (by kernel_rfl) Try.func4
    (ChangeSpec.witness6 (enc := enc) (C := Try.checked) false ⟨#[], #[.agg #[.int .i64 0, .slice none 0 0], .agg #[.int .i64 0, .int .i64 0, .int .i64 0], .slice none 0 0], []⟩ 8 (by kernel_rfl) (by kernel_rfl) (by kernel_rfl) (by kernel_rfl)) ?_
  intro W base args ds gs before hval0 hW hcnd hsz0 _
  have hval : ∀ (j : Nat) t v, Try.f4.params[j]? = some t → args[j]? = some v → Value.okWide Try.prog W .any base t v := hval0
  have hW' := hW
  obtain ⟨p, q, hA0, hV, rfl, hfz, hnd⟩ := hW
  have hA : DataW.TrodAll enc Try.prog W 0 (fun _ => true) true Try.f4.params.toList args.toList ds p := hA0
  rw [Try.params4] at hA hval
  obtain ⟨v0, vs0, d0, ds0, p0, q0, hargs, rfl, rfl, h0, r0⟩ := trodAll_cons hA
  obtain ⟨v1, vs1, d1, ds1, p1, q1, rfl, rfl, rfl, h1, r1⟩ := trodAll_cons r0
  obtain ⟨v2, vs2, d2, ds2, p2, q2, rfl, rfl, rfl, h2, r2⟩ := trodAll_cons r1
  obtain ⟨rfl, rfl, rfl⟩ := trodAll_nil r2
  obtain rfl : args = #[v0, v1, v2] := by cases args; simp_all
  obtain ⟨rfl, rfl⟩ := trodVars_none hV
  have k0 := h0
  have lt0 : ∀ x ∈ p0, x.block < W.heap.size := by obtain ⟨m, hm⟩ := k0; exact DataW.trod_lt m _ _ _ hm
  obtain ⟨cs0, rfl, _⟩ := okWide_struct Try.underlying24 (hval 0 24 v0 rfl rfl)
  obtain ⟨fu0, hf0⟩ := h0
  have F0 := fields_of (t := 24) Try.underlying24 (by kernel_rfl) (by kernel_rfl) hf0
  obtain ⟨cl0⟩ := cs0
  obtain ⟨x0_0, x0_1, e0⟩ := two_of F0.1
  have e0' : cl0 = [x0_0, x0_1] := e0
  subst e0'
  obtain ⟨_, _, t0_0⟩ := F0.2 0 _ rfl _ rfl
  obtain ⟨a0_0, rfl, w0_0⟩ := int_of (t := 3) Try.underlying3 t0_0
  obtain ⟨_, _, t0_1⟩ := F0.2 1 _ rfl _ rfl
  obtain ⟨A0_1, c0_1, l0_1, rfl, hl0_1, hC0_1, ok0_1⟩ := row_of (t := 22) t0_1 (Opens.slice Try.underlying22 (by kernel_rfl) (Opens.int Try.underlying3))
  have k1 := h1
  have lt1 : ∀ x ∈ p1, x.block < W.heap.size := by obtain ⟨m, hm⟩ := k1; exact DataW.trod_lt m _ _ _ hm
  obtain ⟨cs1, rfl, _⟩ := okWide_struct Try.underlying26 (hval 1 26 v1 rfl rfl)
  obtain ⟨fu1, hf1⟩ := h1
  have F1 := fields_of (t := 26) Try.underlying26 (by kernel_rfl) (by kernel_rfl) hf1
  obtain ⟨cl1⟩ := cs1
  obtain ⟨x1_0, x1_1, x1_2, e1⟩ := three_of F1.1
  have e1' : cl1 = [x1_0, x1_1, x1_2] := e1
  subst e1'
  obtain ⟨_, _, t1_0⟩ := F1.2 0 _ rfl _ rfl
  obtain ⟨a1_0, rfl, w1_0⟩ := int_of (t := 3) Try.underlying3 t1_0
  obtain ⟨_, _, t1_1⟩ := F1.2 1 _ rfl _ rfl
  obtain ⟨a1_1, rfl, w1_1⟩ := int_of (t := 3) Try.underlying3 t1_1
  obtain ⟨_, _, t1_2⟩ := F1.2 2 _ rfl _ rfl
  obtain ⟨a1_2, rfl, w1_2⟩ := int_of (t := 3) Try.underlying3 t1_2
  have k2 := h2
  have lt2 : ∀ x ∈ p2, x.block < W.heap.size := by obtain ⟨m, hm⟩ := k2; exact DataW.trod_lt m _ _ _ hm
  obtain ⟨A2_, n2_, c2_, rfl⟩ := okWide_slice Try.underlying22 (hval 2 22 v2 rfl rfl)
  obtain ⟨fu2, hf2⟩ := h2
  obtain ⟨A2, c2, l2, e2, hl2, hC2, ok2⟩ := row_of (t := 22) hf2 (Opens.slice Try.underlying22 (by kernel_rfl) (Opens.int Try.underlying3))
  injection e2 with e2a e2b e2c
  subst e2a; subst e2b; subst e2c
  clear hA0 hval0 hsz0
  obtain ⟨k, hp⟩ := Pure.FnExactRunRule a0_0 l0_1 a1_0 a1_1 a1_2 l2 w0_0 hC0_1.2.1 ok0_1 w1_0 w1_1 w1_2 hC2.2.1 ok2
  refine (PFnExactRunRule.laws_FnExactRunRule.calls k a0_0 A0_1 c0_1 l0_1 a1_0 a1_1 a1_2 A2_ c2_ l2 true W hC0_1 hl0_1 hC2 hl2 hp).mono fun e W' ⟨he, bel⟩ => ?_
  subst he
  exact ⟨_, rfl, _, _, _, [], _, [], hW', trodAll_mk1 (shut_bool Try.underlying4 _), (trodAll_cons_mk (Below.trod laidOut (by kernel_rfl) (of_decide_eq_true (by kernel_rfl)) k0 bel lt0) (trodAll_cons_mk (Below.trod laidOut (by kernel_rfl) (of_decide_eq_true (by kernel_rfl)) k1 bel lt1) (trodAll_cons_mk (Below.trod laidOut (by kernel_rfl) (of_decide_eq_true (by kernel_rfl)) k2 bel lt2) trodAll_mk0))), rfl, bel.frame _, fun h => by cases h⟩
theorem over : Rows.fnExactRunRuleRow.holds Try.pinned (OpenSpec.ofChange Rows.fnExactRunRuleSpec) :=
  OpenClaim.holds_of_wide 4 Try.f4 rfl rfl rfl rfl rfl rfl rfl ⟨rfl, rfl, rfl, rfl, rfl⟩ rfl rfl rfl rfl rfl (by kernel_rfl) Try.func4 (by kernel_rfl)
    (of_decide_eq_true (by kernel_rfl)) (by unfold Func.isWrapper; first | (rw [if_pos (by decide +kernel)]; kernel_rfl) | (rw [if_neg (by decide +kernel)]; exact ⟨rfl, rfl⟩))
    (fun os started H enc _ => lifted os started H enc)
theorem proved : Rows.FnExactRunRuleSaid := over
#print axioms proved
end Go.Proofs.Ytfgclhojgaaepaa.fnExactRunRule
namespace Go.Proofs.Ytfgclhojgaaepaa
/-- The row, under a short name, for the claim. -/
theorem fnExactRunRule_holds : Rows.FnExactRunRuleSaid := fnExactRunRule.proved
end Go.Proofs.Ytfgclhojgaaepaa
