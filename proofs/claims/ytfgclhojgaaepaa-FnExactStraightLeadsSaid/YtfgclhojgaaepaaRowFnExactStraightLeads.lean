/- The row of the law FnExactStraightLeads: for every input it answers true, and its arguments read as before. No condition. (Written by this session's program rowgen.py.) -/
import Derived.Test.YtfgclhojgaaepaaRows
import Derived.Test.YtfgclhojgaaepaaPFnExactStraightLeadsx15
import Derived.Test.YtfgclhojgaaepaaPureFnExactStraightLeads
import Derived.Test.YtfgclhojgaaepaaOFnExactStraightLeads
import Derived.WalkKit
import Derived.ProofKit
import Derived.OpenShut
import Derived.ShutString
import Derived.ChangeOld
import Derived.Below
import Derived.SizedLaws
import Derived.WideShapes
namespace Go.Proofs.Ytfgclhojgaaepaa.fnExactStraightLeads
open Go.ChangeShapes Go.WideShapes Go.ChangeAt Go.RowKit Go.Proofs.Ytfgclhojgaaepaa.Op Go.Proofs.YtfgclhojgaaepaaW.PrintWords
open Go.ChangeMaps (open_string shut_string)
set_option linter.unusedVariables false
theorem own : ownKnob Try.prog.godebug = none := by kernel_rfl
theorem laidOut : laidOutB Try.prog = true := by kernel_rfl
theorem opens98 {H : Type} {enc : TypeId × Value → H} {W : World} {base : Nat} {spare : Nat → Bool} {held : Bool} : Opens enc Try.prog W base spare held 98 PFnExactStraightLeads.k98 (fun x => ((Lit.int .i64 x.f0).wf = true ∧ (Lit.int .i64 x.f1).wf = true ∧ (Lit.int .i64 x.f2).wf = true)) := by
  intro fuel cs x h
  have F := fields_of Try.underlying98 (by kernel_rfl) (by kernel_rfl) h
  obtain ⟨c0, c1, c2, rfl⟩ := three_of F.1
  obtain ⟨_, _, t0⟩ := F.2 0 _ rfl _ rfl
  obtain ⟨a0, rfl, w0⟩ := int_of (t := 3) Try.underlying3 t0
  obtain ⟨_, _, t1⟩ := F.2 1 _ rfl _ rfl
  obtain ⟨a1, rfl, w1⟩ := int_of (t := 3) Try.underlying3 t1
  obtain ⟨_, _, t2⟩ := F.2 2 _ rfl _ rfl
  obtain ⟨a2, rfl, w2⟩ := int_of (t := 3) Try.underlying3 t2
  exact ⟨⟨a0, a1, a2⟩, PFnExactStraightLeads.k98_mk W ⟨a0, a1, a2⟩, w0, w1, w2⟩
set_option maxRecDepth 100000 in
set_option maxHeartbeats 1000000 in
theorem lifted (os : Os) (started : os.Started) (H : Type) (enc : TypeId × Value → H) :
    ReturnsInHanded {} Try.checked os 5 .any (Rows.fnExactStraightLeadsSpec.pre6 enc Try.prog Try.f5 Rows.fnExactStraightLeadsRow.domain false) (Rows.fnExactStraightLeadsSpec.post enc Try.prog Try.f5 false true false false) := by
  refine returnsInHanded_of_change_sized (C := Try.checked) own started (by kernel_rfl) Try.func5
    (ChangeSpec.witness6 (enc := enc) (C := Try.checked) false ⟨#[], #[.slice none 0 0], []⟩ 8 (by kernel_rfl) (by kernel_rfl) (by kernel_rfl) (by kernel_rfl)) ?_
  intro W base args ds gs before hval0 hW hcnd hsz0 _
  have hval : ∀ (j : Nat) t v, Try.f5.params[j]? = some t → args[j]? = some v → Value.okWide Try.prog W .any base t v := hval0
  have hW' := hW
  obtain ⟨p, q, hA0, hV, rfl, hfz, hnd⟩ := hW
  have hA : DataW.TrodAll enc Try.prog W 0 (fun _ => true) true Try.f5.params.toList args.toList ds p := hA0
  rw [Try.params5] at hA hval
  obtain ⟨v0, vs0, d0, ds0, p0, q0, hargs, rfl, rfl, h0, r0⟩ := trodAll_cons hA
  obtain ⟨rfl, rfl, rfl⟩ := trodAll_nil r0
  obtain rfl : args = #[v0] := by cases args; simp_all
  obtain ⟨rfl, rfl⟩ := trodVars_none hV
  have k0 := h0
  have lt0 : ∀ x ∈ p0, x.block < W.heap.size := by obtain ⟨m, hm⟩ := k0; exact DataW.trod_lt m _ _ _ hm
  obtain ⟨A0_, n0_, c0_, rfl⟩ := okWide_slice Try.underlying42 (hval 0 42 v0 rfl rfl)
  obtain ⟨fu0, hf0⟩ := h0
  obtain ⟨A0, c0, l0, e0, hl0, hC0, ok0⟩ := row_of (t := 42) hf0 (Opens.slice Try.underlying42 (by kernel_rfl) opens98)
  injection e0 with e0a e0b e0c
  subst e0a; subst e0b; subst e0c
  clear hA0 hval0 hsz0
  obtain ⟨k, hp⟩ := Pure.FnExactStraightLeads l0 hC0.2.1 ok0
  refine (PFnExactStraightLeads.laws_FnExactStraightLeads.calls k A0_ c0_ l0 true W hC0 hl0 hp).mono fun e W' ⟨he, bel⟩ => ?_
  subst he
  exact ⟨_, rfl, _, _, _, [], _, [], hW', trodAll_mk1 (shut_bool Try.underlying4 _), (trodAll_cons_mk (Below.trod laidOut (by kernel_rfl) (of_decide_eq_true (by kernel_rfl)) k0 bel lt0) trodAll_mk0), rfl, bel.frame _, fun h => by cases h⟩
theorem over : Rows.fnExactStraightLeadsRow.holds Try.pinned (OpenSpec.ofChange Rows.fnExactStraightLeadsSpec) :=
  OpenClaim.holds_of_wide 5 Try.f5 rfl rfl rfl rfl rfl rfl rfl ⟨rfl, rfl, rfl, rfl, rfl⟩ rfl rfl rfl rfl rfl (by kernel_rfl) Try.func5 (by kernel_rfl)
    (of_decide_eq_true (by kernel_rfl)) (by unfold Func.isWrapper; first | (rw [if_pos (by decide +kernel)]; kernel_rfl) | (rw [if_neg (by decide +kernel)]; exact ⟨rfl, rfl⟩))
    (fun os started H enc _ => lifted os started H enc)
theorem proved : Rows.FnExactStraightLeadsSaid := over
#print axioms proved
end Go.Proofs.Ytfgclhojgaaepaa.fnExactStraightLeads
namespace Go.Proofs.Ytfgclhojgaaepaa
/-- The row, under a short name, for the claim. -/
theorem fnExactStraightLeads_holds : Rows.FnExactStraightLeadsSaid := fnExactStraightLeads.proved
end Go.Proofs.Ytfgclhojgaaepaa
