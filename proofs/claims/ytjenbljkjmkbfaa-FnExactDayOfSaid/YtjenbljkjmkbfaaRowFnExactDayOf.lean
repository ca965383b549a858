/- The row of the law FnExactDayOf: for every input it answers true, and its arguments read as before. No condition. (Written by this session's program rowgen.py.) -/
import Derived.Test.YtjenbljkjmkbfaaRows
import Derived.Test.YtjenbljkjmkbfaaPFnExactDayOfx4
import Derived.Test.YtjenbljkjmkbfaaPureFnExactDayOf
import Derived.Test.YtjenbljkjmkbfaaOpens
import Derived.WalkKit
import Derived.ProofKit
import Derived.OpenShut
import Derived.ShutString
import Derived.ChangeOld
import Derived.Below
import Derived.SizedLaws
import Derived.WideShapes
namespace Go.Proofs.Ytjenbljkjmkbfaa.fnExactDayOf
open Go.ChangeShapes Go.WideShapes Go.ChangeAt Go.RowKit Go.Proofs.Ytjenbljkjmkbfaa.Op Go.Proofs.YtjenbljkjmkbfaaW.PrintWords
open Go.ChangeMaps (open_string shut_string)
set_option linter.unusedVariables false
theorem own : ownKnob Try.prog.godebug = none := by kernel_rfl
theorem laidOut : laidOutB Try.prog = true := by kernel_rfl
set_option maxRecDepth 100000 in
set_option maxHeartbeats 1000000 in
theorem lifted (os : Os) (started : os.Started) (H : Type) (enc : TypeId × Value → H) :
    ReturnsInHanded {} Try.checked os 10 .any (Rows.fnExactDayOfSpec.pre6 enc Try.prog Try.f10 Rows.fnExactDayOfRow.domain false) (Rows.fnExactDayOfSpec.post enc Try.prog Try.f10 false true false false) := by
  refine returnsInHanded_of_change_sized (C := Try.checked) own started (by kernel_rfl) Try.func10
    (ChangeSpec.witness6 (enc := enc) (C := Try.checked) false ⟨#[], #[.agg #[.int .i64 0, .slice none 0 0], .int .i64 0, .int .i64 0], []⟩ 8 (by kernel_rfl) (by kernel_rfl) (by kernel_rfl) (by kernel_rfl)) ?_
  intro W base args ds gs before hval0 hW hcnd hsz0 _
  have hval : ∀ (j : Nat) t v, Try.f10.params[j]? = some t → args[j]? = some v → Value.okWide Try.prog W .any base t v := hval0
  have hW' := hW
  obtain ⟨p, q, hA0, hV, rfl, hfz, hnd⟩ := hW
  have hA : DataW.TrodAll enc Try.prog W 0 (fun _ => true) true Try.f10.params.toList args.toList ds p := hA0
  rw [Try.params10] at hA hval
  obtain ⟨v0, vs0, d0, ds0, p0, q0, hargs, rfl, rfl, h0, r0⟩ := trodAll_cons hA
  obtain ⟨v1, vs1, d1, ds1, p1, q1, rfl, rfl, rfl, h1, r1⟩ := trodAll_cons r0
  obtain ⟨v2, vs2, d2, ds2, p2, q2, rfl, rfl, rfl, h2, r2⟩ := trodAll_cons r1
  obtain ⟨rfl, rfl, rfl⟩ := trodAll_nil r2
  obtain rfl : args = #[v0, v1, v2] := by cases args; simp_all
  obtain ⟨rfl, rfl⟩ := trodVars_none hV
  have k0 := h0
  have lt0 : ∀ x ∈ p0, x.block < W.heap.size := by obtain ⟨m, hm⟩ := k0; exact DataW.trod_lt m _ _ _ hm
  obtain ⟨cs0, rfl, _⟩ := okWide_struct Try.underlying35 (hval 0 35 v0 rfl rfl)
  obtain ⟨fu0, hf0⟩ := h0
  have F0 := fields_of (t := 35) Try.underlying35 (by kernel_rfl) (by kernel_rfl) hf0
  obtain ⟨cl0⟩ := cs0
  obtain ⟨x0_0, x0_1, e0⟩ := two_of F0.1
  have e0' : cl0 = [x0_0, x0_1] := e0
  subst e0'
  obtain ⟨_, _, t0_0⟩ := F0.2 0 _ rfl _ rfl
  obtain ⟨a0_0, rfl, w0_0⟩ := int_of (t := 3) Try.underlying3 t0_0
  obtain ⟨_, _, t0_1⟩ := F0.2 1 _ rfl _ rfl
  obtain ⟨A0_1, c0_1, l0_1, rfl, hl0_1, hC0_1, ok0_1⟩ := row_of (t := 28) t0_1 (Opens.slice Try.underlying28 (by kernel_rfl) (Opens.int Try.underlying3))
  obtain ⟨a1, rfl, rfl, rfl, w1⟩ := open_int Try.underlying3 (hval 1 3 v1 rfl rfl) h1
  obtain ⟨a2, rfl, rfl, rfl, w2⟩ := open_int Try.underlying3 (hval 2 3 v2 rfl rfl) h2
  clear hA0 hval0 hsz0
  obtain ⟨k, hp⟩ := Pure.FnExactDayOf a0_0 l0_1 a1 a2 w0_0 hC0_1.2.1 ok0_1 w1 w2
  refine (PFnExactDayOf.laws_FnExactDayOf.calls k a0_0 A0_1 c0_1 l0_1 a1 a2 true W hC0_1 hl0_1 hp).mono fun e W' ⟨he, bel⟩ => ?_
  subst he
  exact ⟨_, rfl, _, _, _, [], _, [], hW', trodAll_mk1 (shut_bool Try.underlying4 _), (trodAll_cons_mk (Below.trod laidOut (by kernel_rfl) (of_decide_eq_true (by kernel_rfl)) k0 bel lt0) (trodAll_cons_mk (shut_int Try.underlying3 w1) (trodAll_cons_mk (shut_int Try.underlying3 w2) trodAll_mk0))), rfl, bel.frame _, fun h => by cases h⟩
theorem over : Rows.fnExactDayOfRow.holds Try.pinned (OpenSpec.ofChange Rows.fnExactDayOfSpec) :=
  OpenClaim.holds_of_wide 10 Try.f10 rfl rfl rfl rfl rfl rfl rfl ⟨rfl, rfl, rfl, rfl, rfl⟩ rfl rfl rfl rfl rfl (by kernel_rfl) Try.func10 (by kernel_rfl)
    (of_decide_eq_true (by kernel_rfl)) (by unfold Func.isWrapper; first | (rw [if_pos (by decide +kernel)]; kernel_rfl) | (rw [if_neg (by decide +kernel)]; exact ⟨rfl, rfl⟩))
    (fun os started H enc _ => lifted os started H enc)
theorem proved : Rows.FnExactDayOfSaid := over
#print axioms proved
end Go.Proofs.Ytjenbljkjmkbfaa.fnExactDayOf
namespace Go.Proofs.Ytjenbljkjmkbfaa
/-- The row, under a short name, for the claim. -/
theorem fnExactDayOf_holds : Rows.FnExactDayOfSaid := fnExactDayOf.proved
end Go.Proofs.Ytjenbljkjmkbfaa
