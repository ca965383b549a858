/- The row of the law FnExactParcelStocks: for every input it answers true, and its arguments read as before. No condition. (Written by this session's program rowgen.py.) -/
import Derived.Test.YtjenbljkjmkbfaaRows
import Derived.Test.YtjenbljkjmkbfaaPFnExactParcelStocksx8
import Derived.Test.YtjenbljkjmkbfaaPureFnExactParcelStocks
import Derived.Test.YtjenbljkjmkbfaaOpens
import Derived.WalkKit
import Derived.ProofKit
import Derived.OpenShut
import Derived.ShutString
import Derived.ChangeOld
import Derived.Below
import Derived.SizedLaws
import Derived.WideShapes
namespace Go.Proofs.Ytjenbljkjmkbfaa.fnExactParcelStocks
open Go.ChangeShapes Go.WideShapes Go.ChangeAt Go.RowKit Go.Proofs.Ytjenbljkjmkbfaa.Op Go.Proofs.YtjenbljkjmkbfaaW.PrintWords
open Go.ChangeMaps (open_string shut_string)
set_option linter.unusedVariables false
theorem own : ownKnob Try.prog.godebug = none := by kernel_rfl
theorem laidOut : laidOutB Try.prog = true := by kernel_rfl
theorem opens87 {H : Type} {enc : TypeId × Value → H} {W : World} {base : Nat} {spare : Nat → Bool} {held : Bool} : Opens enc Try.prog W base spare held 87 PFnExactParcelStocks.k87 (fun x => ((Lit.int .i64 x.f0).wf = true ∧ (Lit.int .i64 x.f1).wf = true ∧ (Lit.int .i64 x.f2).wf = true)) := by
  intro fuel cs x h
  have F := fields_of Try.underlying87 (by kernel_rfl) (by kernel_rfl) h
  obtain ⟨c0, c1, c2, rfl⟩ := three_of F.1
  obtain ⟨_, _, t0⟩ := F.2 0 _ rfl _ rfl
  obtain ⟨a0, rfl, w0⟩ := int_of (t := 3) Try.underlying3 t0
  obtain ⟨_, _, t1⟩ := F.2 1 _ rfl _ rfl
  obtain ⟨a1, rfl, w1⟩ := int_of (t := 3) Try.underlying3 t1
  obtain ⟨_, _, t2⟩ := F.2 2 _ rfl _ rfl
  obtain ⟨a2, rfl, w2⟩ := int_of (t := 3) Try.underlying3 t2
  exact ⟨⟨a0, a1, a2⟩, PFnExactParcelStocks.k87_mk W ⟨a0, a1, a2⟩, w0, w1, w2⟩
set_option maxRecDepth 100000 in
set_option maxHeartbeats 1000000 in
theorem lifted (os : Os) (started : os.Started) (H : Type) (enc : TypeId × Value → H) :
    ReturnsInHanded {} Try.checked os 13 .any (Rows.fnExactParcelStocksSpec.pre6 enc Try.prog Try.f13 Rows.fnExactParcelStocksRow.domain false) (Rows.fnExactParcelStocksSpec.post enc Try.prog Try.f13 false true false false) := by
  refine returnsInHanded_of_change_sized (C := Try.checked) own started (by kernel_rfl) Try.func13
    (ChangeSpec.witness6 (enc := enc) (C := Try.checked) false ⟨#[], #[.int .i64 0, .slice none 0 0, .slice none 0 0], []⟩ 8 (by kernel_rfl) (by kernel_rfl) (by kernel_rfl) (by kernel_rfl)) ?_
  intro W base args ds gs before hval0 hW hcnd hsz0 _
  have hval : ∀ (j : Nat) t v, Try.f13.params[j]? = some t → args[j]? = some v → Value.okWide Try.prog W .any base t v := hval0
  have hW' := hW
  obtain ⟨p, q, hA0, hV, rfl, hfz, hnd⟩ := hW
  have hA : DataW.TrodAll enc Try.prog W 0 (fun _ => true) true Try.f13.params.toList args.toList ds p := hA0
  rw [Try.params13] at hA hval
  obtain ⟨v0, vs0, d0, ds0, p0, q0, hargs, rfl, rfl, h0, r0⟩ := trodAll_cons hA
  obtain ⟨v1, vs1, d1, ds1, p1, q1, rfl, rfl, rfl, h1, r1⟩ := trodAll_cons r0
  obtain ⟨v2, vs2, d2, ds2, p2, q2, rfl, rfl, rfl, h2, r2⟩ := trodAll_cons r1
  obtain ⟨rfl, rfl, rfl⟩ := trodAll_nil r2
  obtain rfl : args = #[v0, v1, v2] := by cases args; simp_all
  obtain ⟨rfl, rfl⟩ := trodVars_none hV
  obtain ⟨a0, rfl, rfl, rfl, w0⟩ := open_int Try.underlying3 (hval 0 3 v0 rfl rfl) h0
  have k1 := h1
  have lt1 : ∀ x ∈ p1, x.block < W.heap.size := by obtain ⟨m, hm⟩ := k1; exact DataW.trod_lt m _ _ _ hm
  obtain ⟨A1_, n1_, c1_, rfl⟩ := okWide_slice Try.underlying50 (hval 1 50 v1 rfl rfl)
  obtain ⟨fu1, hf1⟩ := h1
  obtain ⟨A1, c1, l1, e1, hl1, hC1, ok1⟩ := row_of (t := 50) hf1 (Opens.slice Try.underlying50 (by kernel_rfl) opens87)
  injection e1 with e1a e1b e1c
  subst e1a; subst e1b; subst e1c
  have k2 := h2
  have lt2 : ∀ x ∈ p2, x.block < W.heap.size := by obtain ⟨m, hm⟩ := k2; exact DataW.trod_lt m _ _ _ hm
  obtain ⟨A2_, n2_, c2_, rfl⟩ := okWide_slice Try.underlying28 (hval 2 28 v2 rfl rfl)
  obtain ⟨fu2, hf2⟩ := h2
  obtain ⟨A2, c2, l2, e2, hl2, hC2, ok2⟩ := row_of (t := 28) hf2 (Opens.slice Try.underlying28 (by kernel_rfl) (Opens.int Try.underlying3))
  injection e2 with e2a e2b e2c
  subst e2a; subst e2b; subst e2c
  clear hA0 hval0 hsz0
  obtain ⟨k, hp⟩ := Pure.FnExactParcelStocks a0 l1 l2 w0 hC1.2.1 ok1 hC2.2.1 ok2
  refine (PFnExactParcelStocks.laws_FnExactParcelStocks.calls k a0 A1_ c1_ l1 A2_ c2_ l2 true W hC1 hl1 hC2 hl2 hp).mono fun e W' ⟨he, bel⟩ => ?_
  subst he
  exact ⟨_, rfl, _, _, _, [], _, [], hW', trodAll_mk1 (shut_bool Try.underlying4 _), (trodAll_cons_mk (shut_int Try.underlying3 w0) (trodAll_cons_mk (Below.trod laidOut (by kernel_rfl) (of_decide_eq_true (by kernel_rfl)) k1 bel lt1) (trodAll_cons_mk (Below.trod laidOut (by kernel_rfl) (of_decide_eq_true (by kernel_rfl)) k2 bel lt2) trodAll_mk0))), rfl, bel.frame _, fun h => by cases h⟩
theorem over : Rows.fnExactParcelStocksRow.holds Try.pinned (OpenSpec.ofChange Rows.fnExactParcelStocksSpec) :=
  OpenClaim.holds_of_wide 13 Try.f13 rfl rfl rfl rfl rfl rfl rfl ⟨rfl, rfl, rfl, rfl, rfl⟩ rfl rfl rfl rfl rfl (by kernel_rfl) Try.func13 (by kernel_rfl)
    (of_decide_eq_true (by kernel_rfl)) (by unfold Func.isWrapper; first | (rw [if_pos (by decide +kernel)]; kernel_rfl) | (rw [if_neg (by decide +kernel)]; exact ⟨rfl, rfl⟩))
    (fun os started H enc _ => lifted os started H enc)
theorem proved : Rows.FnExactParcelStocksSaid := over
#print axioms proved
end Go.Proofs.Ytjenbljkjmkbfaa.fnExactParcelStocks
namespace Go.Proofs.Ytjenbljkjmkbfaa
/-- The row, under a short name, for the claim. -/
theorem fnExactParcelStocks_holds : Rows.FnExactParcelStocksSaid := fnExactParcelStocks.proved
end Go.Proofs.Ytjenbljkjmkbfaa
