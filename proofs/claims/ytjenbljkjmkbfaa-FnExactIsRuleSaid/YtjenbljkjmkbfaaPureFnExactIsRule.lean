/- The pure side of FnExactIsRule: what the program's text computes and what the reference's text computes are the same value, for every argument. No condition. -/
import Derived.Test.YtjenbljkjmkbfaaPFnExactIsRulex1
namespace Go.Proofs.Ytjenbljkjmkbfaa.Pure
open Go.RowKit Go.Proofs.Ytjenbljkjmkbfaa.PFnExactIsRule Go.Proofs.YtjenbljkjmkbfaaW.PrintWords Go.Proofs.YtjenbljkjmkbfaaW.PrintLast
set_option linter.unusedVariables false
set_option linter.unusedSimpArgs false

theorem ev_succ {α : Type} {g : Nat → Option α} {r : α} (h : Ev (fun k => g (k + 1)) r) : Ev g r := Ev.step (fun _ => rfl) h
theorem ev_pure {α : Type} {x : Option α} {r : α} (h : x = some r) : Ev (fun _ => x) r := ⟨0, fun _ _ => h⟩
theorem ev_eq {α : Type} {g : Nat → Option α} {r r' : α} (h : Ev g r) (e : r = r') : Ev g r' := e ▸ h
theorem ev_ite {α : Type} {c : Prop} [Decidable c] {g f : Nat → Option α} {r : α} (h1 : c → Ev g r) (h2 : ¬ c → Ev f r) : Ev (fun k => if c then g k else f k) r := by
  by_cases h : c
  · simp only [h, if_true]; exact h1 h
  · simp only [h, if_false]; exact h2 h
theorem w64 {x : Int} (h : -9223372036854775808 ≤ x) (h' : x ≤ 9223372036854775807) : wrap64 x = x := by unfold wrap64; omega
theorem w64_idem (x : Int) : wrap64 (wrap64 x) = wrap64 x := by unfold wrap64; omega
theorem w64_add_l (x y : Int) : wrap64 (wrap64 x + y) = wrap64 (x + y) := by unfold wrap64; omega
theorem w64_add_r (x y : Int) : wrap64 (x + wrap64 y) = wrap64 (x + y) := by unfold wrap64; omega
theorem w64_range (x : Int) : -9223372036854775808 ≤ wrap64 x ∧ wrap64 x ≤ 9223372036854775807 := by unfold wrap64; omega
theorem w64_nat {i n : Nat} (h : i < n) (hn : n ≤ 9223372036854775807) : wrap64 ((i : Int) + 1) = ((i + 1 : Nat) : Int) := by rw [w64 (by omega) (by omega)]; rfl
theorem wf_range {x : Int} (h : (Lit.int .i64 x).wf = true) : -9223372036854775808 ≤ x ∧ x ≤ 9223372036854775807 := by
  simp [Lit.wf, IntKind.min, IntKind.max, IntKind.signed, IntKind.bits] at h
  omega
theorem rd_nat {l : List Int} {i : Nat} (h : i < l.length) : rd l (i : Int) = l[i] := by
  unfold rd
  simp [List.getD_eq_getElem?_getD, h]
def allB (l : List Int) (a b : Int) : Bool := l.all fun x => decide (a ≤ x ∧ x ≤ b)
def inB (x a b : Int) : Bool := decide (a ≤ x ∧ x ≤ b)
theorem allB_mem {l : List Int} {a b : Int} (h : allB l a b = true) : ∀ x ∈ l, a ≤ x ∧ x ≤ b := by
  intro x hx
  have := List.all_eq_true.1 h x hx
  simpa using this
theorem inB_iff {x a b : Int} : inB x a b = true ↔ a ≤ x ∧ x ≤ b := by unfold inB; simp
theorem sum_le {l : List Int} {b : Int} (hb : ∀ x ∈ l, x ≤ b) : l.sum ≤ l.length * b := by
  induction l with
  | nil => simp
  | cons x l ih =>
    have h1 := hb x (by simp)
    have h2 := ih (fun y hy => hb y (by simp [hy]))
    rw [List.sum_cons, List.length_cons]
    have : ((l.length + 1 : Nat) : Int) * b = l.length * b + b := by rw [Int.natCast_add, Int.add_mul]; simp
    rw [this]; omega
theorem le_sum {l : List Int} {b : Int} (hb : ∀ x ∈ l, b ≤ x) : l.length * b ≤ l.sum := by
  induction l with
  | nil => simp
  | cons x l ih =>
    have h1 := hb x (by simp)
    have h2 := ih (fun y hy => hb y (by simp [hy]))
    rw [List.sum_cons, List.length_cons]
    have : ((l.length + 1 : Nat) : Int) * b = l.length * b + b := by rw [Int.natCast_add, Int.add_mul]; simp
    rw [this]; omega
theorem drop_cons {α : Type} {l : List α} {i : Nat} (h : i < l.length) : l.drop i = l[i] :: l.drop (i + 1) := List.drop_eq_getElem_cons h

theorem spec_l1In_f (a b c : Int) : spec_l1In.f a b c = some (inB a b c) := by
  unfold spec_l1In.f inB
  by_cases h : a ≥ b
  · rw [if_pos h]; congr 1; rw [decide_eq_decide]; omega
  · rw [if_neg h]; congr 1; symm; rw [decide_eq_false_iff_not]; omega

def ruleB (k lo hi : Int) : Bool := inB lo (-200) 200 && (inB hi (-200) 200 && (decide (k = 1) || (decide (k = 2) && decide (lo ≤ hi)) || (decide (k = 3) && inB hi 1 40)))

theorem ev_spec_l11Rule_j0 (b : Bool) (k lo hi : Int) : Ev (fun n => spec_l11Rule.j0 n b k lo hi) (!b && (decide (k = 1) || (decide (k = 2) && decide (lo ≤ hi)) || (decide (k = 3) && inB hi 1 40))) := by
  refine ev_succ ?_
  simp only [spec_l11Rule.j0, spec_l1In_f, Option.bind_some]
  cases b with
  | true => exact ev_eq (Ev.now _) (by simp)
  | false =>
    by_cases h1 : k = 1
    · simp only [h1]; exact ev_eq (Ev.now _) (by simp)
    · by_cases h2 : k = 2
      · simp only [h2]; exact ev_eq (Ev.now _) (by simp)
      · by_cases h3 : k = 3
        · simp only [h3]; exact ev_eq (Ev.now _) (by simp)
        · simp only [h1, h2, h3, if_false, Bool.false_eq_true]; exact ev_eq (Ev.now _) (by simp)
theorem ev_spec_l11Rule (k lo hi : Int) : Ev (fun n => spec_l11Rule.f n k lo hi) (ruleB k lo hi) := by
  unfold spec_l11Rule.f ruleB
  simp only [spec_l1In_f, Option.bind_some]
  refine ev_ite (fun h => ?_) (fun h => ?_)
  · exact ev_eq (ev_spec_l11Rule_j0 _ _ _ _) (by simp [h])
  · exact ev_eq (ev_spec_l11Rule_j0 _ _ _ _) (by simp [h])

theorem ev_spec_IsRule (k lo hi : Int) : Ev (fun n => spec_IsRule.f n k lo hi) (ruleB k lo hi) := by
  unfold spec_IsRule.f
  refine Ev.bind (ev_spec_l11Rule k lo hi) ?_
  exact Ev.now _

theorem impl_within_f (a b c : Int) : impl_within.f a b c = some (inB a b c) := by
  unfold impl_within.f inB
  by_cases h : a ≥ b
  · rw [if_pos h]; congr 1; rw [decide_eq_decide]; omega
  · rw [if_neg h]; congr 1; symm; rw [decide_eq_false_iff_not]; omega

theorem impl_isStock_f (a : Int) : impl_isStock.f a = some (inB a (-200) 200) := by
  unfold impl_isStock.f
  rw [impl_within_f, Option.bind_some]

theorem ev_impl_IsRule_j0 (b : Bool) (k lo hi : Int) : Ev (fun n => impl_IsRule.j0 n b k lo hi) (!b && (decide (k = 1) || (decide (k = 2) && decide (lo ≤ hi)) || (decide (k = 3) && inB hi 1 40))) := by
  refine ev_succ ?_
  simp only [impl_IsRule.j0, impl_within_f, impl_isStock_f, Option.bind_some]
  cases b with
  | true => exact ev_eq (Ev.now _) (by simp)
  | false =>
    by_cases h1 : k = 1
    · simp only [h1]; exact ev_eq (Ev.now _) (by simp)
    · by_cases h2 : k = 2
      · simp only [h2]; exact ev_eq (Ev.now _) (by simp)
      · by_cases h3 : k = 3
        · simp only [h3]; exact ev_eq (Ev.now _) (by simp)
        · simp only [h1, h2, h3, if_false, Bool.false_eq_true]; exact ev_eq (Ev.now _) (by simp)
theorem ev_impl_IsRule (k lo hi : Int) : Ev (fun n => impl_IsRule.f n k lo hi) (ruleB k lo hi) := by
  unfold impl_IsRule.f ruleB
  simp only [impl_within_f, impl_isStock_f, Option.bind_some]
  refine ev_ite (fun h => ?_) (fun h => ?_)
  · exact ev_eq (ev_impl_IsRule_j0 _ _ _ _) (by simp [h])
  · exact ev_eq (ev_impl_IsRule_j0 _ _ _ _) (by simp [h])

theorem FnExactIsRule (a0_0 : Int) (a0_1 : Int) (a0_2 : Int) (w0_0 : (Lit.int .i64 a0_0).wf = true) (w0_1 : (Lit.int .i64 a0_1).wf = true) (w0_2 : (Lit.int .i64 a0_2).wf = true) : ∃ k, laws_FnExactIsRule.f k a0_0 a0_1 a0_2 = some true := by
  refine Ev.rounds ?_
  unfold laws_FnExactIsRule.f
  simp only [laws_toRule.f, Option.bind_some]
  refine Ev.bind (ev_spec_IsRule a0_0 a0_1 a0_2) ?_
  refine Ev.bind (ev_impl_IsRule a0_0 a0_1 a0_2) ?_
  simp only [bne_self_eq_false, Bool.false_eq_true, ↓reduceIte]
  exact Ev.now _

end Go.Proofs.Ytjenbljkjmkbfaa.Pure
