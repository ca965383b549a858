/- The pure side of FnExactIsContract: what the program's text computes and what the reference's text computes are the same value, for every argument. No condition. -/
import Derived.Test.YtpjiianlailbkaaPFnExactIsContractx1
namespace Go.Proofs.Ytpjiianlailbkaa.Pure
open Go.RowKit Go.Proofs.Ytpjiianlailbkaa.PFnExactIsContract Go.Proofs.YtpjiianlailbkaaW.PrintWords Go.Proofs.YtpjiianlailbkaaW.PrintLast
set_option linter.unusedVariables false
set_option linter.unusedSimpArgs false

theorem ev_succ {α : Type} {g : Nat → Option α} {r : α} (h : Ev (fun k => g (k + 1)) r) : Ev g r := Ev.step (fun _ => rfl) h
theorem ev_pure {α : Type} {x : Option α} {r : α} (h : x = some r) : Ev (fun _ => x) r := ⟨0, fun _ _ => h⟩
theorem ev_eq {α : Type} {g : Nat → Option α} {r r' : α} (h : Ev g r) (e : r = r') : Ev g r' := e ▸ h
theorem ev_ite {α : Type} {c : Prop} [Decidable c] {g f : Nat → Option α} {r : α} (h1 : c → Ev g r) (h2 : ¬ c → Ev f r) : Ev (fun k => if c then g k else f k) r := by
  by_cases h : c
  · simp only [h, if_true]; exact h1 h
  · simp only [h, if_false]; exact h2 h
theorem w64 {x : Int} (h : -9223372036854775808 ≤ x) (h' : x ≤ 9223372036854775807) : wrap64 x = x := by unfold wrap64; omega
theorem w64_zero : wrap64 0 = 0 := w64 (by omega) (by omega)
theorem w64_idem (x : Int) : wrap64 (wrap64 x) = wrap64 x := by unfold wrap64; omega
theorem w64_add_l (x y : Int) : wrap64 (wrap64 x + y) = wrap64 (x + y) := by unfold wrap64; omega
theorem w64_add_r (x y : Int) : wrap64 (x + wrap64 y) = wrap64 (x + y) := by unfold wrap64; omega
theorem w64_range (x : Int) : -9223372036854775808 ≤ wrap64 x ∧ wrap64 x ≤ 9223372036854775807 := by unfold wrap64; omega
theorem w64_nat {i n : Nat} (h : i < n) (hn : n ≤ 9223372036854775807) : wrap64 ((i : Int) + 1) = ((i + 1 : Nat) : Int) := by rw [w64 (by omega) (by omega)]; rfl
theorem wf_range {x : Int} (h : (Lit.int .i64 x).wf = true) : -9223372036854775808 ≤ x ∧ x ≤ 9223372036854775807 := by
  simp [Lit.wf, IntKind.min, IntKind.max, IntKind.signed, IntKind.bits] at h
  omega
theorem rd_nat {l : List Int} {i : Nat} (h : i < l.length) : rd l (i : Int) = l[i] := by
  unfold rd
  simp [List.getD_eq_getElem?_getD, h]
def allB (l : List Int) (a b : Int) : Bool := l.all fun x => decide (a ≤ x ∧ x ≤ b)
def inB (x a b : Int) : Bool := decide (a ≤ x ∧ x ≤ b)
theorem allB_mem {l : List Int} {a b : Int} (h : allB l a b = true) : ∀ x ∈ l, a ≤ x ∧ x ≤ b := by
  intro x hx
  have := List.all_eq_true.1 h x hx
  simpa using this
theorem inB_iff {x a b : Int} : inB x a b = true ↔ a ≤ x ∧ x ≤ b := by unfold inB; simp
theorem sum_le {l : List Int} {b : Int} (hb : ∀ x ∈ l, x ≤ b) : l.sum ≤ l.length * b := by
  induction l with
  | nil => simp
  | cons x l ih =>
    have h1 := hb x (by simp)
    have h2 := ih (fun y hy => hb y (by simp [hy]))
    rw [List.sum_cons, List.length_cons]
    have : ((l.length + 1 : Nat) : Int) * b = l.length * b + b := by rw [Int.natCast_add, Int.add_mul]; simp
    rw [this]; omega
theorem le_sum {l : List Int} {b : Int} (hb : ∀ x ∈ l, b ≤ x) : l.length * b ≤ l.sum := by
  induction l with
  | nil => simp
  | cons x l ih =>
    have h1 := hb x (by simp)
    have h2 := ih (fun y hy => hb y (by simp [hy]))
    rw [List.sum_cons, List.length_cons]
    have : ((l.length + 1 : Nat) : Int) * b = l.length * b + b := by rw [Int.natCast_add, Int.add_mul]; simp
    rw [this]; omega
theorem drop_cons {α : Type} {l : List α} {i : Nat} (h : i < l.length) : l.drop i = l[i] :: l.drop (i + 1) := List.drop_eq_getElem_cons h

theorem spec_l1In_f (a b c : Int) : spec_l1In.f a b c = some (inB a b c) := by
  unfold spec_l1In.f inB
  by_cases h : a ≥ b
  · rw [if_pos h]; congr 1; rw [decide_eq_decide]; omega
  · rw [if_neg h]; congr 1; symm; rw [decide_eq_false_iff_not]; omega

def marketB (l : List Int) (p m f : Int) : Bool := inB (l.length : Int) 1 9 && (allB l 0 4 && (decide (wrap64 l.sum > 0) && (inB p 1 99 && (inB m 0 p && inB f 0 m))))
theorem marketB_mem {l : List Int} {p m f : Int} (h : marketB l p m f = true) : 1 ≤ l.length ∧ l.length ≤ 9 ∧ (∀ x ∈ l, 0 ≤ x ∧ x ≤ 4) ∧ (0 < l.sum ∧ l.sum ≤ 36) ∧ (1 ≤ p ∧ p ≤ 99) ∧ (0 ≤ m ∧ m ≤ p) ∧ (0 ≤ f ∧ f ≤ m) := by
  unfold marketB at h
  simp only [Bool.and_eq_true, inB_iff, decide_eq_true_eq] at h
  obtain ⟨h1, h2, h3, h4, h5, h6⟩ := h
  have hm := allB_mem h2
  have s1 := sum_le (b := 4) (fun y hy => (hm y hy).2)
  have s2 := le_sum (b := 0) (fun y hy => (hm y hy).1)
  rw [w64 (by omega) (by omega)] at h3
  exact ⟨by omega, by omega, hm, by omega, h4, h5, h6⟩
def contractB (a b c : Int) : Bool := inB a 0 99 && (inB b 0 99 && inB c 0 100)
theorem contractB_mem {a b c : Int} (h : contractB a b c = true) : (0 ≤ a ∧ a ≤ 99) ∧ (0 ≤ b ∧ b ≤ 99) ∧ 0 ≤ c ∧ c ≤ 100 := by
  unfold contractB at h
  simpa only [Bool.and_eq_true, inB_iff] using h

theorem spec_l10Contract_f (a b c : Int) : spec_l10Contract.f a b c = some (contractB a b c) := by
  unfold spec_l10Contract.f contractB
  simp only [spec_l1In_f, Option.bind_some]
  cases inB a 0 99 <;> cases inB b 0 99 <;> rfl

theorem spec_IsContract_f (a b c : Int) : spec_IsContract.f a b c = some (contractB a b c) := by
  unfold spec_IsContract.f
  rw [spec_l10Contract_f, Option.bind_some]

theorem laws_toContract_f (a b c : Int) : laws_toContract.f a b c = some (a, b, c) := rfl

theorem impl_within_f (a b c : Int) : impl_within.f a b c = some (inB a b c) := by
  unfold impl_within.f inB
  by_cases h : a ≥ b
  · rw [if_pos h]; congr 1; rw [decide_eq_decide]; omega
  · rw [if_neg h]; congr 1; symm; rw [decide_eq_false_iff_not]; omega

theorem impl_IsContract_f (a b c : Int) : impl_IsContract.f a b c = some (contractB a b c) := by
  unfold impl_IsContract.f contractB
  simp only [impl_within_f, Option.bind_some]
  cases inB a 0 99 <;> cases inB b 0 99 <;> rfl

theorem FnExactIsContract (a0_0 : Int) (a0_1 : Int) (a0_2 : Int) (w0_0 : (Lit.int .i64 a0_0).wf = true) (w0_1 : (Lit.int .i64 a0_1).wf = true) (w0_2 : (Lit.int .i64 a0_2).wf = true) : laws_FnExactIsContract.f a0_0 a0_1 a0_2 = some true := by
  simp only [laws_FnExactIsContract.f, laws_toContract.f, spec_IsContract.f, spec_l10Contract.f, impl_IsContract.f, spec_l1In_f, impl_within_f, Option.bind_some]
  cases inB a0_0 0 99 <;> cases inB a0_1 0 99 <;> simp

end Go.Proofs.Ytpjiianlailbkaa.Pure
