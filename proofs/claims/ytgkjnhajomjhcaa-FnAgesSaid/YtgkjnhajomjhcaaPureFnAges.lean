/- The pure side of FnAges: what the program's text computes and what the reference's text computes are the same value, for every argument. No condition. -/
import Derived.Test.YtgkjnhajomjhcaaPFnAgesx16
namespace Go.Proofs.Ytgkjnhajomjhcaa.Pure
open Go.RowKit Go.Proofs.Ytgkjnhajomjhcaa.PFnAges Go.Proofs.YtgkjnhajomjhcaaW.PrintWords Go.Proofs.YtgkjnhajomjhcaaW.PrintLast
set_option linter.unusedVariables false
set_option linter.unusedSimpArgs false

theorem ev_succ {α : Type} {g : Nat → Option α} {r : α} (h : Ev (fun k => g (k + 1)) r) : Ev g r := Ev.step (fun _ => rfl) h
theorem ev_eq {α : Type} {g : Nat → Option α} {r r' : α} (h : Ev g r) (e : r = r') : Ev g r' := e ▸ h
theorem ev_ite {α : Type} {c : Prop} [Decidable c] {g f : Nat → Option α} {r : α} (h1 : c → Ev g r) (h2 : ¬ c → Ev f r) : Ev (fun k => if c then g k else f k) r := by
 by_cases h : c
 ·simp only [h, if_true]; exact h1 h
 ·simp only [h, if_false]; exact h2 h
theorem w64 {x : Int} (h : -9223372036854775808 ≤ x) (h' : x ≤ 9223372036854775807) : wrap64 x = x := by unfold wrap64; omega
theorem w64_zero : wrap64 0 = 0 := w64 (by omega) (by omega)
theorem w64_idem (x : Int) : wrap64 (wrap64 x) = wrap64 x := by unfold wrap64; omega
theorem w64_add_l (x y : Int) : wrap64 (wrap64 x + y) = wrap64 (x + y) := by unfold wrap64; omega
theorem w64_nat {i n : Nat} (h : i < n) (hn : n ≤ 9223372036854775807) : wrap64 ((i : Int) + 1) = ((i + 1 : Nat) : Int) := by rw [w64 (by omega) (by omega)]; rfl
theorem rd_nat {l : List Int} {i : Nat} (h : i < l.length) : rd l (i : Int) = l[i] := by
 unfold rd
 simp [List.getD_eq_getElem?_getD, h]
def allB (l : List Int) (a b : Int) : Bool := l.all fun x => decide (a ≤ x ∧ x ≤ b)
def inB (x a b : Int) : Bool := decide (a ≤ x ∧ x ≤ b)
theorem allB_mem {l : List Int} {a b : Int} (h : allB l a b = true) : ∀ x ∈ l, a ≤ x ∧ x ≤ b := by
 intro x hx
 have := List.all_eq_true.1 h x hx
 simpa using this
theorem inB_iff {x a b : Int} : inB x a b = true ↔ a ≤ x ∧ x ≤ b := by unfold inB; simp
theorem drop_cons {α : Type} {l : List α} {i : Nat} (h : i < l.length) : l.drop i = l[i] :: l.drop (i + 1) := List.drop_eq_getElem_cons h
theorem ev_yes {α : Type} {c : Prop} [Decidable c] {g f : Nat → Option α} {r : α} (h : c) (hg : Ev g r) : Ev (fun k => if c then g k else f k) r := ev_ite (fun _ => hg) (fun hn => absurd h hn)
theorem ev_no {α : Type} {c : Prop} [Decidable c] {g f : Nat → Option α} {r : α} (h : ¬ c) (hf : Ev f r) : Ev (fun k => if c then g k else f k) r := ev_ite (fun hn => absurd hn h) (fun _ => hf)

theorem spec_l1In_f (a b c : Int) : spec_l1In.f a b c = some (inB a b c) := by
 unfold spec_l1In.f inB
 by_cases h : a ≥ b
 ·rw [if_pos h]; congr 1; rw [decide_eq_decide]; omega
 ·rw [if_neg h]; congr 1; symm; rw [decide_eq_false_iff_not]; omega

theorem ev_spec_l2Row_l0 (n b : Int) (l : List Int) (hl : l.length ≤ 9223372036854775807) (d : Nat) : ∀ i : Nat, i + d = l.length → Ev (fun k => spec_l2Row.l0 k l n b (i : Int)) (allB (l.drop i) 0 b && ((l.length : Int) == n)) := by
 induction d with
 | zero =>
  intro i hi
  refine ev_succ ?_
  have h1 : ¬ (i : Int) < (l.length : Int) := by omega
  simp only [spec_l2Row.l0, h1, ↓reduceIte]
  rw [List.drop_eq_nil_of_le (by omega)]
  exact Ev.now _
 | succ d ih =>
  intro i hi
  refine ev_succ ?_
  have h1 : (i : Int) < (l.length : Int) := by omega
  have h0 : (0 : Int) ≤ (i : Int) := by omega
  have hi' : i < l.length := by omega
  simp only [spec_l2Row.l0, h1, h0, ↓reduceIte, spec_l1In_f, Option.bind_some, rd_nat hi', w64_nat hi' hl]
  rw [drop_cons hi']
  show Ev _ ((inB l[i] 0 b && allB (l.drop (i + 1)) 0 b) && _)
  cases inB l[i] 0 b with
  | true => simpa using ih (i + 1) (by omega)
  | false => simpa using Ev.now false
theorem ev_spec_l2Row (l : List Int) (n b : Int) (hl : l.length ≤ 9223372036854775807) : Ev (fun k => spec_l2Row.f k l n b) (allB l 0 b && ((l.length : Int) == n)) := by
 unfold spec_l2Row.f
 simpa using ev_spec_l2Row_l0 n b l hl l.length 0 (by omega)

theorem spec_l5Charges_f (a b : Int) : spec_l5Charges.f a b = some (inB a 0 20 && inB b 0 20) := by
 unfold spec_l5Charges.f
 simp only [spec_l1In_f, Option.bind_some]
 cases inB a 0 20 <;> rfl

def allFrom (g : Nat → Bool) : Nat → Nat → Bool
 | 0, _ => true
 | d + 1, i => g i && allFrom g d (i + 1)
theorem allFrom_iff (g : Nat → Bool) (d : Nat) : ∀ i, allFrom g d i = true ↔ ∀ j, i ≤ j → j < i + d → g j = true := by
 induction d with
 | zero => intro i; exact ⟨fun _ j h1 h2 => by omega, fun _ => rfl⟩
 | succ d ih =>
  intro i
  rw [allFrom, Bool.and_eq_true, ih (i + 1)]
  constructor
  ·rintro ⟨h1, h2⟩ j h3 h4
   by_cases he : j = i
   ·subst he; exact h1
   ·exact h2 j (by omega) (by omega)
  ·intro h
   exact ⟨h i (by omega) (by omega), fun j h1 h2 => h j (by omega) (by omega)⟩
theorem allFrom_congr {g g' : Nat → Bool} (d : Nat) : ∀ i, (∀ j, i ≤ j → j < i + d → g j = g' j) → allFrom g d i = allFrom g' d i := by
 induction d with
 | zero => intro i _; rfl
 | succ d ih =>
  intro i h
  rw [allFrom, allFrom, h i (by omega) (by omega), ih (i + 1) (fun j h1 h2 => h j (by omega) (by omega))]
def mapFrom {α : Type} (g : Nat → α) : Nat → Nat → List α
 | 0, _ => []
 | d + 1, i => g i :: mapFrom g d (i + 1)
theorem mapFrom_length {α : Type} (g : Nat → α) (d : Nat) : ∀ i, (mapFrom g d i).length = d := by
 induction d with
 | zero => intro i; rfl
 | succ d ih => intro i; rw [mapFrom, List.length_cons, ih]
theorem mapFrom_get {α : Type} (g : Nat → α) (d : Nat) : ∀ (i j : Nat) (h : j < (mapFrom g d i).length), (mapFrom g d i)[j] = g (i + j) := by
 induction d with
 | zero => intro i j h; simp [mapFrom] at h
 | succ d ih =>
  intro i j h
  cases j with
  | zero => rfl
  | succ j =>
   show (mapFrom g d (i + 1))[j]'_ = _
   rw [ih]
   congr 1
   omega
theorem rdL_mem {m : List (List Int)} {i : Nat} (h : i < m.length) : rd_L1 m (i : Int) ∈ m := by
 unfold rd_L1
 simp [List.getD_eq_getElem?_getD, h]
theorem rdL_nat {m : List (List Int)} {i : Nat} (h : i < m.length) : rd_L1 m (i : Int) = m[i] := by
 unfold rd_L1
 simp [List.getD_eq_getElem?_getD, h]
def shelfB (a : Int) (s n : List Int) (c d : Int) : Bool := inB a 1 8 && (decide (n.length ≤ 8 ∧ s.length = n.length) && (allB s 0 20 && (allB n 0 20 && (inB c 0 20 && inB d 0 20))))
theorem shelfB_spec {a : Int} {s n : List Int} {c d : Int} (h : shelfB a s n c d = true) : (1 ≤ a ∧ a ≤ 8) ∧ n.length ≤ 8 ∧ s.length = n.length := by
 unfold shelfB at h
 rw [Bool.and_eq_true, Bool.and_eq_true, inB_iff, decide_eq_true_eq] at h
 exact ⟨h.1, h.2.1⟩
def useB (a : Int) (row : List Int) (i j : Nat) : Bool := !decide (rd row (j : Int) > 0) || decide ((j : Int) ≤ (i : Int) ∧ (i : Int) < (j : Int) + a)
def rowOk (n : List Int) (m : List (List Int)) (i : Nat) : Bool := decide ((rd_L1 m (i : Int)).length = n.length) && (allB (rd_L1 m (i : Int)) 0 20 && !decide (wrap64 (rd_L1 m (i : Int)).sum > rd n (i : Int)))
def rowB (a : Int) (n : List Int) (m : List (List Int)) (i : Nat) : Bool := rowOk n m i && allFrom (useB a (rd_L1 m (i : Int)) i) n.length 0
theorem rowOk_length {n : List Int} {m : List (List Int)} {i : Nat} (h : rowOk n m i = true) : (rd_L1 m (i : Int)).length = n.length := by
 unfold rowOk at h
 rw [Bool.and_eq_true, decide_eq_true_eq] at h
 exact h.1
theorem rowB_length {a : Int} {n : List Int} {m : List (List Int)} {i : Nat} (h : rowB a n m i = true) : (rd_L1 m (i : Int)).length = n.length := by
 unfold rowB at h
 rw [Bool.and_eq_true] at h
 exact rowOk_length h.1
def colFrom (m : List (List Int)) (j : Nat) : Nat → Nat → Int
 | 0, _ => 0
 | d + 1, i => rd (rd_L1 m (i : Int)) (j : Int) + colFrom m j d (i + 1)
def colV (m : List (List Int)) (j : Nat) : Int := wrap64 (colFrom m j m.length 0)
def colsB (s : List Int) (m : List (List Int)) (n : Nat) : Bool := allFrom (fun j => !decide (colV m j > rd s (j : Int))) n 0
def issueB (a : Int) (s n : List Int) (m : List (List Int)) : Bool := allFrom (rowB a n m) (min m.length n.length) 0 && (decide (m.length = n.length) && colsB s m n.length)
theorem issueB_spec {a : Int} {s n : List Int} {m : List (List Int)} (h : issueB a s n m = true) : m.length = n.length ∧ ∀ i, i < m.length → (rd_L1 m (i : Int)).length = m.length := by
 unfold issueB at h
 rw [Bool.and_eq_true, Bool.and_eq_true, decide_eq_true_eq, allFrom_iff] at h
 refine ⟨h.2.1, fun i hi => ?_⟩
 rw [rowB_length (h.1 i (by omega) (by omega)), h.2.1]
def bothB (a : Int) (s n : List Int) (c d : Int) (m : List (List Int)) : Bool := shelfB a s n c d && issueB a s n m
theorem bothB_spec {a : Int} {s n : List Int} {c d : Int} {m : List (List Int)} (h : bothB a s n c d m = true) : s.length = m.length ∧ n.length = m.length ∧ m.length ≤ 8 ∧ ∀ i, i < m.length → (rd_L1 m (i : Int)).length = m.length := by
 unfold bothB at h
 rw [Bool.and_eq_true] at h
 have h1 := shelfB_spec h.1
 have h2 := issueB_spec h.2
 exact ⟨by omega, by omega, by omega, h2.2⟩
theorem ev_spec_l9Good_j0 (x : Bool) (a : Int) (s n : List Int) (c d : Int) (hs : s.length ≤ 9223372036854775807) (hn : n.length ≤ 9223372036854775807) : Ev (fun k => spec_l9Good.j0 k x a s n c d) (!x && (decide (s.length = n.length) && (allB s 0 20 && (allB n 0 20 && (inB c 0 20 && inB d 0 20))))) := by
 refine ev_succ ?_
 cases x with
 | true => simp only [spec_l9Good.j0, ↓reduceIte]; exact Ev.now _
 | false =>
  simp only [spec_l9Good.j0, Bool.false_eq_true, ↓reduceIte, spec_l5Charges_f, Option.bind_some]
  refine Ev.bind (ev_spec_l2Row n _ 20 hn) ?_
  refine ev_ite (fun h => ?_) (fun h => ?_)
  ·refine Ev.bind (ev_spec_l2Row s _ 20 hs) ?_
   have h1 : allB n 0 20 = true := by simpa using h
   refine ev_ite (fun h2 => ?_) (fun h2 => ?_)
   ·refine ev_eq (Ev.now _) ?_
    rw [Bool.and_eq_true, beq_iff_eq] at h2
    have h3 : s.length = n.length := by omega
    simp [h1, h2.1, h3]
   ·refine ev_eq (Ev.now _) ?_
    symm
    rw [← Bool.not_eq_true]
    intro hc
    refine h2 ?_
    simp only [Bool.not_false, Bool.true_and, Bool.and_eq_true, decide_eq_true_eq] at hc
    rw [Bool.and_eq_true, beq_iff_eq]
    exact ⟨hc.2.1, by omega⟩
  ·refine ev_eq (Ev.now _) ?_
   have h1 : allB n 0 20 = false := by simpa using h
   simp [h1]
theorem ev_spec_l9Good (a : Int) (s n : List Int) (c d : Int) (hs : s.length ≤ 9223372036854775807) (hn : n.length ≤ 9223372036854775807) : Ev (fun k => spec_l9Good.f k a s n c d) (shelfB a s n c d) := by
 unfold spec_l9Good.f shelfB
 simp only [spec_l1In_f, Option.bind_some]
 cases inB a 1 8 with
 | false => exact ev_eq (ev_spec_l9Good_j0 true a s n c d hs hn) rfl
 | true =>
  refine ev_eq (ev_spec_l9Good_j0 (decide ((n.length : Int) > 8)) a s n c d hs hn) ?_
  by_cases h : n.length ≤ 8
  ·have h1 : ¬ (n.length : Int) > 8 := by omega
   simp [h, h1]
  ·have h1 : (n.length : Int) > 8 := by omega
   simp [h, h1]

theorem ev_spec_l2Sum_l0 (l : List Int) (hl : l.length ≤ 9223372036854775807) (d : Nat) : ∀ (i : Nat) (s : Int), i + d = l.length → wrap64 s = s → Ev (fun k => spec_l2Sum.l0 k l s (i : Int)) (wrap64 (s + (l.drop i).sum)) := by
 induction d with
 | zero =>
  intro i s hi hs
  refine ev_succ ?_
  have h1 : ¬ (i : Int) < (l.length : Int) := by omega
  simp only [spec_l2Sum.l0, h1, ↓reduceIte]
  rw [List.drop_eq_nil_of_le (by omega)]
  simp only [List.sum_nil, Int.add_zero, hs]
  exact Ev.now _
 | succ d ih =>
  intro i s hi hs
  refine ev_succ ?_
  have h1 : (i : Int) < (l.length : Int) := by omega
  have h0 : (0 : Int) ≤ (i : Int) := by omega
  have hi' : i < l.length := by omega
  simp only [spec_l2Sum.l0, h1, h0, ↓reduceIte, rd_nat hi', w64_nat hi' hl]
  refine ev_eq (ih (i + 1) _ (by omega) (w64_idem _)) ?_
  rw [drop_cons hi', List.sum_cons, w64_add_l, Int.add_assoc]
theorem ev_spec_l2Sum (l : List Int) (hl : l.length ≤ 9223372036854775807) : Ev (fun k => spec_l2Sum.f k l) (wrap64 l.sum) := by
 unfold spec_l2Sum.f
 simpa using ev_spec_l2Sum_l0 l hl l.length 0 0 (by omega) w64_zero

theorem ev_spec_l9Column_l0 (m : List (List Int)) (j : Nat) (hm : m.length ≤ 8) (hr : ∀ i, i < m.length → j < (rd_L1 m (i : Int)).length) (d : Nat) : ∀ (i : Nat) (s : Int), i + d = m.length → wrap64 s = s → Ev (fun k => spec_l9Column.l0 k m (j : Int) s (i : Int)) (wrap64 (s + colFrom m j d i)) := by
 induction d with
 | zero =>
  intro i s hi hs
  refine ev_succ ?_
  have h1 : ¬ (i : Int) < (m.length : Int) := by omega
  simp only [spec_l9Column.l0, h1, ↓reduceIte, colFrom, Int.add_zero, hs]
  exact Ev.now _
 | succ d ih =>
  intro i s hi hs
  refine ev_succ ?_
  have hi' : i < m.length := by omega
  have h1 : (i : Int) < (m.length : Int) := by omega
  have h0 : (0 : Int) ≤ (i : Int) := by omega
  have h2 : (0 : Int) ≤ (j : Int) := by omega
  have h3 : (j : Int) < ((rd_L1 m (i : Int)).length : Int) := by have := hr i hi'; omega
  simp only [spec_l9Column.l0, h1, h0, h2, h3, ↓reduceIte, w64_nat hi' (by omega : m.length ≤ 9223372036854775807)]
  refine ev_eq (ih (i + 1) _ (by omega) (w64_idem _)) ?_
  rw [w64_add_l, Int.add_assoc, colFrom]
theorem ev_spec_l9Column (m : List (List Int)) (j : Nat) (hm : m.length ≤ 8) (hr : ∀ i, i < m.length → j < (rd_L1 m (i : Int)).length) : Ev (fun k => spec_l9Column.f k m (j : Int)) (colV m j) := by
 unfold spec_l9Column.f colV
 refine ev_eq (ev_spec_l9Column_l0 m j hm hr m.length 0 0 (by omega) w64_zero) ?_
 rw [Int.zero_add]

theorem spec_l9Usable_f (a : Int) (s n : List Int) (c e : Int) (i j : Nat) (ha : 1 ≤ a ∧ a ≤ 8) (hj : j ≤ 8) : spec_l9Usable.f a s n c e (j : Int) (i : Int) = some (decide ((j : Int) ≤ (i : Int) ∧ (i : Int) < (j : Int) + a)) := by
 unfold spec_l9Usable.f
 rw [w64 (by omega) (by omega)]
 by_cases h : (j : Int) ≤ (i : Int)
 ·rw [if_pos h]; simp [h]
 ·rw [if_neg h]; simp [h]
theorem ev_spec_l9Issue_l2 (a : Int) (s n : List Int) (c e : Int) (m : List (List Int)) (hm : m.length ≤ 8) (hl : s.length = n.length) (hr : ∀ i, i < m.length → (rd_L1 m (i : Int)).length = n.length) (hn : n.length ≤ 8) (d : Nat) : ∀ j : Nat, j + d = n.length → Ev (fun k => spec_l9Issue.l2 k m (n.length : Int) (j : Int) a s n c e) (allFrom (fun j => !decide (colV m j > rd s (j : Int))) d j) := by
 induction d with
 | zero =>
  intro j hj
  refine ev_succ ?_
  have h1 : ¬ (j : Int) < (n.length : Int) := by omega
  simp only [spec_l9Issue.l2, h1, ↓reduceIte]
  exact Ev.now _
 | succ d ih =>
  intro j hj
  refine ev_succ ?_
  have hj' : j < n.length := by omega
  have h1 : (j : Int) < (n.length : Int) := by omega
  have h0 : (0 : Int) ≤ (j : Int) := by omega
  have h2 : (j : Int) < (s.length : Int) := by omega
  simp only [spec_l9Issue.l2, h1, h0, h2, ↓reduceIte, w64_nat hj' (by omega : n.length ≤ 9223372036854775807)]
  refine Ev.bind (ev_spec_l9Column m j hm (fun i hi => by have := hr i hi; omega)) ?_
  rw [allFrom]
  refine ev_ite (fun h => ?_) (fun h => ?_)
  ·refine ev_eq (Ev.now _) ?_
   simp [h]
  ·refine ev_eq (ih (j + 1) (by omega)) ?_
   simp [h]
theorem ev_spec_l9Issue_rows (a : Int) (s n : List Int) (c e : Int) (m : List (List Int)) (ha : 1 ≤ a ∧ a ≤ 8) (hl : s.length = n.length) (hn : n.length ≤ 8) (hrow : ∀ i, i < m.length → (rd_L1 m (i : Int)).length ≤ 9223372036854775807) (d : Nat) : ∀ i : Nat, i + d = min m.length n.length → (∀ t, t < i → (rd_L1 m (t : Int)).length = n.length) → Ev (fun k => spec_l9Issue.l0 k m (n.length : Int) (i : Int) a s n c e) (allFrom (rowB a n m) d i && (decide (m.length = n.length) && colsB s m n.length)) := by
 induction d with
 | zero =>
  intro i hi hpre
  have he : Ev (fun k => spec_l9Issue.j1 k m (n.length : Int) (i : Int) false a s n c e) (allFrom (rowB a n m) 0 i && (decide (m.length = n.length) && colsB s m n.length)) := by
   refine ev_succ ?_
   simp only [spec_l9Issue.j1, Bool.false_eq_true, ↓reduceIte, allFrom, Bool.true_and]
   refine ev_ite (fun h => ?_) (fun h => ?_)
   ·have h' : m.length = n.length := by omega
    refine ev_eq (ev_spec_l9Issue_l2 a s n c e m (by omega) hl (fun t ht => hpre t (by omega)) hn n.length 0 (by omega)) ?_
    simp [h', colsB]
   ·have h' : ¬ m.length = n.length := by omega
    refine ev_eq (Ev.now _) ?_
    simp [h']
  refine ev_succ ?_
  simp only [spec_l9Issue.l0]
  refine ev_ite (fun h => ?_) (fun h => ?_)
  ·have h1 : ¬ (i : Int) < (n.length : Int) := by omega
   simp only [h1, decide_false]
   exact he
  ·exact he
 | succ d ih =>
  intro i hi hpre
  have hi' : i < m.length := by omega
  have hin : i < n.length := by omega
  have h1 : (i : Int) < (m.length : Int) := by omega
  have h2 : (i : Int) < (n.length : Int) := by omega
  have h0 : (0 : Int) ≤ (i : Int) := by omega
  have hl1 : ∀ dd : Nat, ∀ j : Nat, rowOk n m i = true → j + dd = n.length → Ev (fun k => spec_l9Issue.l1 k m (n.length : Int) (i : Int) (j : Int) a s n c e) (allFrom (useB a (rd_L1 m (i : Int)) i) dd j && (allFrom (rowB a n m) d (i + 1) && (decide (m.length = n.length) && colsB s m n.length))) := by
   intro dd
   induction dd with
   | zero =>
    intro j hok hj
    refine ev_succ ?_
    have h3 : ¬ (j : Int) < (n.length : Int) := by omega
    simp only [spec_l9Issue.l1, h3, ↓reduceIte, w64_nat hin (by omega : n.length ≤ 9223372036854775807), allFrom, Bool.true_and]
    refine ih (i + 1) (by omega) (fun t ht => ?_)
    by_cases htt : t = i
    ·subst htt; exact rowOk_length hok
    ·exact hpre t (by omega)
   | succ dd ihd =>
    intro j hok hj
    refine ev_succ ?_
    have hrl := rowOk_length hok
    have hj' : j < n.length := by omega
    have h3 : (j : Int) < (n.length : Int) := by omega
    have h4 : (0 : Int) ≤ (j : Int) := by omega
    have h5 : (j : Int) < ((rd_L1 m (i : Int)).length : Int) := by omega
    simp only [spec_l9Issue.l1, h0, h1, h3, h4, h5, ↓reduceIte, w64_nat hj' (by omega : n.length ≤ 9223372036854775807), spec_l9Usable_f a s n c e i j ha (by omega), Option.bind_some]
    rw [allFrom, useB]
    have hih := ihd (j + 1) hok (by omega)
    refine ev_ite (fun h => ?_) (fun h => ?_)
    ·refine ev_ite (fun h6 => ?_) (fun h6 => ?_)
     ·refine ev_eq hih ?_
      simp only [h6, Bool.or_true, Bool.true_and]
     ·refine ev_eq (Ev.now _) ?_
      simp only [h, h6, decide_true, Bool.not_true, Bool.or_self, Bool.false_and]
    ·refine ev_eq hih ?_
     simp only [h, decide_false, Bool.not_false, Bool.true_or, Bool.true_and]
  have hj2 : ∀ x : Bool, (x = !rowOk n m i) → Ev (fun k => spec_l9Issue.j2 k m (n.length : Int) (i : Int) x a s n c e) (allFrom (rowB a n m) (d + 1) i && (decide (m.length = n.length) && colsB s m n.length)) := by
   intro x hx
   refine ev_succ ?_
   rw [allFrom, rowB]
   cases hok : rowOk n m i with
   | false =>
    rw [hok] at hx
    subst hx
    simp only [spec_l9Issue.j2, Bool.not_false, ↓reduceIte, Bool.false_and]
    exact Ev.now _
   | true =>
    rw [hok] at hx
    subst hx
    simp only [spec_l9Issue.j2, Bool.not_true, Bool.false_eq_true, ↓reduceIte, Bool.true_and]
    refine ev_eq (hl1 n.length 0 hok (by omega)) ?_
    simp only [Bool.and_assoc]
  refine ev_succ ?_
  simp only [spec_l9Issue.l0, h1, h2, ↓reduceIte, decide_true]
  refine ev_succ ?_
  simp only [spec_l9Issue.j1, h0, h1, h2, ↓reduceIte]
  refine Ev.bind (ev_spec_l2Row _ _ 20 (hrow i hi')) ?_
  refine ev_ite (fun h => ?_) (fun h => ?_)
  ·refine Ev.bind (ev_spec_l2Sum _ (hrow i hi')) ?_
   refine hj2 _ ?_
   rw [Bool.and_eq_true, beq_iff_eq] at h
   have h3 : (rd_L1 m (i : Int)).length = n.length := by omega
   simp only [rowOk, h3, h.1, decide_true, Bool.true_and, Bool.not_not]
  ·refine hj2 _ ?_
   symm
   rw [Bool.not_eq_true']
   rw [← Bool.not_eq_true]
   intro hc
   refine h ?_
   simp only [rowOk, Bool.and_eq_true, decide_eq_true_eq] at hc
   rw [Bool.and_eq_true, beq_iff_eq]
   exact ⟨hc.2.1, by omega⟩
theorem ev_spec_l9Issue (a : Int) (s n : List Int) (c e : Int) (m : List (List Int)) (hv : shelfB a s n c e = true) (hrow : ∀ i, i < m.length → (rd_L1 m (i : Int)).length ≤ 9223372036854775807) : Ev (fun k => spec_l9Issue.f k a s n c e m) (issueB a s n m) := by
 have h := shelfB_spec hv
 unfold spec_l9Issue.f issueB
 exact ev_spec_l9Issue_rows a s n c e m h.1 h.2.2 h.2.1 hrow _ 0 (by omega) (fun t ht => absurd ht (by omega))

theorem ev_spec_l9Two (a : Int) (s n : List Int) (c e : Int) (m : List (List Int)) (hs : s.length ≤ 9223372036854775807) (hn : n.length ≤ 9223372036854775807) (hrow : ∀ i, i < m.length → (rd_L1 m (i : Int)).length ≤ 9223372036854775807) : Ev (fun k => spec_l9Two.f k a s n c e m) (bothB a s n c e m) := by
 unfold spec_l9Two.f bothB
 refine Ev.bind (ev_spec_l9Good a s n c e hs hn) ?_
 cases hv : shelfB a s n c e with
 | false => simp only [Bool.false_eq_true, ↓reduceIte, Bool.false_and]; exact Ev.now _
 | true =>
  simp only [↓reduceIte, Bool.true_and]
  exact Ev.bind (ev_spec_l9Issue a s n c e m hv hrow) (Ev.now _)

def stockAt (s : List Int) (m : List (List Int)) (t g : Nat) : Int := if t < g then 0 else wrap64 (rd s ((t - g : Nat) : Int) - wrap64 (colFrom m (t - g) (t + 1) 0))
def stockAgeV (a : Int) (s n : List Int) (c e : Int) (m : List (List Int)) (t : Int) : List Int × Bool := if (bothB a s n c e m && inB t 0 ((m.length : Int) - 1)) = true then (mapFrom (stockAt s m t.toNat) (a - 1).toNat 0, true) else ([], false)
theorem stockAgeV_length {a : Int} {s n : List Int} {c e : Int} {m : List (List Int)} {t : Int} : (stockAgeV a s n c e m t).1.length ≤ 8 := by
 unfold stockAgeV
 by_cases h : (bothB a s n c e m && inB t 0 ((m.length : Int) - 1)) = true
 ·rw [if_pos h]
  rw [Bool.and_eq_true] at h
  have h1 := h.1
  unfold bothB at h1
  rw [Bool.and_eq_true] at h1
  have := shelfB_spec h1.1
  simp only [mapFrom_length]
  omega
 ·rw [if_neg h]
  simp

def addFrom (row : List Int) : Nat → Nat → List Int → List Int
 | 0, _, o => o
 | d + 1, j, o => addFrom row d (j + 1) (o.set j (wrap64 (rd o (j : Int) + rd row (j : Int))))
theorem addFrom_length (row : List Int) (d : Nat) : ∀ (j : Nat) (o : List Int), (addFrom row d j o).length = o.length := by
 induction d with
 | zero => intro j o; rfl
 | succ d ih => intro j o; rw [addFrom, ih, List.length_set]
theorem rd_set_same {o : List Int} {j : Nat} {v : Int} (h : j < o.length) : rd (o.set j v) (j : Int) = v := by
 rw [rd_nat (by simpa using h)]
 simp
theorem rd_set_ne {o : List Int} {j t : Nat} {v : Int} (h : j ≠ t) (ht : t < o.length) : rd (o.set j v) (t : Int) = rd o (t : Int) := by
 rw [rd_nat (by simpa using ht), rd_nat ht, List.getElem_set_ne h]
theorem addFrom_rd (row : List Int) (t : Nat) (d : Nat) : ∀ (j : Nat) (o : List Int), j + d ≤ o.length → t < o.length → rd (addFrom row d j o) (t : Int) = if j ≤ t ∧ t < j + d then wrap64 (rd o (t : Int) + rd row (t : Int)) else rd o (t : Int) := by
 induction d with
 | zero =>
  intro j o hj ht
  rw [if_neg (by omega)]
  rfl
 | succ d ih =>
  intro j o hj ht
  rw [addFrom, ih (j + 1) _ (by rw [List.length_set]; omega) (by rw [List.length_set]; omega)]
  by_cases he : j = t
  ·subst he
   rw [if_neg (by omega), if_pos (by omega), rd_set_same ht]
  ·rw [rd_set_ne he ht]
   by_cases h1 : j ≤ t ∧ t < j + (d + 1)
   ·rw [if_pos h1, if_pos (by omega)]
   ·rw [if_neg h1, if_neg (by omega)]
def usedFrom (m : List (List Int)) : Nat → Nat → List Int → List Int
 | 0, _, o => o
 | d + 1, i, o => usedFrom m d (i + 1) (addFrom (rd_L1 m (i : Int)) o.length 0 o)
theorem usedFrom_length (m : List (List Int)) (d : Nat) : ∀ (i : Nat) (o : List Int), (usedFrom m d i o).length = o.length := by
 induction d with
 | zero => intro i o; rfl
 | succ d ih => intro i o; rw [usedFrom, ih, addFrom_length]
theorem usedFrom_rd (m : List (List Int)) (t : Nat) (d : Nat) : ∀ (i : Nat) (o : List Int), t < o.length → wrap64 (rd o (t : Int)) = rd o (t : Int) → rd (usedFrom m d i o) (t : Int) = wrap64 (rd o (t : Int) + colFrom m t d i) := by
 induction d with
 | zero =>
  intro i o ht hw
  rw [colFrom, Int.add_zero, hw]
  rfl
 | succ d ih =>
  intro i o ht hw
  have e : rd (addFrom (rd_L1 m (i : Int)) o.length 0 o) (t : Int) = wrap64 (rd o (t : Int) + rd (rd_L1 m (i : Int)) (t : Int)) := by
   rw [addFrom_rd _ t _ 0 o (by omega) ht, if_pos (by omega)]
  rw [usedFrom, ih (i + 1) _ (by rw [addFrom_length]; exact ht) (by rw [e, w64_idem]), e, colFrom, w64_add_l, Int.add_assoc]
def usedV (m : List (List Int)) : List Int := usedFrom m m.length 0 (List.replicate m.length 0)
theorem usedV_length (m : List (List Int)) : (usedV m).length = m.length := by rw [usedV, usedFrom_length, List.length_replicate]
theorem usedV_rd (m : List (List Int)) {t : Nat} (h : t < m.length) : rd (usedV m) (t : Int) = colV m t := by
 have e : rd (List.replicate m.length 0) (t : Int) = 0 := by
  rw [rd_nat (by simpa using h)]
  simp
 rw [usedV, usedFrom_rd m t _ 0 _ (by simpa using h) (by rw [e]; exact w64_zero), e, Int.zero_add, colV]
theorem rdL_take {m : List (List Int)} {n i : Nat} (h : i < n) : rd_L1 (m.take n) (i : Int) = rd_L1 m (i : Int) := by
 unfold rd_L1
 simp [List.getD_eq_getElem?_getD, List.getElem?_take, h]
theorem colFrom_take (m : List (List Int)) (j n : Nat) (d : Nat) : ∀ i, i + d ≤ n → colFrom (m.take n) j d i = colFrom m j d i := by
 induction d with
 | zero => intro i _; rfl
 | succ d ih => intro i h; rw [colFrom, colFrom, rdL_take (by omega), ih (i + 1) (by omega)]

theorem ev_spec_StockByAge_l0 (a : Int) (s n : List Int) (c e : Int) (m : List (List Int)) (ha : 1 ≤ a ∧ a ≤ 8) (hm : m.length ≤ 8) (hs : s.length = m.length) (hrow : ∀ i, i < m.length → (rd_L1 m (i : Int)).length = m.length) (t : Nat) (ht : t < m.length) (d : Nat) : ∀ (i : Nat) (o : List Int), i + d = (a - 1).toNat → o.length = i → Ev (fun k => spec_StockByAge.l0 k m (t : Int) o (i : Int) a s n c e) (o ++ mapFrom (stockAt s m t) d i, true) := by
 have ea : wrap64 (a - 1) = a - 1 := w64 (by omega) (by omega)
 induction d with
 | zero =>
  intro i o hi ho
  refine ev_succ ?_
  have h1 : ¬ (i : Int) < a - 1 := by omega
  simp only [spec_StockByAge.l0, ea, h1, ↓reduceIte, mapFrom, List.append_nil]
  exact Ev.now _
 | succ d ih =>
  intro i o hi ho
  refine ev_succ ?_
  have h1 : (i : Int) < a - 1 := by omega
  have h8 : i < 8 := by omega
  have h3 : o.length < 17592186044416 := by omega
  have ht8 : t < 8 := by omega
  have e3 : wrap64 ((i : Int) + 1) = ((i + 1 : Nat) : Int) := w64_nat h8 (by decide)
  have e2 : wrap64 ((t : Int) + 1) = ((t + 1 : Nat) : Int) := w64_nat ht8 (by decide)
  have e1 : wrap64 ((t : Int) - (i : Int)) = (t : Int) - (i : Int) := by
   clear ih e3 hi ho ha
   exact w64 (by omega) (by omega)
  simp only [spec_StockByAge.l0, ea, h1, e1, e2, e3, h3, ↓reduceIte]
  clear e1 e2 e3
  by_cases hc : t < i
  ·have h4 : (t : Int) - (i : Int) < 0 := by omega
   simp only [h4, ↓reduceIte]
   refine ev_eq (ih (i + 1) _ (by omega) (by simp [ho])) ?_
   rw [mapFrom, List.append_assoc, stockAt, if_pos hc]
   rfl
  ·have h4 : ¬ (t : Int) - (i : Int) < 0 := by omega
   have h5 : (0 : Int) ≤ (t : Int) - (i : Int) := by omega
   have h6 : (t : Int) - (i : Int) < (s.length : Int) := by omega
   have h7 : (0 : Int) ≤ ((t + 1 : Nat) : Int) := by omega
   have h8 : ((t + 1 : Nat) : Int) ≤ (m.length : Int) := by omega
   have e4 : (t : Int) - (i : Int) = ((t - i : Nat) : Int) := by omega
   simp only [h4, h5, h6, h7, h8, ↓reduceIte, Int.toNat_natCast]
   rw [e4]
   have hl : (m.take (t + 1)).length = t + 1 := by rw [List.length_take]; omega
   refine Ev.bind (ev_spec_l9Column (m.take (t + 1)) (t - i) (by omega) (fun q hq => by rw [rdL_take (by omega), hrow q (by omega)]; omega)) ?_
   refine ev_eq (ih (i + 1) _ (by omega) (by simp [ho])) ?_
   rw [mapFrom, List.append_assoc, stockAt, if_neg hc, colV, hl, colFrom_take m (t - i) (t + 1) (t + 1) 0 (by omega)]
   rfl
theorem ev_spec_StockByAge_j0_no (a : Int) (s n : List Int) (c e : Int) (m : List (List Int)) (t : Int) : Ev (fun k => spec_StockByAge.j0 k m t [] true a s n c e) ([], false) := by
 refine ev_succ ?_
 simp only [spec_StockByAge.j0, ↓reduceIte]
 exact Ev.now _
theorem ev_spec_StockByAge (a : Int) (s n : List Int) (c e : Int) (m : List (List Int)) (t : Int) (hs : s.length ≤ 9223372036854775807) (hn : n.length ≤ 9223372036854775807) (hrow : ∀ i, i < m.length → (rd_L1 m (i : Int)).length ≤ 9223372036854775807) : Ev (fun k => spec_StockByAge.f k a s n c e m t) (stockAgeV a s n c e m t) := by
 unfold spec_StockByAge.f stockAgeV
 simp only [Option.bind_some, spec_l1In_f]
 refine Ev.bind (ev_spec_l9Two a s n c e m hs hn hrow) ?_
 refine ev_ite (fun h => ?_) (fun h => ?_)
 ·obtain ⟨h1, h2, h3, h4⟩ := bothB_spec h
  have ha : 1 ≤ a ∧ a ≤ 8 := by
   have h5 := h
   unfold bothB at h5
   rw [Bool.and_eq_true] at h5
   exact (shelfB_spec h5.1).1
  rw [w64 (x := (m.length : Int) - 1) (by omega) (by omega), h, Bool.true_and]
  cases hi : inB t 0 ((m.length : Int) - 1) with
  | true =>
   obtain ⟨t0, t1⟩ := inB_iff.1 hi
   rw [if_pos rfl]
   refine ev_succ ?_
   simp only [spec_StockByAge.j0, Bool.not_true, Bool.false_eq_true, ↓reduceIte]
   have et : t = ((t.toNat : Nat) : Int) := by omega
   generalize t.toNat = q at et
   subst et
   exact ev_spec_StockByAge_l0 a s n c e m ha h3 h1 h4 q (by omega) (a - 1).toNat 0 [] (by omega) rfl
  | false => exact ev_spec_StockByAge_j0_no _ _ _ _ _ _ _
 ·rw [Bool.not_eq_true] at h
  rw [h, Bool.false_and]
  exact ev_spec_StockByAge_j0_no _ _ _ _ _ _ _

theorem impl_within_f (a b c : Int) : impl_within.f a b c = some (inB a b c) := by
 unfold impl_within.f inB
 by_cases h : a ≥ b
 ·rw [if_pos h]; congr 1; rw [decide_eq_decide]; omega
 ·rw [if_neg h]; congr 1; symm; rw [decide_eq_false_iff_not]; omega

theorem impl_isLife_f (a : Int) : impl_isLife.f a = some (inB a 1 8) := by
 unfold impl_isLife.f
 simp only [impl_within_f, Option.bind_some]

theorem ev_impl_allWithin_l0 (a b : Int) (l : List Int) (hl : l.length ≤ 9223372036854775807) (d : Nat) : ∀ i : Nat, i + d = l.length → Ev (fun k => impl_allWithin.l0 k a b l (l.length : Int) (i : Int)) (allB (l.drop i) a b) := by
 induction d with
 | zero =>
  intro i hi
  refine ev_succ ?_
  have h1 : ¬ (i : Int) < (l.length : Int) := by omega
  simp only [impl_allWithin.l0, h1, ↓reduceIte]
  rw [List.drop_eq_nil_of_le (by omega)]
  exact Ev.now _
 | succ d ih =>
  intro i hi
  refine ev_succ ?_
  have h1 : (i : Int) < (l.length : Int) := by omega
  have h0 : (0 : Int) ≤ (i : Int) := by omega
  have hi' : i < l.length := by omega
  simp only [impl_allWithin.l0, h1, h0, ↓reduceIte, impl_within_f, Option.bind_some, rd_nat hi', w64_nat hi' hl]
  rw [drop_cons hi']
  show Ev _ (inB l[i] a b && allB (l.drop (i + 1)) a b)
  cases inB l[i] a b with
  | true => simpa using ih (i + 1) (by omega)
  | false => simpa using Ev.now false
theorem ev_impl_allWithin (l : List Int) (a b : Int) (hl : l.length ≤ 9223372036854775807) : Ev (fun k => impl_allWithin.f k l a b) (allB l a b) := by
 unfold impl_allWithin.f
 simpa using ev_impl_allWithin_l0 a b l hl l.length 0 (by omega)

theorem ev_impl_areCharges (l : List Int) (hl : l.length ≤ 9223372036854775807) : Ev (fun k => impl_areCharges.f k l) (allB l 0 20) := by
 unfold impl_areCharges.f
 exact Ev.bind (ev_impl_allWithin l 0 20 hl) (Ev.now _)

theorem allB_two (c d a b : Int) : allB [c, d] a b = (inB c a b && inB d a b) := by
 unfold allB inB
 simp only [List.all_cons, List.all_nil, Bool.and_true]
theorem ev_impl_IsShelf (a : Int) (s n : List Int) (c d : Int) (hs : s.length ≤ 9223372036854775807) (hn : n.length ≤ 9223372036854775807) : Ev (fun k => impl_IsShelf.f k a s n c d) (shelfB a s n c d) := by
 unfold impl_IsShelf.f shelfB
 simp only [impl_isLife_f, Option.bind_some]
 cases inB a 1 8 with
 | false => simp only [Bool.false_eq_true, ↓reduceIte, Bool.false_and]; exact Ev.now _
 | true =>
  simp only [↓reduceIte, Bool.true_and]
  refine ev_ite (fun h => ?_) (fun h => ?_)
  ·refine ev_ite (fun h2 => ?_) (fun h2 => ?_)
   ·have h3 : n.length ≤ 8 ∧ s.length = n.length := by omega
    simp only [h3, decide_true, Bool.true_and, and_self]
    refine Ev.bind (ev_impl_allWithin s 0 20 hs) ?_
    cases allB s 0 20 with
    | false => simp only [Bool.false_eq_true, ↓reduceIte, Bool.false_and]; exact Ev.now _
    | true =>
     simp only [↓reduceIte, Bool.true_and]
     refine Ev.bind (ev_impl_allWithin n 0 20 hn) ?_
     cases allB n 0 20 with
     | false => simp only [Bool.false_eq_true, ↓reduceIte, Bool.false_and]; exact Ev.now _
     | true =>
      simp only [↓reduceIte, Bool.true_and]
      refine Ev.bind (ev_impl_areCharges [c, d] (by simp)) ?_
      rw [allB_two]
      exact Ev.now _
   ·have h3 : ¬ (n.length ≤ 8 ∧ s.length = n.length) := by omega
    refine ev_eq (Ev.now _) ?_
    simp only [h3, decide_false, Bool.false_and]
  ·have h3 : ¬ (n.length ≤ 8 ∧ s.length = n.length) := by omega
   refine ev_eq (Ev.now _) ?_
   simp only [h3, decide_false, Bool.false_and]

theorem ev_impl_total_l0 (l : List Int) (hl : l.length ≤ 9223372036854775807) (d : Nat) : ∀ (i : Nat) (s : Int), i + d = l.length → wrap64 s = s → Ev (fun k => impl_total.l0 k s l (l.length : Int) (i : Int)) (wrap64 (s + (l.drop i).sum)) := by
 induction d with
 | zero =>
  intro i s hi hs
  refine ev_succ ?_
  have h1 : ¬ (i : Int) < (l.length : Int) := by omega
  simp only [impl_total.l0, h1, ↓reduceIte]
  rw [List.drop_eq_nil_of_le (by omega)]
  simp only [List.sum_nil, Int.add_zero, hs]
  exact Ev.now _
 | succ d ih =>
  intro i s hi hs
  refine ev_succ ?_
  have h1 : (i : Int) < (l.length : Int) := by omega
  have h0 : (0 : Int) ≤ (i : Int) := by omega
  have hi' : i < l.length := by omega
  simp only [impl_total.l0, h1, h0, ↓reduceIte, rd_nat hi', w64_nat hi' hl]
  refine ev_eq (ih (i + 1) _ (by omega) (w64_idem _)) ?_
  rw [drop_cons hi', List.sum_cons, w64_add_l, Int.add_assoc]
theorem ev_impl_total (l : List Int) (hl : l.length ≤ 9223372036854775807) : Ev (fun k => impl_total.f k l) (wrap64 l.sum) := by
 unfold impl_total.f
 simpa using ev_impl_total_l0 l hl l.length 0 0 (by omega) w64_zero

theorem ev_impl_used_l0 (m : List (List Int)) (M : Nat) (hM : M ≤ 8) (hm : m.length ≤ 8) (hr : ∀ i, i < m.length → (rd_L1 m (i : Int)).length = M) (d : Nat) : ∀ (i : Nat) (o : List Int), i + d = m.length → o.length = M → Ev (fun k => impl_used.l0 k o m (m.length : Int) (i : Int)) (usedFrom m d i o) := by
 induction d with
 | zero =>
  intro i o hi ho
  refine ev_succ ?_
  have h1 : ¬ (i : Int) < (m.length : Int) := by omega
  simp only [impl_used.l0, h1, ↓reduceIte, usedFrom]
  exact Ev.now _
 | succ d ih =>
  intro i o hi ho
  refine ev_succ ?_
  have hi' : i < m.length := by omega
  have h1 : (i : Int) < (m.length : Int) := by omega
  have h0 : (0 : Int) ≤ (i : Int) := by omega
  have hrl := hr i hi'
  have hin : ∀ dd : Nat, ∀ (j : Nat) (q : List Int), j + dd = M → q.length = M → Ev (fun k => impl_used.l1 k q m (m.length : Int) (i : Int) (rd_L1 m (i : Int)) ((rd_L1 m (i : Int)).length : Int) (j : Int)) (usedFrom m d (i + 1) (addFrom (rd_L1 m (i : Int)) dd j q)) := by
   intro dd
   induction dd with
   | zero =>
    intro j q hj hq
    refine ev_succ ?_
    have h2 : ¬ (j : Int) < ((rd_L1 m (i : Int)).length : Int) := by omega
    simp only [impl_used.l1, h2, ↓reduceIte, w64_nat hi' (by omega : m.length ≤ 9223372036854775807), addFrom]
    exact ih (i + 1) q (by omega) hq
   | succ dd ihd =>
    intro j q hj hq
    refine ev_succ ?_
    have hj' : j < (rd_L1 m (i : Int)).length := by omega
    have h2 : (j : Int) < ((rd_L1 m (i : Int)).length : Int) := by omega
    have h3 : (0 : Int) ≤ (j : Int) := by omega
    have h4 : (j : Int) < (q.length : Int) := by omega
    simp only [impl_used.l1, h2, h3, h4, ↓reduceIte, w64_nat hj' (by omega : (rd_L1 m (i : Int)).length ≤ 9223372036854775807), Int.toNat_natCast, addFrom]
    exact ihd (j + 1) _ (by omega) (by rw [List.length_set]; exact hq)
  simp only [impl_used.l0, h1, h0, ↓reduceIte, usedFrom]
  refine ev_eq (hin M 0 o (by omega) ho) ?_
  rw [ho]
theorem ev_impl_used (m : List (List Int)) (hm : m.length ≤ 8) (hr : ∀ i, i < m.length → (rd_L1 m (i : Int)).length = m.length) : Ev (fun k => impl_used.f k m (m.length : Int)) (usedV m) := by
 unfold impl_used.f usedV
 have h0 : (0 : Int) ≤ (m.length : Int) := by omega
 have h1 : m.length ≤ 35184372088832 := by omega
 have h2 : (m.length : Int) ≤ (m.length : Int) := by omega
 simp only [Int.toNat_natCast, h0, h1, h2, ↓reduceIte, List.take_length, Option.bind_some]
 exact ev_impl_used_l0 m m.length hm hm hr m.length 0 (List.replicate m.length 0) (by omega) (by simp)
theorem ev_impl_used_to (m : List (List Int)) (hm : m.length ≤ 8) (hr : ∀ i, i < m.length → (rd_L1 m (i : Int)).length = m.length) (n : Nat) (hn : n ≤ m.length) : Ev (fun k => impl_used.f k m (n : Int)) (usedFrom (m.take n) n 0 (List.replicate m.length 0)) := by
 unfold impl_used.f
 have h0 : (0 : Int) ≤ (m.length : Int) := by omega
 have h1 : m.length ≤ 35184372088832 := by omega
 have h2 : (n : Int) ≤ (m.length : Int) := by omega
 have h3 : (0 : Int) ≤ (n : Int) := by omega
 have h4 : (m.take n).length = n := by rw [List.length_take]; omega
 simp only [Int.toNat_natCast, h0, h1, h2, h3, ↓reduceIte, Option.bind_some]
 exact ev_impl_used_l0 (m.take n) m.length hm (by omega) (fun i hi => by rw [rdL_take (by omega)]; exact hr i (by omega)) n 0 (List.replicate m.length 0) (by omega) (by simp)
theorem usedTo_rd (m : List (List Int)) {n t : Nat} (h : t < m.length) : rd (usedFrom (m.take n) n 0 (List.replicate m.length 0)) (t : Int) = wrap64 (colFrom m t n 0) := by
 have e : rd (List.replicate m.length 0) (t : Int) = 0 := by
  rw [rd_nat (by simpa using h)]
  simp
 rw [usedFrom_rd _ t _ 0 _ (by simpa using h) (by rw [e]; exact w64_zero), e, Int.zero_add, colFrom_take m t n n 0 (by omega)]

theorem impl_Shelf_can_f (a : Int) (s n : List Int) (c e : Int) (i j : Nat) (ha : 1 ≤ a ∧ a ≤ 8) (hj : j ≤ 8) : impl_Shelf_can.f a s n c e (j : Int) (i : Int) = some (decide ((j : Int) ≤ (i : Int) ∧ (i : Int) < (j : Int) + a)) := by
 unfold impl_Shelf_can.f
 rw [w64 (x := (j : Int) + a) (by omega) (by omega), w64 (by omega) (by omega)]
 simp only [impl_within_f, Option.bind_some, inB]
 congr 1
 rw [decide_eq_decide]
 omega
theorem ev_impl_Shelf_isIssue_l2 (a : Int) (s n : List Int) (c e : Int) (u : List Int) (hu : u.length ≤ 8) (hl : s.length = u.length) (d : Nat) : ∀ j : Nat, j + d = u.length → Ev (fun k => impl_Shelf_isIssue.l2 k u (u.length : Int) (j : Int) a s n c e) (allFrom (fun j => !decide (rd u (j : Int) > rd s (j : Int))) d j) := by
 induction d with
 | zero =>
  intro j hj
  refine ev_succ ?_
  have h1 : ¬ (j : Int) < (u.length : Int) := by omega
  simp only [impl_Shelf_isIssue.l2, h1, ↓reduceIte]
  exact Ev.now _
 | succ d ih =>
  intro j hj
  refine ev_succ ?_
  have hj' : j < u.length := by omega
  have h1 : (j : Int) < (u.length : Int) := by omega
  have h0 : (0 : Int) ≤ (j : Int) := by omega
  have h2 : (j : Int) < (s.length : Int) := by omega
  simp only [impl_Shelf_isIssue.l2, h1, h0, h2, ↓reduceIte, w64_nat hj' (by omega : u.length ≤ 9223372036854775807)]
  rw [allFrom]
  refine ev_ite (fun h => ?_) (fun h => ?_)
  ·refine ev_eq (Ev.now _) ?_
   simp [h]
  ·refine ev_eq (ih (j + 1) (by omega)) ?_
   simp [h]
theorem ev_impl_Shelf_isIssue_rows (a : Int) (s n : List Int) (c e : Int) (m : List (List Int)) (ha : 1 ≤ a ∧ a ≤ 8) (hl : s.length = n.length) (hn : n.length ≤ 8) (he : m.length = n.length) (hrow : ∀ i, i < m.length → (rd_L1 m (i : Int)).length ≤ 9223372036854775807) (d : Nat) : ∀ i : Nat, i + d = m.length → (∀ t, t < i → (rd_L1 m (t : Int)).length = n.length) → Ev (fun k => impl_Shelf_isIssue.l0 k m m (m.length : Int) (i : Int) a s n c e) (allFrom (rowB a n m) d i && colsB s m n.length) := by
 induction d with
 | zero =>
  intro i hi hpre
  refine ev_succ ?_
  have h1 : ¬ (i : Int) < (m.length : Int) := by omega
  simp only [impl_Shelf_isIssue.l0, h1, ↓reduceIte]
  refine Ev.bind (ev_impl_used m (by omega) (fun t ht => by rw [hpre t (by omega), he])) ?_
  refine ev_eq (ev_impl_Shelf_isIssue_l2 a s n c e (usedV m) (by rw [usedV_length]; omega) (by rw [usedV_length]; omega) (usedV m).length 0 (by omega)) ?_
  rw [allFrom, Bool.true_and, colsB, usedV_length, he]
  refine allFrom_congr _ _ (fun j h2 h3 => ?_)
  rw [usedV_rd m (by omega)]
 | succ d ih =>
  intro i hi hpre
  have hi' : i < m.length := by omega
  have h1 : (i : Int) < (m.length : Int) := by omega
  have h2 : (i : Int) < (n.length : Int) := by omega
  have h0 : (0 : Int) ≤ (i : Int) := by omega
  have hl1 : ∀ dd : Nat, ∀ j : Nat, rowOk n m i = true → j + dd = n.length → Ev (fun k => impl_Shelf_isIssue.l1 k m (i : Int) m (m.length : Int) (i : Int) (rd_L1 m (i : Int)) ((rd_L1 m (i : Int)).length : Int) (j : Int) a s n c e) (allFrom (useB a (rd_L1 m (i : Int)) i) dd j && (allFrom (rowB a n m) d (i + 1) && colsB s m n.length)) := by
   intro dd
   induction dd with
   | zero =>
    intro j hok hj
    refine ev_succ ?_
    have hrl := rowOk_length hok
    have h3 : ¬ (j : Int) < ((rd_L1 m (i : Int)).length : Int) := by omega
    simp only [impl_Shelf_isIssue.l1, h3, ↓reduceIte, w64_nat hi' (by omega : m.length ≤ 9223372036854775807), allFrom, Bool.true_and]
    refine ih (i + 1) (by omega) (fun t ht => ?_)
    by_cases htt : t = i
    ·subst htt; exact hrl
    ·exact hpre t (by omega)
   | succ dd ihd =>
    intro j hok hj
    refine ev_succ ?_
    have hrl := rowOk_length hok
    have hj' : j < n.length := by omega
    have hj'' : j < (rd_L1 m (i : Int)).length := by omega
    have h4 : (0 : Int) ≤ (j : Int) := by omega
    have h5 : (j : Int) < ((rd_L1 m (i : Int)).length : Int) := by omega
    simp only [impl_Shelf_isIssue.l1, h4, h5, ↓reduceIte, w64_nat hj'' (by omega : (rd_L1 m (i : Int)).length ≤ 9223372036854775807), impl_Shelf_can_f a s n c e i j ha (by omega), Option.bind_some]
    rw [allFrom, useB]
    have hih := ihd (j + 1) hok (by omega)
    refine ev_ite (fun h => ?_) (fun h => ?_)
    ·refine ev_ite (fun h6 => ?_) (fun h6 => ?_)
     ·refine ev_eq hih ?_
      simp only [h6, Bool.or_true, Bool.true_and]
     ·refine ev_eq (Ev.now _) ?_
      simp only [h, h6, decide_true, Bool.not_true, Bool.or_self, Bool.false_and]
    ·refine ev_eq hih ?_
     simp only [h, decide_false, Bool.not_false, Bool.true_or, Bool.true_and]
  have hj1 : ∀ x : Bool, (x = !rowOk n m i) → Ev (fun k => impl_Shelf_isIssue.j1 k m (i : Int) (rd_L1 m (i : Int)) m (m.length : Int) (i : Int) x a s n c e) (allFrom (rowB a n m) (d + 1) i && colsB s m n.length) := by
   intro x hx
   refine ev_succ ?_
   rw [allFrom, rowB]
   cases hok : rowOk n m i with
   | false =>
    rw [hok] at hx
    subst hx
    simp only [impl_Shelf_isIssue.j1, Bool.not_false, ↓reduceIte, Bool.false_and]
    exact Ev.now _
   | true =>
    rw [hok] at hx
    subst hx
    simp only [impl_Shelf_isIssue.j1, Bool.not_true, Bool.false_eq_true, ↓reduceIte, Bool.true_and]
    refine ev_eq (hl1 n.length 0 hok (by omega)) ?_
    simp only [Bool.and_assoc]
  refine ev_succ ?_
  simp only [impl_Shelf_isIssue.l0, h1, h0, ↓reduceIte]
  refine ev_ite (fun h => ?_) (fun h => ?_)
  ·have h3 : (rd_L1 m (i : Int)).length = n.length := by omega
   refine Ev.bind (ev_impl_allWithin _ 0 20 (hrow i hi')) ?_
   refine ev_ite (fun h4 => ?_) (fun h4 => ?_)
   ·refine Ev.bind (ev_impl_total _ (hrow i hi')) ?_
    simp only [h2, ↓reduceIte]
    refine hj1 _ ?_
    simp only [rowOk, h3, h4, decide_true, Bool.true_and, Bool.not_not]
   ·refine hj1 _ ?_
    have h5 : allB (rd_L1 m (i : Int)) 0 20 = false := by simpa using h4
    simp only [rowOk, h5, Bool.false_and, Bool.and_false, Bool.not_false]
  ·refine hj1 _ ?_
   have h3 : ¬ (rd_L1 m (i : Int)).length = n.length := by omega
   simp only [rowOk, h3, decide_false, Bool.false_and, Bool.not_false]
theorem ev_impl_Shelf_isIssue (a : Int) (s n : List Int) (c e : Int) (m : List (List Int)) (hv : shelfB a s n c e = true) (hrow : ∀ i, i < m.length → (rd_L1 m (i : Int)).length ≤ 9223372036854775807) : Ev (fun k => impl_Shelf_isIssue.f k a s n c e m) (issueB a s n m) := by
 have h := shelfB_spec hv
 unfold impl_Shelf_isIssue.f issueB
 refine ev_ite (fun h1 => ?_) (fun h1 => ?_)
 ·have h2 : m.length = n.length := by omega
  refine ev_eq (ev_impl_Shelf_isIssue_rows a s n c e m h.1 h.2.2 h.2.1 h2 hrow m.length 0 (by omega) (fun t ht => absurd ht (by omega))) ?_
  rw [← h2, Nat.min_self, decide_eq_true rfl, Bool.true_and]
 ·have h2 : ¬ m.length = n.length := by omega
  refine ev_eq (Ev.now _) ?_
  simp only [h2, decide_false, Bool.false_and, Bool.and_false]

theorem ev_impl_isIssued (a : Int) (s n : List Int) (c e : Int) (m : List (List Int)) (hs : s.length ≤ 9223372036854775807) (hn : n.length ≤ 9223372036854775807) (hrow : ∀ i, i < m.length → (rd_L1 m (i : Int)).length ≤ 9223372036854775807) : Ev (fun k => impl_isIssued.f k a s n c e m) (bothB a s n c e m) := by
 unfold impl_isIssued.f bothB
 refine Ev.bind (ev_impl_IsShelf a s n c e hs hn) ?_
 cases hv : shelfB a s n c e with
 | false => simp only [Bool.false_eq_true, ↓reduceIte, Bool.false_and]; exact Ev.now _
 | true =>
  simp only [↓reduceIte, Bool.true_and]
  exact Ev.bind (ev_impl_Shelf_isIssue a s n c e m hv hrow) (Ev.now _)

theorem ev_impl_StockByAge_l0 (a : Int) (s n : List Int) (c e : Int) (m : List (List Int)) (ha : 1 ≤ a ∧ a ≤ 8) (hm : m.length ≤ 8) (hs : s.length = m.length) (u : List Int) (hu : u.length = m.length) (t : Nat) (ht : t < m.length) (hv : ∀ j, j < m.length → rd u (j : Int) = wrap64 (colFrom m j (t + 1) 0)) (d : Nat) : ∀ (i : Nat) (o : List Int), i + d = (a - 1).toNat → o.length = i → Ev (fun k => impl_StockByAge.l0 k (t : Int) o u (wrap64 (a - 1)) (i : Int) a s n c e) (o ++ mapFrom (stockAt s m t) d i, true) := by
 have ea : wrap64 (a - 1) = a - 1 := w64 (by omega) (by omega)
 induction d with
 | zero =>
  intro i o hi ho
  refine ev_succ ?_
  have h1 : ¬ (i : Int) < a - 1 := by omega
  simp only [impl_StockByAge.l0, ea, h1, ↓reduceIte, mapFrom, List.append_nil]
  exact Ev.now _
 | succ d ih =>
  intro i o hi ho
  refine ev_succ ?_
  have h1 : (i : Int) < a - 1 := by omega
  have h8 : i < 8 := by omega
  have h3 : o.length < 17592186044416 := by omega
  have ht8 : t < 8 := by omega
  have e3 : wrap64 ((i : Int) + 1) = ((i + 1 : Nat) : Int) := w64_nat h8 (by decide)
  have e1 : wrap64 ((t : Int) - (i : Int)) = (t : Int) - (i : Int) := by
   clear ih e3 hi ho ha
   exact w64 (by omega) (by omega)
  rw [ea] at ih
  simp only [impl_StockByAge.l0, ea, h1, e1, e3, h3, ↓reduceIte]
  clear e1 e3
  by_cases hc : t < i
  ·have h4 : ¬ (t : Int) - (i : Int) ≥ 0 := by omega
   simp only [h4, ↓reduceIte]
   refine ev_eq (ih (i + 1) _ (by omega) (by simp [ho])) ?_
   rw [mapFrom, List.append_assoc, stockAt, if_pos hc]
   rfl
  ·have h4 : (t : Int) - (i : Int) ≥ 0 := by omega
   have h5 : (0 : Int) ≤ (t : Int) - (i : Int) := by omega
   have h6 : (t : Int) - (i : Int) < (s.length : Int) := by omega
   have h7 : (t : Int) - (i : Int) < (u.length : Int) := by omega
   have e4 : (t : Int) - (i : Int) = ((t - i : Nat) : Int) := by omega
   simp only [h4, h5, h6, h7, ↓reduceIte]
   rw [e4, hv _ (by omega)]
   refine ev_eq (ih (i + 1) _ (by omega) (by simp [ho])) ?_
   rw [mapFrom, List.append_assoc, stockAt, if_neg hc]
   rfl
theorem ev_impl_StockByAge_j0_no (a : Int) (s n : List Int) (c e : Int) (m : List (List Int)) (t : Int) : Ev (fun k => impl_StockByAge.j0 k m t true a s n c e) ([], false) := by
 refine ev_succ ?_
 simp only [impl_StockByAge.j0, ↓reduceIte]
 exact Ev.now _
theorem ev_impl_StockByAge (a : Int) (s n : List Int) (c e : Int) (m : List (List Int)) (t : Int) (hs : s.length ≤ 9223372036854775807) (hn : n.length ≤ 9223372036854775807) (hrow : ∀ i, i < m.length → (rd_L1 m (i : Int)).length ≤ 9223372036854775807) : Ev (fun k => impl_StockByAge.f k a s n c e m t) (stockAgeV a s n c e m t) := by
 unfold impl_StockByAge.f stockAgeV
 simp only [Option.bind_some, impl_within_f]
 refine Ev.bind (ev_impl_isIssued a s n c e m hs hn hrow) ?_
 refine ev_ite (fun h => ?_) (fun h => ?_)
 ·obtain ⟨h1, h2, h3, h4⟩ := bothB_spec h
  have ha : 1 ≤ a ∧ a ≤ 8 := by
   have h5 := h
   unfold bothB at h5
   rw [Bool.and_eq_true] at h5
   exact (shelfB_spec h5.1).1
  rw [w64 (x := (n.length : Int) - 1) (by omega) (by omega), h, Bool.true_and, h2]
  cases hi : inB t 0 ((m.length : Int) - 1) with
  | true =>
   obtain ⟨t0, t1⟩ := inB_iff.1 hi
   rw [if_pos rfl]
   refine ev_succ ?_
   simp only [impl_StockByAge.j0, Bool.not_true, Bool.false_eq_true, ↓reduceIte]
   have et : t = ((t.toNat : Nat) : Int) := by omega
   generalize t.toNat = q at et
   subst et
   have e2 : wrap64 ((q : Int) + 1) = ((q + 1 : Nat) : Int) := w64_nat (n := m.length) (by omega) (by omega)
   rw [e2]
   refine Ev.bind (ev_impl_used_to m h3 h4 (q + 1) (by omega)) ?_
   exact ev_impl_StockByAge_l0 a s n c e m ha h3 h1 _ (by rw [usedFrom_length, List.length_replicate]) q (by omega) (fun j hj => usedTo_rd m hj) (a - 1).toNat 0 [] (by omega) rfl
  | false => exact ev_impl_StockByAge_j0_no _ _ _ _ _ _ _
 ·rw [Bool.not_eq_true] at h
  rw [h, Bool.false_and]
  exact ev_impl_StockByAge_j0_no _ _ _ _ _ _ _

theorem cmp_Compare_int_f (a b : Int) : cmp_Compare_int.f a b = some (if a < b then -1 else if a > b then 1 else 0) := by
 unfold cmp_Compare_int.f cmp_isNaN_int.f
 simp only [Option.bind_some, bne_self_eq_false, Bool.false_eq_true, if_false]
 by_cases h : a < b
 ·simp only [if_pos h]
 ·simp only [if_neg h]
  by_cases h2 : a > b
  ·simp only [if_pos h2]
  ·simp only [if_neg h2]

def fI (F : List Int → Option Int) : List (List Int) → List Int × Int → List Int × Int
 | [], r => r
 | s :: t, r => fI F t (match F s with
  | some c => if c < r.2 then (s, c) else r
  | none => r)
def fS (F : List Int → Option Int) : List (List Int) → List Int × Int → List Int × Int
 | [], r => r
 | s :: t, r => fS F t (match F s with
  | some c => if r.2 < 0 ∨ c < r.2 ∨ c = r.2 ∧ slices_SortFunc_int_int.cmpL s r.1 < 0 then (s, c) else r
  | none => r)
theorem fI_spec (F : List Int → Option Int) : ∀ (l : List (List Int)) (r : List Int × Int), l.Pairwise (fun a b => ¬ slices_SortFunc_int_int.cmpL b a < 0) →
  (fI F l r = r ∧ ∀ s ∈ l, ∀ c, F s = some c → r.2 ≤ c) ∨ ((fI F l r).1 ∈ l ∧ F (fI F l r).1 = some (fI F l r).2 ∧ (fI F l r).2 < r.2 ∧ ∀ s ∈ l, ∀ c, F s = some c → (fI F l r).2 < c ∨ ((fI F l r).2 = c ∧ ¬ slices_SortFunc_int_int.cmpL s (fI F l r).1 < 0))
 | [], r, _ => Or.inl ⟨rfl, fun s hs => by simp at hs⟩
 | s :: t, r, h => by
  have h2 := List.pairwise_cons.1 h
  rw [fI]
  cases hF : F s with
  | none =>
   rcases fI_spec F t r h2.2 with ⟨a, b⟩ | ⟨a, b, c, d⟩
   ·refine Or.inl ⟨a, fun x hx c hc => ?_⟩
    rcases List.mem_cons.1 hx with hx | hx
    ·rw [hx, hF] at hc; cases hc
    ·exact b x hx c hc
   ·refine Or.inr ⟨List.mem_cons_of_mem _ a, b, c, fun x hx c hc => ?_⟩
    rcases List.mem_cons.1 hx with hx | hx
    ·rw [hx, hF] at hc; cases hc
    ·exact d x hx c hc
  | some c0 =>
   dsimp only
   by_cases hc0 : c0 < r.2
   ·rw [if_pos hc0]
    rcases fI_spec F t (s, c0) h2.2 with ⟨a, b⟩ | ⟨a, b, c, d⟩
    ·rw [a]
     refine Or.inr ⟨List.mem_cons_self .., hF, hc0, fun x hx c hc => ?_⟩
     rcases List.mem_cons.1 hx with hx | hx
     ·rw [hx, hF] at hc
      injection hc with hc
      refine Or.inr ⟨hc, ?_⟩
      rw [hx, slices_SortFunc_int_int.cmpL_refl]
      omega
     ·have := b x hx c hc
      dsimp only at this
      by_cases he : c0 = c
      ·exact Or.inr ⟨he, h2.1 x hx⟩
      ·exact Or.inl (by dsimp only; omega)
    ·refine Or.inr ⟨List.mem_cons_of_mem _ a, b, by dsimp only at c; omega, fun x hx c1 hc => ?_⟩
     rcases List.mem_cons.1 hx with hx | hx
     ·rw [hx, hF] at hc
      injection hc with hc
      dsimp only at c
      exact Or.inl (by omega)
     ·exact d x hx c1 hc
   ·rw [if_neg hc0]
    rcases fI_spec F t r h2.2 with ⟨a, b⟩ | ⟨a, b, c, d⟩
    ·refine Or.inl ⟨a, fun x hx c hc => ?_⟩
     rcases List.mem_cons.1 hx with hx | hx
     ·rw [hx, hF] at hc
      injection hc with hc
      omega
     ·exact b x hx c hc
    ·refine Or.inr ⟨List.mem_cons_of_mem _ a, b, c, fun x hx c1 hc => ?_⟩
     rcases List.mem_cons.1 hx with hx | hx
     ·rw [hx, hF] at hc
      injection hc with hc
      exact Or.inl (by omega)
     ·exact d x hx c1 hc
theorem fS_spec (F : List Int → Option Int) (hnn : ∀ s c, F s = some c → 0 ≤ c) : ∀ (l : List (List Int)) (r : List Int × Int),
  (fS F l r = r ∧ ∀ s ∈ l, ∀ c, F s = some c → 0 ≤ r.2 ∧ (r.2 < c ∨ (r.2 = c ∧ ¬ slices_SortFunc_int_int.cmpL s r.1 < 0))) ∨ ((fS F l r).1 ∈ l ∧ F (fS F l r).1 = some (fS F l r).2 ∧ (r.2 < 0 ∨ (fS F l r).2 < r.2 ∨ ((fS F l r).2 = r.2 ∧ slices_SortFunc_int_int.cmpL (fS F l r).1 r.1 < 0)) ∧ ∀ s ∈ l, ∀ c, F s = some c → (fS F l r).2 < c ∨ ((fS F l r).2 = c ∧ ¬ slices_SortFunc_int_int.cmpL s (fS F l r).1 < 0))
 | [], r => Or.inl ⟨rfl, fun s hs => by simp at hs⟩
 | s :: t, r => by
  rw [fS]
  cases hF : F s with
  | none =>
   rcases fS_spec F hnn t r with ⟨a, b⟩ | ⟨a, b, c, d⟩
   ·refine Or.inl ⟨a, fun x hx c hc => ?_⟩
    rcases List.mem_cons.1 hx with hx | hx
    ·rw [hx, hF] at hc; cases hc
    ·exact b x hx c hc
   ·refine Or.inr ⟨List.mem_cons_of_mem _ a, b, c, fun x hx c hc => ?_⟩
    rcases List.mem_cons.1 hx with hx | hx
    ·rw [hx, hF] at hc; cases hc
    ·exact d x hx c hc
  | some c0 =>
   have hp := hnn s c0 hF
   dsimp only
   by_cases hc0 : r.2 < 0 ∨ c0 < r.2 ∨ c0 = r.2 ∧ slices_SortFunc_int_int.cmpL s r.1 < 0
   ·rw [if_pos hc0]
    rcases fS_spec F hnn t (s, c0) with ⟨a, b⟩ | ⟨a, b, c, d⟩
    ·rw [a]
     refine Or.inr ⟨List.mem_cons_self .., hF, hc0, fun x hx c hc => ?_⟩
     rcases List.mem_cons.1 hx with hx | hx
     ·rw [hx, hF] at hc
      injection hc with hc
      refine Or.inr ⟨hc, ?_⟩
      rw [hx, slices_SortFunc_int_int.cmpL_refl]
      omega
     ·exact (b x hx c hc).2
    ·dsimp only at c
     refine Or.inr ⟨List.mem_cons_of_mem _ a, b, ?_, fun x hx c1 hc => ?_⟩
     ·rcases c with c | c | c
      ·omega
      ·rcases hc0 with g | g | g
       ·exact Or.inl g
       ·exact Or.inr (Or.inl (by omega))
       ·exact Or.inr (Or.inl (by omega))
      ·rcases hc0 with g | g | g
       ·exact Or.inl g
       ·exact Or.inr (Or.inl (by omega))
       ·exact Or.inr (Or.inr ⟨by omega, slices_SortFunc_int_int.cmpL_trans c.2 g.2⟩)
     ·rcases List.mem_cons.1 hx with hx | hx
      ·rw [hx, hF] at hc
       injection hc with hc
       rcases c with c | c | c
       ·omega
       ·exact Or.inl (by omega)
       ·refine Or.inr ⟨by omega, ?_⟩
        rw [hx]
        have := slices_SortFunc_int_int.cmpL_neg s (fS F t (s, c0)).1
        omega
      ·exact d x hx c1 hc
   ·rw [if_neg hc0]
    have g1 : ¬ r.2 < 0 := fun g => hc0 (Or.inl g)
    have g2 : ¬ c0 < r.2 := fun g => hc0 (Or.inr (Or.inl g))
    have g3 : c0 = r.2 → ¬ slices_SortFunc_int_int.cmpL s r.1 < 0 := fun e g => hc0 (Or.inr (Or.inr ⟨e, g⟩))
    rcases fS_spec F hnn t r with ⟨a, b⟩ | ⟨a, b, c, d⟩
    ·refine Or.inl ⟨a, fun x hx c hc => ?_⟩
     rcases List.mem_cons.1 hx with hx | hx
     ·rw [hx, hF] at hc
      injection hc with hc
      rw [hx]
      by_cases he : c0 = r.2
      ·exact ⟨by omega, Or.inr ⟨by omega, g3 he⟩⟩
      ·exact ⟨by omega, Or.inl (by omega)⟩
     ·exact b x hx c hc
    ·refine Or.inr ⟨List.mem_cons_of_mem _ a, b, c, fun x hx c1 hc => ?_⟩
     rcases List.mem_cons.1 hx with hx | hx
     ·rw [hx, hF] at hc
      injection hc with hc
      rw [hx]
      rcases c with c | c | c
      ·exact absurd c g1
      ·exact Or.inl (by omega)
      ·by_cases he : c0 = r.2
       ·refine Or.inr ⟨by omega, fun g => ?_⟩
        exact g3 he (slices_SortFunc_int_int.cmpL_trans g c.2)
       ·exact Or.inl (by omega)
     ·exact d x hx c1 hc
theorem merge_sorted (l : List (List Int)) : (l.mergeSort slices_SortFunc_int_int.le).Pairwise (fun a b => ¬ slices_SortFunc_int_int.cmpL b a < 0) := by
 have h := List.pairwise_mergeSort (le := slices_SortFunc_int_int.le) (fun a b c h1 h2 => ?_) (fun a b => ?_) l
 ·refine h.imp (fun hab => ?_)
  unfold slices_SortFunc_int_int.le at hab
  simpa using hab
 ·unfold slices_SortFunc_int_int.le at h1 h2 ⊢
  simp only [Bool.not_eq_true', decide_eq_false_iff_not] at h1 h2 ⊢
  exact slices_SortFunc_int_int.cmpL_ntrans h2 h1
 ·unfold slices_SortFunc_int_int.le
  have := slices_SortFunc_int_int.cmpL_neg a b
  by_cases h1 : slices_SortFunc_int_int.cmpL b a < 0
  ·have h2 : ¬ slices_SortFunc_int_int.cmpL a b < 0 := by omega
   simp [h2]
  ·simp [h1]

theorem ev_slices_Compare_l0 (a b : List Int) (hab : a.length = b.length) (ha : a.length ≤ 9223372036854775807) (d : Nat) : ∀ i : Nat, i + d = a.length → Ev (fun k => slices_Compare_int_int.l0 k a b a (a.length : Int) (i : Int)) (slices_SortFunc_int_int.lexC (a.drop i) (b.drop i)) := by
 induction d with
 | zero =>
  intro i hi
  refine ev_succ ?_
  have c1 : ¬ (i : Int) < (a.length : Int) := by omega
  have c2 : ¬ (a.length : Int) < (b.length : Int) := by omega
  simp only [slices_Compare_int_int.l0, c1, c2, ↓reduceIte]
  rw [List.drop_eq_nil_of_le (by omega), List.drop_eq_nil_of_le (by omega)]
  exact Ev.now _
 | succ d ih =>
  intro i hi
  refine ev_succ ?_
  have hi' : i < a.length := by omega
  have hj' : i < b.length := by omega
  have c1 : (i : Int) < (a.length : Int) := by omega
  have c2 : (0 : Int) ≤ (i : Int) := by omega
  have c3 : ¬ (i : Int) ≥ (b.length : Int) := by omega
  have c4 : (i : Int) < (b.length : Int) := by omega
  simp only [slices_Compare_int_int.l0, c1, c2, c3, c4, ↓reduceIte, rd_nat hi', rd_nat hj', w64_nat hi' ha, cmp_Compare_int_f, Option.bind_some]
  rw [drop_cons hi', drop_cons hj', slices_SortFunc_int_int.lexC]
  by_cases h : a[i] < b[i]
  ·simp only [if_pos h]; exact Ev.now _
  ·by_cases h2 : a[i] > b[i]
   ·simp only [if_neg h, if_pos h2]; exact Ev.now _
   ·simp only [if_neg h, if_neg h2, if_true]
    exact ih (i + 1) (by omega)
theorem ev_slices_Compare (a b : List Int) (hab : a.length = b.length) (ha : a.length ≤ 9223372036854775807) : Ev (fun k => slices_Compare_int_int.f k a b) (slices_SortFunc_int_int.lexC a b) := by
 unfold slices_Compare_int_int.f
 simpa using ev_slices_Compare_l0 a b hab ha a.length 0 (by omega)

theorem ev_impl_sets_1 (a b : List Int) (ha : a.length ≤ 4611686018427387904) (hb : b.length ≤ 4611686018427387904) : Ev (fun k => impl_sets_1.f k a b) (slices_SortFunc_int_int.cmpL a b) := by
 unfold impl_sets_1.f slices_SortFunc_int_int.cmpL
 refine ev_ite (fun h => ?_) (fun h => ?_)
 ·rw [if_pos (by omega)]
  exact Ev.bind (ev_slices_Compare a b (by omega) (by omega)) (Ev.now _)
 ·rw [if_neg (by omega), w64 (by omega) (by omega)]
  exact Ev.now _

theorem bits_one (n : Nat) (h : n < 9223372036854775808) : Go.bits .and .i64 (n : Int) 1 = ((n % 2 : Nat) : Int) := by
 have h1 : (BitVec.ofInt 64 (n : Int)).toNat = n := by
  rw [BitVec.ofInt_natCast, BitVec.toNat_ofNat]; exact Nat.mod_eq_of_lt (by omega)
 show IntKind.i64.wrap ((BitVec.ofInt 64 (n : Int) &&& BitVec.ofInt 64 1).toNat : Int) = _
 rw [BitVec.toNat_and, h1, show (BitVec.ofInt 64 1).toNat = 1 from rfl, Nat.and_one_is_mod, i64_w, w64 (by omega) (by omega)]
theorem bit_test (c i : Nat) (hc : c < 256) (hi : i ≤ 8) : (Go.bits .and .i64 (shr .i64 (c : Int) (i : Int)) 1 = 1) ↔ c.testBit i = true := by
 have h1 : shr .i64 (c : Int) (i : Int) = ((c / 2 ^ i : Nat) : Int) := by
  unfold shr
  rw [Int.toNat_natCast, Nat.min_eq_left (by show i ≤ 64; omega)]
  simp
 have h2 : c / 2 ^ i ≤ c := Nat.div_le_self _ _
 rw [h1, bits_one _ (by omega), Nat.testBit_eq_decide_div_mod_eq]
 simp only [decide_eq_true_eq]
 omega
def bitsV (c : Nat) : Nat → Nat → List Int
 | 0, _ => []
 | d + 1, i => if c.testBit i = true then (i : Int) :: bitsV c d (i + 1) else bitsV c d (i + 1)
theorem bitsV_mem {c : Nat} {x : Int} : ∀ (d i : Nat), x ∈ bitsV c d i ↔ ∃ j : Nat, i ≤ j ∧ j < i + d ∧ c.testBit j = true ∧ x = (j : Int)
 | 0, i => by
  simp only [bitsV, List.not_mem_nil, false_iff]
  rintro ⟨j, h1, h2, _⟩
  omega
 | d + 1, i => by
  rw [bitsV]
  have ih := bitsV_mem (c := c) (x := x) d (i + 1)
  constructor
  ·intro h
   by_cases hb : c.testBit i = true
   ·rw [if_pos hb] at h
    rcases List.mem_cons.1 h with h | h
    ·exact ⟨i, Nat.le_refl _, by omega, hb, h⟩
    ·obtain ⟨j, a, b, e⟩ := ih.1 h
     exact ⟨j, by omega, by omega, e⟩
   ·rw [if_neg hb] at h
    obtain ⟨j, a, b, e⟩ := ih.1 h
    exact ⟨j, by omega, by omega, e⟩
  ·rintro ⟨j, a, b, e, hx⟩
   by_cases hj : j = i
   ·subst hj
    rw [if_pos e, hx]
    exact List.mem_cons_self ..
   ·have h2 := ih.2 ⟨j, by omega, by omega, e, hx⟩
    by_cases hb : c.testBit i = true
    ·rw [if_pos hb]; exact List.mem_cons_of_mem _ h2
    ·rw [if_neg hb]; exact h2
theorem bitsV_len (c : Nat) : ∀ d i : Nat, (bitsV c d i).length ≤ d
 | 0, i => Nat.le_refl _
 | d + 1, i => by
  rw [bitsV]
  have := bitsV_len c d (i + 1)
  by_cases hb : c.testBit i = true
  ·rw [if_pos hb, List.length_cons]; omega
  ·rw [if_neg hb]; omega
def setsV (n : Nat) : List (List Int) := (List.range (2 ^ n)).map fun c => bitsV c n 0
theorem setsV_len (n : Nat) : (setsV n).length = 2 ^ n := by unfold setsV; simp
theorem bitsV_inj {n c e : Nat} (hc : c < 2 ^ n) (he : e < 2 ^ n) (h : bitsV c n 0 = bitsV e n 0) : c = e := by
 refine Nat.eq_of_testBit_eq (fun i => ?_)
 by_cases hi : i < n
 ·have h1 := bitsV_mem (c := c) (x := (i : Int)) n 0
  have h2 := bitsV_mem (c := e) (x := (i : Int)) n 0
  rw [h] at h1
  have h3 := h1.symm.trans h2
  rw [Bool.eq_iff_iff]
  constructor
  ·intro g
   obtain ⟨j, _, _, a, b⟩ := h3.1 ⟨i, by omega, by omega, g, rfl⟩
   rw [show i = j by omega]; exact a
  ·intro g
   obtain ⟨j, _, _, a, b⟩ := h3.2 ⟨i, by omega, by omega, g, rfl⟩
   rw [show i = j by omega]; exact a
 ·have hp : 2 ^ n ≤ 2 ^ i := Nat.pow_le_pow_right (by omega) (by omega)
  rw [Nat.testBit_lt_two_pow (by omega), Nat.testBit_lt_two_pow (by omega)]
theorem setsV_nodup (n : Nat) : (setsV n).Nodup := by
 unfold setsV
 refine List.pairwise_map.2 (List.Pairwise.imp_of_mem (fun ha hb hne e => hne ?_) List.nodup_range)
 exact bitsV_inj (List.mem_range.1 ha) (List.mem_range.1 hb) e
theorem setsV_mem {n : Nat} {s : List Int} (h : s ∈ setsV n) : s.length ≤ n ∧ ∀ x ∈ s, 0 ≤ x ∧ x < (n : Int) := by
 unfold setsV at h
 obtain ⟨c, _, rfl⟩ := List.mem_map.1 h
 refine ⟨bitsV_len c n 0, fun x hx => ?_⟩
 obtain ⟨j, _, h2, _, rfl⟩ := (bitsV_mem n 0).1 hx
 omega
theorem pow8 {n : Nat} (h : n ≤ 8) : 1 ≤ 2 ^ n ∧ 2 ^ n ≤ 256 := ⟨Nat.pow_pos (by omega), (Nat.pow_le_pow_right (by omega) h : 2 ^ n ≤ 2 ^ 8)⟩
theorem shl_pow {n : Nat} (h : n ≤ 8) : shl .i64 1 (n : Int) = ((2 ^ n : Nat) : Int) := by
 have := pow8 h
 unfold shl
 rw [Int.toNat_natCast, Nat.min_eq_left (by show n ≤ 64; omega), Int.one_mul, i64_w]
 have e : (2 : Int) ^ n = ((2 ^ n : Nat) : Int) := by simp
 rw [e, w64 (by omega) (by omega)]
theorem setsV_get {n c : Nat} (h : c < (setsV n).length) : (setsV n)[c] = bitsV c n 0 := by
 have hc : c < 2 ^ n := by rw [← setsV_len n]; exact h
 have e : (setsV n)[c]? = some (bitsV c n 0) := by unfold setsV; rw [List.getElem?_map, List.getElem?_range hc]; rfl
 exact Option.some.inj ((List.getElem?_eq_getElem h).symm.trans e)

theorem ev_all {α β : Type} {f : α → Nat → Option β} {v : α → β} : ∀ (l : List α), (∀ a ∈ l, Ev (f a) (v a)) → ∃ K, ∀ k, K ≤ k → ∀ a ∈ l, f a k = some (v a)
 | [], _ => ⟨0, fun _ _ a ha => by simp at ha⟩
 | a :: l, h => by
  obtain ⟨K1, h1⟩ := h a (List.mem_cons_self ..)
  obtain ⟨K2, h2⟩ := ev_all l (fun x hx => h x (List.mem_cons_of_mem _ hx))
  refine ⟨max K1 K2, fun k hk x hx => ?_⟩
  rcases List.mem_cons.1 hx with e | hx
  ·rw [e]; exact h1 k (by omega)
  ·exact h2 k (by omega) x hx
theorem ev_sort (n : Nat) (hn : n ≤ 8) : Ev (fun k => slices_SortFunc_int_int.f k (setsV n) 103) ((setsV n).mergeSort slices_SortFunc_int_int.le) := by
 have hp := pow8 hn
 have hlen := setsV_len n
 obtain ⟨K, hK⟩ := ev_all (f := fun (p : List Int × List Int) k => impl_sets_1.f k p.1 p.2) (v := fun p => slices_SortFunc_int_int.cmpL p.1 p.2) ((setsV n).flatMap fun a => (setsV n).map fun b => (a, b)) (fun p hm => by
  obtain ⟨a, ha, hm⟩ := List.mem_flatMap.1 hm
  obtain ⟨b, hb, rfl⟩ := List.mem_map.1 hm
  have h1 := (setsV_mem ha).1
  have h2 := (setsV_mem hb).1
  exact ev_impl_sets_1 a b (by omega) (by omega))
 refine ⟨K, fun k hk => ?_⟩
 unfold slices_SortFunc_int_int.f
 refine if_pos ?_
 refine ⟨rfl, by omega, by omega, setsV_nodup n, fun a ha b hb => ?_⟩
 exact hK k hk (a, b) (List.mem_flatMap.2 ⟨a, ha, List.mem_map.2 ⟨b, hb, rfl⟩⟩)
theorem setsV_take {n c : Nat} (h : c < (setsV n).length) : (setsV n).take (c + 1) = (setsV n).take c ++ [bitsV c n 0] := by
 rw [List.take_succ_eq_append_getElem h, setsV_get h]
theorem ev_impl_sets_l1 (n c : Nat) (hn : n ≤ 8) (hc : c < 2 ^ n) (acc : List (List Int)) {r : List (List Int)} (ha : acc.length ≤ 256) (hK : Ev (fun k => impl_sets.l0 k (n : Int) (acc ++ [bitsV c n 0]) ((2 ^ n : Nat) : Int) ((c + 1 : Nat) : Int)) r) (d : Nat) : ∀ (i : Nat) (o : List Int), i + d = n → o.length ≤ i → o ++ bitsV c d i = bitsV c n 0 → Ev (fun k => impl_sets.l1 k (n : Int) acc (c : Int) o ((2 ^ n : Nat) : Int) (c : Int) (n : Int) (i : Int)) r := by
 have hp := pow8 hn
 induction d with
 | zero =>
  intro i o hi ho he
  refine ev_succ ?_
  have c1 : ¬ (i : Int) < (n : Int) := by omega
  have c2 : acc.length < 5864062014805 := by omega
  simp only [impl_sets.l1, c1, c2, ↓reduceIte, w64_nat hc (show 2 ^ n ≤ 9223372036854775807 by omega)]
  rw [bitsV, List.append_nil] at he
  rw [he]
  exact hK
 | succ d ih =>
  intro i o hi ho he
  refine ev_succ ?_
  have c1 : (i : Int) < (n : Int) := by omega
  have c2 : (0 : Int) ≤ (i : Int) := by omega
  have c3 : o.length < 17592186044416 := by omega
  have hb := bit_test c i (by omega) (by omega)
  have hw := w64_nat (show i < n by omega) (show n ≤ 9223372036854775807 by omega)
  simp only [impl_sets.l1, c1, c2, c3, ↓reduceIte, hw]
  rw [bitsV] at he
  by_cases h : c.testBit i = true
  ·rw [if_pos h] at he
   simp only [if_pos (hb.2 h)]
   refine ih (i + 1) _ (by omega) (by rw [List.length_append, List.length_singleton]; omega) ?_
   rw [List.append_assoc]
   exact he
  ·rw [if_neg h] at he
   simp only [if_neg (fun q => h (hb.1 q))]
   exact ih (i + 1) _ (by omega) (by omega) he
theorem ev_impl_sets_l0 (n : Nat) (hn : n ≤ 8) (d : Nat) : ∀ c : Nat, c + d = 2 ^ n → Ev (fun k => impl_sets.l0 k (n : Int) ((setsV n).take c) ((2 ^ n : Nat) : Int) (c : Int)) ((setsV n).mergeSort slices_SortFunc_int_int.le) := by
 have hp := pow8 hn
 have hlen := setsV_len n
 induction d with
 | zero =>
  intro c hc
  refine ev_succ ?_
  have c1 : ¬ (c : Int) < ((2 ^ n : Nat) : Int) := by omega
  simp only [impl_sets.l0, c1, ↓reduceIte]
  rw [List.take_of_length_le (by omega)]
  exact Ev.bind (ev_sort n hn) (Ev.now _)
 | succ d ih =>
  intro c hc
  refine ev_succ ?_
  have c1 : (c : Int) < ((2 ^ n : Nat) : Int) := by omega
  simp only [impl_sets.l0, c1, ↓reduceIte]
  have h2 := ih (c + 1) (by omega)
  rw [setsV_take (by omega)] at h2
  simpa using ev_impl_sets_l1 n c hn (by omega) _ (by rw [List.length_take]; omega) h2 n 0 [] (by omega) (Nat.le_refl _) rfl
theorem ev_impl_sets (n : Nat) (hn : n ≤ 8) : Ev (fun k => impl_sets.f k (n : Int)) ((setsV n).mergeSort slices_SortFunc_int_int.le) := by
 unfold impl_sets.f
 simp only [if_pos (show (0 : Int) ≤ (n : Int) by omega), shl_pow hn]
 simpa using ev_impl_sets_l0 n hn (2 ^ n) 0 (by omega)

def useX (a j x : Int) : Bool := decide (j ≤ x ∧ x < j + a)
def bS (N : List Int) : List Int → Int → Int
 | [], v => v
 | x :: t, v => bS N t (v + rd N x)
def bW (a : Int) (s : List Int) : List Int → Nat → Int → Int
 | [], _, v => v
 | y :: t, j, v => bW a s t (j + 1) (if s.any (useX a (j : Int)) = true then v - y else v)
def boundV (a : Int) (A N s : List Int) : Int := bW a s A 0 (bS N s 0)
theorem bS_in {N : List Int} (hN : ∀ y ∈ N, 0 ≤ y ∧ y ≤ 20) : ∀ (s : List Int) (v : Int), (∀ x ∈ s, 0 ≤ x ∧ x < (N.length : Int)) → v ≤ bS N s v ∧ bS N s v ≤ v + 20 * (s.length : Int)
 | [], v, _ => by simp [bS]
 | x :: t, v, h => by
  have h1 := h x (List.mem_cons_self ..)
  obtain ⟨i, rfl⟩ : ∃ i : Nat, x = (i : Int) := ⟨x.toNat, by omega⟩
  have hi : i < N.length := by omega
  have h2 := hN _ (List.getElem_mem hi)
  have ih := bS_in hN t (v + rd N (i : Int)) (fun y hy => h y (List.mem_cons_of_mem _ hy))
  rw [bS, List.length_cons]
  rw [rd_nat hi] at ih ⊢
  omega
theorem bW_in {a : Int} {s : List Int} : ∀ (A : List Int) (j : Nat) (v : Int), (∀ y ∈ A, 0 ≤ y ∧ y ≤ 20) → bW a s A j v ≤ v ∧ v - 20 * (A.length : Int) ≤ bW a s A j v
 | [], j, v, _ => by simp [bW]
 | y :: t, j, v, h => by
  have h1 := h y (List.mem_cons_self ..)
  have ih := bW_in (a := a) (s := s) t (j + 1) (if s.any (useX a (j : Int)) = true then v - y else v) (fun y hy => h y (List.mem_cons_of_mem _ hy))
  rw [bW, List.length_cons]
  by_cases q : s.any (useX a (j : Int)) = true
  ·rw [if_pos q] at ih ⊢; omega
  ·rw [if_neg q] at ih ⊢; omega
theorem bW_nil {a : Int} : ∀ (A : List Int) (j : Nat) (v : Int), bW a [] A j v = v
 | [], _, _ => rfl
 | y :: t, j, v => by
  rw [bW, if_neg (by simp)]
  exact bW_nil (a := a) t (j + 1) v
theorem boundV_nil (a : Int) (A N : List Int) : boundV a A N [] = 0 := bW_nil A 0 _
theorem shelfB_all {a : Int} {s n : List Int} {c d : Int} (h : shelfB a s n c d = true) : (∀ y ∈ s, 0 ≤ y ∧ y ≤ 20) ∧ (∀ y ∈ n, 0 ≤ y ∧ y ≤ 20) := by
 unfold shelfB at h
 simp only [Bool.and_eq_true] at h
 exact ⟨allB_mem h.2.2.1, allB_mem h.2.2.2.1⟩
def setN (N s : List Int) : Prop := s.length ≤ N.length ∧ ∀ x ∈ s, 0 ≤ x ∧ x < (N.length : Int)
theorem boundV_in {a : Int} {A N : List Int} {c d : Int} (h : shelfB a A N c d = true) {s : List Int} (hs : setN N s) : -160 ≤ boundV a A N s ∧ boundV a A N s ≤ 160 := by
 have h1 := shelfB_spec h
 have h2 := shelfB_all h
 have h3 := bS_in h2.2 s 0 hs.2
 have h4 := bW_in (a := a) (s := s) A 0 (bS N s 0) h2.1
 have h5 := hs.1
 unfold boundV
 omega
theorem setsV_setN {N s : List Int} (h : s ∈ setsV N.length) : setN N s := ⟨(setsV_mem h).1, (setsV_mem h).2⟩
def costF (a : Int) (A N : List Int) (s : List Int) : Option Int := if s ∈ setsV N.length then some (200 - boundV a A N s) else none
theorem costF_in {a : Int} {A N : List Int} {s : List Int} (h : s ∈ setsV N.length) : costF a A N s = some (200 - boundV a A N s) := if_pos h
theorem costF_nn {a : Int} {A N : List Int} {c d : Int} (h : shelfB a A N c d = true) (s : List Int) (v : Int) (hv : costF a A N s = some v) : 0 ≤ v := by
 unfold costF at hv
 by_cases hm : s ∈ setsV N.length
 ·rw [if_pos hm] at hv
  injection hv with hv
  have := boundV_in h (setsV_setN hm)
  omega
 ·rw [if_neg hm] at hv; cases hv
theorem setsV_head (n : Nat) : ∃ t, setsV n = [] :: t ∧ (setsV n).drop 1 = t := by
 have hp : 0 < 2 ^ n := Nat.pow_pos (by omega)
 have hb : ∀ d i, bitsV 0 d i = [] := by
  intro d
  induction d with
  | zero => intro i; rfl
  | succ d ih => intro i; rw [bitsV, if_neg (by simp), ih]
 cases h : setsV n with
 | nil => have := setsV_len n; rw [h] at this; simp at this; omega
 | cons x t =>
  have h0 : 0 < (setsV n).length := by rw [h]; simp
  have e := setsV_get h0
  simp only [h, List.getElem_cons_zero] at e
  rw [hb] at e
  subst e
  exact ⟨t, rfl, rfl⟩
theorem cmpL_nil (s : List Int) : ¬ slices_SortFunc_int_int.cmpL s [] < 0 := by
 unfold slices_SortFunc_int_int.cmpL
 cases s with
 | nil => simp [slices_SortFunc_int_int.lexC]
 | cons x t => rw [if_neg (by simp), List.length_cons, List.length_nil]; omega
theorem best_most {F : List Int → Option Int} {T L : List (List Int)} {m : Int} (hp : L.Perm ([] :: T)) (hs : L.Pairwise (fun a b => ¬ slices_SortFunc_int_int.cmpL b a < 0)) (h0 : F [] = some m) (hnn : ∀ s c, F s = some c → 0 ≤ c) : fI F L ([], m) = fS F T ([], m) := by
 rcases fI_spec F L ([], m) hs with ⟨a, b⟩ | ⟨a, b, c, d⟩
 ·rcases fS_spec F hnn T ([], m) with ⟨a', _⟩ | ⟨a', b', c', _⟩
  ·rw [a, a']
  ·have h1 := b _ (hp.mem_iff.2 (List.mem_cons_of_mem _ a')) _ b'
   have h2 := cmpL_nil (fS F T ([], m)).1
   have h3 := hnn _ _ h0
   dsimp only at h1 c'
   rcases c' with c' | c' | c'
   ·omega
   ·omega
   ·exact absurd c'.2 h2
 ·have hm := hp.mem_iff.1 a
  dsimp only at c
  rcases List.mem_cons.1 hm with hm | hm
  ·rw [hm, h0] at b
   injection b with b
   omega
  ·rcases fS_spec F hnn T ([], m) with ⟨_, b'⟩ | ⟨a', b', c', d'⟩
   ·have h1 := b' _ hm _ b
    dsimp only at h1
    omega
   ·have e1 := d _ (hp.mem_iff.2 (List.mem_cons_of_mem _ a')) _ b'
    have e2 := d' _ hm _ b
    generalize fI F L ([], m) = x at *
    generalize fS F T ([], m) = y at *
    have e3 := slices_SortFunc_int_int.cmpL_neg x.1 y.1
    rcases e1 with e1 | e1 <;> rcases e2 with e2 | e2
    ·omega
    ·omega
    ·omega
    ·have e4 := slices_SortFunc_int_int.cmpL_eq (a := x.1) (b := y.1) (by omega)
     exact Prod.ext e4 e1.1
def lostSet (a : Int) (A N : List Int) : List Int := (fS (costF a A N) ((setsV N.length).drop 1) ([], 200)).1
def lostProofV (a : Int) (A N : List Int) (c d : Int) : List Int × Bool := if shelfB a A N c d = true then (lostSet a A N, true) else ([], false)
theorem fS_in {F : List Int → Option Int} {P : List Int → Prop} : ∀ (l : List (List Int)) (r : List Int × Int), (∀ s ∈ l, P s) → P r.1 → P (fS F l r).1
 | [], r, _, hr => hr
 | s :: t, r, h, hr => by
  rw [fS]
  refine fS_in t _ (fun x hx => h x (List.mem_cons_of_mem _ hx)) ?_
  cases F s with
  | none => exact hr
  | some c =>
   dsimp only
   by_cases q : r.2 < 0 ∨ c < r.2 ∨ c = r.2 ∧ slices_SortFunc_int_int.cmpL s r.1 < 0
   ·rw [if_pos q]; exact h s (List.mem_cons_self ..)
   ·rw [if_neg q]; exact hr
theorem lostSet_in (a : Int) (A N : List Int) : setN N (lostSet a A N) :=
 fS_in (P := setN N) _ _ (fun s hs => setsV_setN (List.mem_of_mem_drop hs)) ⟨Nat.zero_le _, fun x hx => by simp at hx⟩
theorem impl_Shelf_can_b {a : Int} (A N : List Int) (c e : Int) {j x : Int} (ha : 1 ≤ a ∧ a ≤ 8) (hj : 0 ≤ j ∧ j ≤ 8) : impl_Shelf_can.f a A N c e j x = some (useX a j x) := by
 unfold impl_Shelf_can.f useX
 rw [w64 (x := j + a) (by omega) (by omega), w64 (by omega) (by omega), impl_within_f, Option.bind_some]
 unfold inB
 congr 1
 rw [decide_eq_decide]
 omega
theorem ev_impl_Shelf_bound_c0 {a : Int} {A N : List Int} {c e : Int} (ha : 1 ≤ a ∧ a ≤ 8) (s : List Int) (hs : s.length ≤ 8) (j : Nat) (hj : j ≤ 8) (d : Nat) : ∀ i : Nat, i + d = s.length → Ev (fun k => impl_Shelf_bound.c0 k s (i : Int) (j : Int) a A N c e) ((s.drop i).any (useX a (j : Int))) := by
 induction d with
 | zero =>
  intro i hi
  refine ev_succ ?_
  have c1 : ¬ (i : Int) < (s.length : Int) := by omega
  simp only [impl_Shelf_bound.c0, c1, ↓reduceIte]
  rw [List.drop_eq_nil_of_le (by omega)]
  exact Ev.now _
 | succ d ih =>
  intro i hi
  refine ev_succ ?_
  have hi' : i < s.length := by omega
  have c1 : (i : Int) < (s.length : Int) := by omega
  have c2 : (0 : Int) ≤ (i : Int) := by omega
  simp only [impl_Shelf_bound.c0, c1, c2, ↓reduceIte, rd_nat hi', w64_nat hi' (show s.length ≤ 9223372036854775807 by omega), impl_Shelf_can_b A N c e ha (show 0 ≤ (j : Int) ∧ (j : Int) ≤ 8 by omega), Option.bind_some]
  rw [drop_cons hi', List.any_cons]
  refine ev_ite (fun h => ?_) (fun h => ?_)
  ·rw [h]; exact Ev.now _
  ·rw [Bool.not_eq_true] at h
   rw [h, Bool.false_or]
   exact ih (i + 1) (by omega)
theorem ev_impl_Shelf_bound_l1 {a : Int} {A N : List Int} {c e : Int} (h : shelfB a A N c e = true) (s : List Int) (hs : s.length ≤ 8) (d : Nat) : ∀ (j : Nat) (v : Int), j + d = A.length → -20 * (j : Int) ≤ v → v ≤ 160 → Ev (fun k => impl_Shelf_bound.l1 k s v (j : Int) a A N c e) (bW a s (A.drop j) j v) := by
 have g := shelfB_spec h
 have g2 := shelfB_all h
 induction d with
 | zero =>
  intro j v hj h1 h2
  refine ev_succ ?_
  have c1 : ¬ (j : Int) < (A.length : Int) := by omega
  simp only [impl_Shelf_bound.l1, c1, ↓reduceIte]
  rw [List.drop_eq_nil_of_le (by omega)]
  exact Ev.now _
 | succ d ih =>
  intro j v hj h1 h2
  refine ev_succ ?_
  have hj' : j < A.length := by omega
  have c1 : (j : Int) < (A.length : Int) := by omega
  have c2 : (0 : Int) ≤ (j : Int) := by omega
  have hy := g2.1 _ (List.getElem_mem hj')
  have e1 : wrap64 (v - A[j]) = v - A[j] := w64 (by omega) (by omega)
  simp only [impl_Shelf_bound.l1, c1, c2, ↓reduceIte, rd_nat hj', e1, w64_nat hj' (show A.length ≤ 9223372036854775807 by omega)]
  refine Ev.bind (by simpa using ev_impl_Shelf_bound_c0 (A := A) (N := N) (c := c) (e := e) g.1 s hs j (by omega) s.length 0 (by omega)) ?_
  rw [drop_cons hj', bW]
  refine ev_ite (fun q => ?_) (fun q => ?_)
  ·rw [if_pos q]; exact ih (j + 1) _ (by omega) (by omega) (by omega)
  ·rw [if_neg q]; exact ih (j + 1) _ (by omega) (by omega) (by omega)
theorem ev_impl_Shelf_bound_l0 {a : Int} {A N : List Int} {c e : Int} (h : shelfB a A N c e = true) (s : List Int) (hs : setN N s) (d : Nat) : ∀ (i : Nat) (v : Int), i + d = s.length → 0 ≤ v → v ≤ 20 * (i : Int) → Ev (fun k => impl_Shelf_bound.l0 k s v (i : Int) a A N c e) (bW a s A 0 (bS N (s.drop i) v)) := by
 have g := shelfB_spec h
 have g2 := shelfB_all h
 have g3 := hs.1
 induction d with
 | zero =>
  intro i v hi h1 h2
  refine ev_succ ?_
  have c1 : ¬ (i : Int) < (s.length : Int) := by omega
  simp only [impl_Shelf_bound.l0, c1, ↓reduceIte]
  rw [List.drop_eq_nil_of_le (by omega), bS]
  simpa using ev_impl_Shelf_bound_l1 h s (by omega) A.length 0 v (by omega) (by omega) (by omega)
 | succ d ih =>
  intro i v hi h1 h2
  refine ev_succ ?_
  have hi' : i < s.length := by omega
  have c1 : (i : Int) < (s.length : Int) := by omega
  have c2 : (0 : Int) ≤ (i : Int) := by omega
  have hx := hs.2 _ (List.getElem_mem hi')
  obtain ⟨x, hxx⟩ : ∃ x : Nat, s[i] = (x : Int) := ⟨s[i].toNat, by omega⟩
  have hx' : x < N.length := by omega
  have hy := g2.2 _ (List.getElem_mem hx')
  have c3 : (0 : Int) ≤ s[i] := hx.1
  have c4 : s[i] < (N.length : Int) := hx.2
  simp only [impl_Shelf_bound.l0, c1, c2, ↓reduceIte, rd_nat hi', c3, c4, w64_nat hi' (show s.length ≤ 9223372036854775807 by omega)]
  rw [drop_cons hi', bS]
  have e1 : wrap64 (v + rd N s[i]) = v + rd N s[i] := by rw [hxx, rd_nat hx', w64 (by omega) (by omega)]
  rw [e1]
  refine ih (i + 1) _ (by omega) ?_ ?_
  ·rw [hxx, rd_nat hx']; omega
  ·rw [hxx, rd_nat hx']; omega
theorem ev_impl_Shelf_bound {a : Int} {A N : List Int} {c e : Int} (h : shelfB a A N c e = true) {s : List Int} (hs : setN N s) : Ev (fun k => impl_Shelf_bound.f k a A N c e s) (boundV a A N s) := by
 unfold impl_Shelf_bound.f boundV
 simpa using ev_impl_Shelf_bound_l0 h s hs s.length 0 0 (by omega) (by omega) (by omega)

theorem ev_impl_LostProof_l0 {a : Int} {A N : List Int} {c e : Int} (h : shelfB a A N c e = true) (L : List (List Int)) (hL : L.length ≤ 256) (hm : ∀ s ∈ L, s ∈ setsV N.length) (d : Nat) : ∀ (i : Nat) (r : List Int × Int), i + d = L.length → Ev (fun k => impl_LostProof.l0 k r.1 (200 - r.2) L (L.length : Int) (i : Int) a A N c e) ((fI (costF a A N) (L.drop i) r).1, true) := by
 induction d with
 | zero =>
  intro i r hi
  refine ev_succ ?_
  have c1 : ¬ (i : Int) < (L.length : Int) := by omega
  simp only [impl_LostProof.l0, c1, ↓reduceIte]
  rw [List.drop_eq_nil_of_le (by omega)]
  exact Ev.now _
 | succ d ih =>
  intro i r hi
  refine ev_succ ?_
  have hi' : i < L.length := by omega
  have c1 : (i : Int) < (L.length : Int) := by omega
  have c2 : (0 : Int) ≤ (i : Int) := by omega
  have hq := hm _ (List.getElem_mem hi')
  have hs := setsV_setN hq
  simp only [impl_LostProof.l0, c1, c2, ↓reduceIte, rdL_nat hi', w64_nat hi' (show L.length ≤ 9223372036854775807 by omega)]
  refine Ev.bind (ev_impl_Shelf_bound h hs) ?_
  rw [drop_cons hi', fI]
  simp only [costF_in hq]
  by_cases q : boundV a A N L[i] > 200 - r.2
  ·rw [if_pos (by omega)]
   refine ev_yes q ?_
   have := ih (i + 1) (L[i], 200 - boundV a A N L[i]) (by omega)
   rwa [show 200 - (200 - boundV a A N L[i]) = boundV a A N L[i] by omega] at this
  ·rw [if_neg (by omega)]
   exact ev_no q (ih (i + 1) r (by omega))
theorem ev_impl_LostProof (a : Int) (A N : List Int) (c e : Int) (hA : A.length ≤ 9223372036854775807) (hN : N.length ≤ 9223372036854775807) : Ev (fun k => impl_LostProof.f k a A N c e) (lostProofV a A N c e) := by
 unfold impl_LostProof.f lostProofV
 refine Ev.bind (ev_impl_IsShelf a A N c e hA hN) ?_
 refine ev_ite (fun h => ?_) (fun h => ?_)
 ·rw [if_pos h]
  have g := shelfB_spec h
  have hp := pow8 g.2.1
  refine Ev.bind (ev_impl_sets N.length g.2.1) ?_
  have hlen : ((setsV N.length).mergeSort slices_SortFunc_int_int.le).length ≤ 256 := by rw [List.length_mergeSort, setsV_len]; omega
  have hperm := List.mergeSort_perm (setsV N.length) slices_SortFunc_int_int.le
  obtain ⟨t, ht, hd⟩ := setsV_head N.length
  have hbs : fI (costF a A N) ((setsV N.length).mergeSort slices_SortFunc_int_int.le) ([], 200) = fS (costF a A N) ((setsV N.length).drop 1) ([], 200) := by
   rw [hd]
   exact best_most (ht ▸ hperm) (merge_sorted _) (by rw [costF_in (by rw [ht]; exact List.mem_cons_self ..), boundV_nil]; rfl) (costF_nn h)
  unfold lostSet
  rw [← hbs]
  simpa using ev_impl_LostProof_l0 h _ hlen (fun s hs => hperm.mem_iff.1 hs) ((setsV N.length).mergeSort slices_SortFunc_int_int.le).length 0 ([], 200) (by omega)
 ·rw [if_neg h]; exact Ev.now _


theorem ev_laws_vInts_l0 (l : List Int) (hl : l.length ≤ 9223372036854775807) (d : Nat) : ∀ (i : Nat), i + d = l.length → Ev (fun k => laws_vInts.l0 k l l (i : Int)) true := by
 induction d with
 | zero =>
  intro i hi
  refine ev_succ ?_
  have h1 : ¬ (i : Int) < (l.length : Int) := by omega
  simp only [laws_vInts.l0, h1, ↓reduceIte]
  exact Ev.now _
 | succ d ih =>
  intro i hi
  refine ev_succ ?_
  have h1 : (i : Int) < (l.length : Int) := by omega
  have h0 : (0 : Int) ≤ (i : Int) := by omega
  have hi' : i < l.length := by omega
  simp only [laws_vInts.l0, h1, h0, ↓reduceIte, w64_nat hi' hl]
  exact ih (i + 1) (by omega)
theorem ev_laws_vInts_self (l : List Int) (hl : l.length ≤ 9223372036854775807) : Ev (fun k => laws_vInts.f k l l) true := by
 unfold laws_vInts.f
 simp only [if_true]
 exact ev_laws_vInts_l0 l hl l.length 0 (by omega)

def riseAt (s : List Int) (n : Int) (i : Nat) : Bool := inB (rd s (i : Int)) 0 (n - 1) && (decide (i = 0) || decide (rd s ((i : Int) - 1) < rd s (i : Int)))
def riseB (s : List Int) (n : Int) : Bool := allFrom (riseAt s n) s.length 0

theorem ev_impl_isSet_l0 (s : List Int) (n : Int) (hs : s.length ≤ 1000) (hn : 0 ≤ n ∧ n ≤ 1000) (d : Nat) : ∀ i : Nat, i + d = s.length → Ev (fun k => impl_isSet.l0 k s n s (s.length : Int) (i : Int)) (allFrom (riseAt s n) d i) := by
 induction d with
 | zero =>
  intro i hi
  refine ev_succ ?_
  have c1 : ¬ (i : Int) < (s.length : Int) := by omega
  simp only [impl_isSet.l0, c1, ↓reduceIte]
  exact Ev.now _
 | succ d ih =>
  intro i hi
  refine ev_succ ?_
  have hi' : i < s.length := by omega
  have c1 : (i : Int) < (s.length : Int) := by omega
  have c2 : (0 : Int) ≤ (i : Int) := by omega
  have e1 : wrap64 (n - 1) = n - 1 := w64 (by omega) (by omega)
  have e2 := w64_nat hi' (show s.length ≤ 9223372036854775807 by omega)
  have hih := ih (i + 1) (by omega)
  simp only [impl_isSet.l0, c1, c2, ↓reduceIte, e1, e2, impl_within_f, Option.bind_some]
  rw [allFrom, riseAt]
  cases hb : inB (rd s (i : Int)) 0 (n - 1) with
  | false => simp only [Bool.false_eq_true, ↓reduceIte, Bool.false_and]; exact Ev.now _
  | true =>
   simp only [↓reduceIte, Bool.true_and]
   by_cases h0 : i = 0
   ·refine ev_no (by omega) ?_
    refine ev_eq hih ?_
    simp [h0]
   ·have e3 : wrap64 ((i : Int) - 1) = (i : Int) - 1 := w64 (by omega) (by omega)
    refine ev_yes (by omega) ?_
    rw [e3]
    refine ev_yes (by omega) ?_
    refine ev_yes (by omega) ?_
    refine ev_ite (fun h => ?_) (fun h => ?_)
    ·refine ev_eq (Ev.now _) ?_
     have h2 : ¬ rd s ((i : Int) - 1) < rd s (i : Int) := by omega
     simp [h0, h2]
    ·refine ev_eq hih ?_
     have h2 : rd s ((i : Int) - 1) < rd s (i : Int) := by omega
     simp [h2]
theorem ev_impl_isSet (s : List Int) (n : Int) (hs : s.length ≤ 1000) (hn : 0 ≤ n ∧ n ≤ 1000) : Ev (fun k => impl_isSet.f k s n) (riseB s n) := by
 unfold impl_isSet.f riseB
 simpa using ev_impl_isSet_l0 s n hs hn s.length 0 (by omega)

def lostBoundV (a : Int) (A N : List Int) (c e : Int) (s : List Int) : Int × Bool := if shelfB a A N c e = true then (if riseB s (N.length : Int) = true then (boundV a A N s, true) else (0, false)) else (0, false)
theorem rise_spec {s : List Int} {n : Int} (h : riseB s n = true) : ∀ i, i < s.length → (0 ≤ rd s (i : Int) ∧ rd s (i : Int) < n) ∧ (0 < i → rd s ((i : Int) - 1) < rd s (i : Int)) := by
 intro i hi
 unfold riseB at h
 rw [allFrom_iff] at h
 have h1 := h i (by omega) (by omega)
 unfold riseAt at h1
 rw [Bool.and_eq_true, inB_iff, Bool.or_eq_true, decide_eq_true_eq, decide_eq_true_eq] at h1
 exact ⟨by omega, fun h2 => by omega⟩
theorem rise_ge {s : List Int} {n : Int} (h : riseB s n = true) : ∀ i : Nat, i < s.length → (i : Int) ≤ rd s (i : Int)
 | 0, hi => by have := (rise_spec h 0 hi).1; simpa using this.1
 | i + 1, hi => by
  have h1 := rise_ge h i (by omega)
  have h2 := (rise_spec h (i + 1) hi).2 (by omega)
  rw [show ((i + 1 : Nat) : Int) - 1 = (i : Int) by omega] at h2
  omega
theorem rise_setN {N s : List Int} (h : riseB s (N.length : Int) = true) : setN N s := by
 refine ⟨?_, fun x hx => ?_⟩
 ·by_cases h0 : s.length = 0
  ·omega
  ·have h1 := rise_ge h (s.length - 1) (by omega)
   have h2 := (rise_spec h (s.length - 1) (by omega)).1
   omega
 ·obtain ⟨i, hi, rfl⟩ := List.getElem_of_mem hx
  have h1 := (rise_spec h i hi).1
  rw [rd_nat hi] at h1
  exact h1
theorem bits_rise (c n : Nat) : riseB (bitsV c n 0) (n : Int) = true := by
 unfold riseB
 rw [allFrom_iff]
 intro i _ hi
 have hi : i < (bitsV c n 0).length := by omega
 have hp : ∀ d j : Nat, (bitsV c d j).Pairwise (fun x y => x < y) := by
  intro d
  induction d with
  | zero => intro j; exact List.Pairwise.nil
  | succ d ih =>
   intro j
   rw [bitsV]
   by_cases hb : c.testBit j = true
   ·rw [if_pos hb]
    refine List.Pairwise.cons (fun y hy => ?_) (ih (j + 1))
    obtain ⟨k, h1, _, _, rfl⟩ := (bitsV_mem d (j + 1)).1 hy
    omega
   ·rw [if_neg hb]; exact ih (j + 1)
 unfold riseAt
 rw [Bool.and_eq_true, inB_iff, Bool.or_eq_true, decide_eq_true_eq, decide_eq_true_eq, rd_nat hi]
 obtain ⟨k, _, h2, _, h4⟩ := (bitsV_mem n 0).1 (List.getElem_mem hi)
 refine ⟨by omega, ?_⟩
 by_cases h0 : i = 0
 ·exact Or.inl h0
 ·refine Or.inr ?_
  have h5 := List.pairwise_iff_getElem.1 (hp n 0) (i - 1) i (by omega) hi (by omega)
  rw [show (i : Int) - 1 = ((i - 1 : Nat) : Int) by omega, rd_nat (by omega)]
  exact h5

theorem ev_impl_LostBound (a : Int) (A N : List Int) (c e : Int) (s : List Int) (hA : A.length ≤ 9223372036854775807) (hN : N.length ≤ 9223372036854775807) (hs : s.length ≤ 1000) : Ev (fun k => impl_LostBound.f k a A N c e s) (lostBoundV a A N c e s) := by
 unfold impl_LostBound.f lostBoundV
 refine Ev.bind (ev_impl_IsShelf a A N c e hA hN) ?_
 refine ev_ite (fun h => ?_) (fun h => ?_)
 ·rw [if_pos h]
  have g := shelfB_spec h
  refine Ev.bind (ev_impl_isSet s _ hs (by omega)) ?_
  refine ev_ite (fun h2 => ?_) (fun h2 => ?_)
  ·rw [if_pos h2]
   refine Ev.bind (ev_impl_Shelf_bound h (rise_setN h2)) ?_
   exact Ev.now _
  ·rw [if_neg h2]; exact Ev.now _
 ·rw [if_neg h]; exact Ev.now _

theorem and255 (x : Int) : 0 ≤ Go.bits .and .u64 x 255 ∧ Go.bits .and .u64 x 255 ≤ 255 := by
 have h : (BitVec.ofInt 64 x &&& BitVec.ofInt 64 255).toNat ≤ 255 := by
  rw [BitVec.toNat_and]
  exact Nat.le_trans Nat.and_le_right (by decide)
 show 0 ≤ IntKind.u64.wrap ((BitVec.ofInt 64 x &&& BitVec.ofInt 64 255).toNat : Int) ∧ IntKind.u64.wrap ((BitVec.ofInt 64 x &&& BitVec.ofInt 64 255).toNat : Int) ≤ 255
 rw [IntKind.wrap_u64]
 omega
def codeOk (l : List Int) : Prop := ∀ x ∈ l, 0 ≤ x ∧ x ≤ 255
def atOk (a : Int) : Prop := 0 ≤ a ∧ a ≤ 1000000000000
theorem spec_l1Cur_next_ok (l : List Int) (a sd : Int) (hl : codeOk l) (ha : atOk a) : ∃ b s', spec_l1Cur_next.f l a sd = some (b, a + 1, s') ∧ 0 ≤ b ∧ b ≤ 255 := by
 unfold atOk at ha
 have e : wrap64 (a + 1) = a + 1 := w64 (by omega) (by omega)
 unfold spec_l1Cur_next.f
 rw [e]
 by_cases h : a < (l.length : Int)
 ·have hr : 0 ≤ rd l a ∧ rd l a ≤ 255 := by
   obtain ⟨i, hi⟩ : ∃ i : Nat, a = (i : Int) := ⟨a.toNat, by omega⟩
   subst hi
   rw [rd_nat (by omega)]
   exact hl _ (List.getElem_mem _)
  rw [if_pos h, if_pos ha.1]
  by_cases h2 : a + 1 ≤ (l.length : Int)
  ·rw [if_pos h2]
   exact ⟨_, _, rfl, by rw [w64 (by omega) (by omega)]; omega, by rw [w64 (by omega) (by omega)]; omega⟩
  ·omega
 ·rw [if_neg h]
  by_cases h2 : a + 1 ≤ (l.length : Int)
  ·omega
  ·rw [if_neg h2]
   generalize hx : (_ : Int) / 1099511627776 = x
   have := and255 x
   refine ⟨_, _, rfl, ?_, ?_⟩ <;> (rw [w64 (by omega) (by omega)]; omega)

theorem spec_l1Cur_pick_ok (l : List Int) (a sd n : Int) (hl : codeOk l) (ha : 0 ≤ a ∧ a ≤ 1000000000) (hn : 1 ≤ n ∧ n ≤ 1000000) : ∃ r a' s', spec_l1Cur_pick.f l a sd n = some (r, a', s') ∧ (0 ≤ r ∧ r < n) ∧ (a ≤ a' ∧ a' ≤ a + 2) := by
 unfold spec_l1Cur_pick.f
 by_cases h1 : n ≤ 1
 ·rw [if_pos h1]
  exact ⟨_, _, _, rfl, ⟨by omega, by omega⟩, by omega, by omega⟩
 ·rw [if_neg h1]
  obtain ⟨b, s1, e1, hb1, hb2⟩ := spec_l1Cur_next_ok l a sd hl (by unfold atOk; omega)
  rw [e1, Option.bind_some]
  by_cases h2 : n > 200
  ·rw [if_pos h2]
   obtain ⟨b2, s2, e2, hc1, hc2⟩ := spec_l1Cur_next_ok l (a + 1) s1 hl (by unfold atOk; omega)
   dsimp only
   rw [e2, Option.bind_some, if_neg (by omega)]
   dsimp only
   rw [w64 (x := b * 256) (by omega) (by omega), w64 (x := b * 256 + b2) (by omega) (by omega)]
   exact ⟨_, _, _, rfl, ⟨Int.tmod_nonneg _ (by omega), Int.tmod_lt_of_pos _ (by omega)⟩, by omega, by omega⟩
  ·rw [if_neg h2, if_neg (by omega)]
   exact ⟨_, _, _, rfl, ⟨Int.tmod_nonneg _ hb1, Int.tmod_lt_of_pos _ (by omega)⟩, by dsimp only; omega, by dsimp only; omega⟩

theorem spec_l1Cur_among_ok (l : List Int) (a sd : Int) (L : List Int) (hl : codeOk l) (ha : 0 ≤ a ∧ a ≤ 1000000000) (hL : 1 ≤ L.length ∧ L.length ≤ 1000) : ∃ v a' s', spec_l1Cur_among.f l a sd L = some (v, a', s') ∧ v ∈ L ∧ (a ≤ a' ∧ a' ≤ a + 2) := by
 obtain ⟨r, a', s', e, hr, ha2⟩ := spec_l1Cur_pick_ok l a sd (L.length : Int) hl ha (by omega)
 unfold spec_l1Cur_among.f
 rw [e, Option.bind_some]
 dsimp only
 rw [if_pos hr.1, if_pos hr.2]
 obtain ⟨i, hi⟩ : ∃ i : Nat, r = (i : Int) := ⟨r.toNat, by omega⟩
 subst hi
 exact ⟨_, _, _, rfl, by rw [rd_nat (by omega)]; exact List.getElem_mem _, ha2⟩

theorem spec_l1Cur_charge_ok (l : List Int) (a sd : Int) (hl : codeOk l) (ha : 0 ≤ a ∧ a ≤ 100000000) : ∃ r a' s', spec_l1Cur_charge.f l a sd = some (r, a', s') ∧ (a ≤ a' ∧ a' ≤ a + 4) := by
 obtain ⟨r, a1, s1, e1, hr, ha1⟩ := spec_l1Cur_pick_ok l a sd 24 hl (by omega) (by omega)
 have hq : 0 ≤ Int.tdiv r 11 ∧ Int.tdiv r 11 ≤ 2 := by
  rw [Int.tdiv_eq_ediv_of_nonneg hr.1]; omega
 have e2 : wrap64 (7 + wrap64 (Int.tdiv r 11)) = 7 + Int.tdiv r 11 := by rw [w64 (x := Int.tdiv r 11) (by omega) (by omega), w64 (by omega) (by omega)]
 obtain ⟨v, a2, s2, e3, _, ha2⟩ := spec_l1Cur_among_ok l a1 s1 (([1, 2, 3, 5, 0, 8, 20, 21, (-1)] : List Int).take (7 + Int.tdiv r 11).toNat) hl (by omega) (by simp only [List.length_take, List.length_cons, List.length_nil]; omega)
 have c1 : 0 ≤ 7 + Int.tdiv r 11 := by omega
 have c2 : 7 + Int.tdiv r 11 ≤ (([1, 2, 3, 5, 0, 8, 20, 21, (-1)] : List Int).length : Int) := by simp only [List.length_cons, List.length_nil]; omega
 refine ⟨v, a2, s2, ?_, by omega⟩
 unfold spec_l1Cur_charge.f
 simp only [Option.bind_some, e1, e2, c1, ↓reduceIte]
 rw [if_pos c2, e3]
 rfl

theorem ev_spec_l1Cur_shelf_l1 (l : List Int) (a sd x w c : Int) (d : Nat) : ∀ (A N : List Int), N.length + d = 9 → A.length ≤ N.length + 10 → ∃ A' N', Ev (fun k => spec_l1Cur_shelf.l1 k l a sd x A N w c) (x, A', N', w, c, a, sd) ∧ A'.length ≤ 30 ∧ N'.length ≤ 10 := by
 induction d with
 | zero =>
  intro A N hN hA
  refine ⟨A, N, ev_succ ?_, by omega, by omega⟩
  have c1 : ¬ (N.length : Int) < 9 := by omega
  simp only [spec_l1Cur_shelf.l1, c1, ↓reduceIte]
  exact Ev.now _
 | succ d ih =>
  intro A N hN hA
  obtain ⟨A', N', e, h⟩ := ih (A ++ [1]) (N ++ [1]) (by rw [List.length_append, List.length_singleton]; omega) (by rw [List.length_append, List.length_append, List.length_singleton]; omega)
  refine ⟨A', N', ev_succ ?_, h⟩
  have c1 : (N.length : Int) < 9 := by omega
  have c2 : N.length < 17592186044416 := by omega
  have c3 : A.length < 17592186044416 := by omega
  simp only [spec_l1Cur_shelf.l1, c1, c2, c3, ↓reduceIte]
  exact e
theorem ev_spec_l1Cur_shelf_l0 (l : List Int) (hl : codeOk l) (x w c : Int) (d : Nat) : ∀ (A N : List Int) (a sd : Int), A.length = N.length → N.length + d ≤ 8 → 0 ≤ a → a + 10 * (d : Int) ≤ 1000000 → ∃ x' A' N' a' sd', Ev (fun k => spec_l1Cur_shelf.l0 k (d : Int) l a sd x A N w c) (x', A', N', w, c, a', sd') ∧ A'.length ≤ 30 ∧ N'.length ≤ 10 ∧ 0 ≤ a' ∧ a' ≤ a + 10 * (d : Int) + 10 := by
 induction d with
 | zero =>
  intro A N a sd hA hN ha hb
  obtain ⟨r, a1, s1, e1, hr, ha1⟩ := spec_l1Cur_pick_ok l a sd 40 hl (by omega) (by omega)
  have c0 : ¬ ((0 : Nat) : Int) > 0 := by omega
  by_cases r0 : r = 0
  ·subst r0
   obtain ⟨v, a2, s2, e2, _, ha2⟩ := spec_l1Cur_among_ok l a1 s1 [0, 9, (-1)] hl (by omega) (by simp)
   refine ⟨v, A, N, a2, s2, ev_succ ?_, by omega, by omega, by omega, by omega⟩
   simp only [spec_l1Cur_shelf.l0, c0, e1, e2, Option.bind_some, ↓reduceIte]
   exact Ev.now _
  by_cases r1 : r = 1
  ·subst r1
   refine ⟨x, A, N ++ [1], a1, s1, ev_succ ?_, by omega, by rw [List.length_append, List.length_singleton]; omega, by omega, by omega⟩
   have c2 : N.length < 17592186044416 := by omega
   simp only [spec_l1Cur_shelf.l0, c0, c2, e1, Option.bind_some, show ¬ (1 : Int) = 0 by omega, ↓reduceIte]
   exact Ev.now _
  by_cases r2 : r = 2
  ·subst r2
   by_cases hp : (N.length : Int) > 0
   ·obtain ⟨v, a2, s2, e2, _, ha2⟩ := spec_l1Cur_among_ok l a1 s1 [(-1), 20, 21] hl (by omega) (by simp)
    have c2 : 0 < (N.length : Int) := by omega
    refine ⟨x, A, N.set (0 : Int).toNat v, a2, s2, ev_succ ?_, by omega, by rw [List.length_set]; omega, by omega, by omega⟩
    simp only [spec_l1Cur_shelf.l0, c0, hp, c2, e1, e2, Option.bind_some, show ¬ (2 : Int) = 0 by omega, show ¬ (2 : Int) = 1 by omega, ↓reduceIte]
    exact Ev.now _
   ·refine ⟨x, A, N, a1, s1, ev_succ ?_, by omega, by omega, by omega, by omega⟩
    simp only [spec_l1Cur_shelf.l0, c0, hp, e1, Option.bind_some, show ¬ (2 : Int) = 0 by omega, show ¬ (2 : Int) = 1 by omega, ↓reduceIte]
    exact Ev.now _
  by_cases r3 : r = 3
  ·subst r3
   obtain ⟨A', N', e, h1, h2⟩ := ev_spec_l1Cur_shelf_l1 l a1 s1 x w c (9 - N.length) A N (by omega) (by omega)
   refine ⟨x, A', N', a1, s1, ev_succ ?_, h1, h2, by omega, by omega⟩
   simp only [spec_l1Cur_shelf.l0, c0, e1, Option.bind_some, show ¬ (3 : Int) = 0 by omega, show ¬ (3 : Int) = 1 by omega, show ¬ (3 : Int) = 2 by omega, ↓reduceIte]
   exact e
  refine ⟨x, A, N, a1, s1, ev_succ ?_, by omega, by omega, by omega, by omega⟩
  simp only [spec_l1Cur_shelf.l0, c0, e1, Option.bind_some, r0, r1, r2, r3, ↓reduceIte]
  exact Ev.now _
 | succ d ih =>
  intro A N a sd hA hN ha hb
  obtain ⟨v, a1, s1, e1, _, ha1⟩ := spec_l1Cur_among_ok l a sd [2, 3, 0, 5, 1, 8] hl (by omega) (by simp)
  obtain ⟨v2, a2, s2, e2, _, ha2⟩ := spec_l1Cur_among_ok l a1 s1 [2, 3, 0, 5, 1, 6] hl (by omega) (by simp)
  obtain ⟨x', A', N', a', sd', e, h1, h2, h3, h4⟩ := ih (A ++ [v]) (N ++ [v2]) a2 s2 (by rw [List.length_append, List.length_append, hA]; rfl) (by rw [List.length_append, List.length_singleton]; omega) (by omega) (by omega)
  refine ⟨x', A', N', a', sd', ev_succ ?_, h1, h2, h3, by omega⟩
  have c1 : ((d + 1 : Nat) : Int) > 0 := by omega
  have c2 : A.length < 17592186044416 := by omega
  have c3 : N.length < 17592186044416 := by omega
  have e3 : wrap64 (((d + 1 : Nat) : Int) - 1) = (d : Int) := by rw [w64 (by omega) (by omega)]; omega
  simp only [spec_l1Cur_shelf.l0, c1, c2, c3, e1, e2, e3, Option.bind_some, ↓reduceIte]
  exact e
theorem ev_spec_l1Cur_shelf (l : List Int) (a sd : Int) (hl : codeOk l) (ha : 0 ≤ a ∧ a ≤ 10000) : ∃ x A N w c a' sd', Ev (fun k => spec_l1Cur_shelf.f k l a sd) (x, A, N, w, c, a', sd') ∧ A.length ≤ 30 ∧ N.length ≤ 10 ∧ 0 ≤ a' ∧ a' ≤ a + 200 := by
 obtain ⟨x, a1, s1, e1, _, ha1⟩ := spec_l1Cur_among_ok l a sd [2, 3, 1, 2, 4, 8] hl (by omega) (by simp)
 obtain ⟨w, a2, s2, e2, ha2⟩ := spec_l1Cur_charge_ok l a1 s1 hl (by omega)
 obtain ⟨c, a3, s3, e3, ha3⟩ := spec_l1Cur_charge_ok l a2 s2 hl (by omega)
 obtain ⟨n, a4, s4, e4, hn, ha4⟩ := spec_l1Cur_among_ok l a3 s3 [4, 5, 3, 6, 2, 1, 0] hl (by omega) (by simp)
 have hn2 : 0 ≤ n ∧ n ≤ 6 := by simp only [List.mem_cons, List.not_mem_nil, or_false] at hn; omega
 obtain ⟨m, rfl⟩ : ∃ m : Nat, n = (m : Int) := ⟨n.toNat, by omega⟩
 obtain ⟨x', A', N', a', sd', e, h1, h2, h3, h4⟩ := ev_spec_l1Cur_shelf_l0 l hl x w c m [] [] a4 s4 rfl (by simp; omega) (by omega) (by omega)
 refine ⟨x', A', N', w, c, a', sd', ?_, h1, h2, h3, by omega⟩
 unfold spec_l1Cur_shelf.f
 simp only [e1, e2, e3, e4, Option.bind_some]
 exact e

theorem spec_l1Least_f (a b : Int) : spec_l1Least.f a b = some (mn a b) := by
 unfold spec_l1Least.f mn
 by_cases h : a < b
 ·rw [if_pos h, if_neg (by omega)]
 ·by_cases h2 : b < a
  ·rw [if_neg h, if_pos h2]
  ·rw [if_neg h, if_neg h2]; congr 1; omega

theorem spec_l1Own_f (l : List Int) (hl : l.length ≤ 1000000000) : spec_l1Own.f l = some l := by
 unfold spec_l1Own.f
 simp only [Option.bind_some, List.length_nil, List.nil_append]
 rw [if_pos (by omega)]

def SM (f : Nat → Int) : Nat → Int
 | 0 => 0
 | n + 1 => SM f n + f n
theorem SM_congr {f g : Nat → Int} : ∀ n, (∀ i, i < n → f i = g i) → SM f n = SM g n
 | 0, _ => rfl
 | n + 1, h => by rw [SM, SM, SM_congr n (fun i hi => h i (by omega)), h n (by omega)]
theorem SM_le {f g : Nat → Int} : ∀ n, (∀ i, i < n → f i ≤ g i) → SM f n ≤ SM g n
 | 0, _ => Int.le_refl _
 | n + 1, h => by
  have h1 := SM_le n (fun i hi => h i (by omega))
  have h2 := h n (by omega)
  rw [SM, SM]; omega
theorem SM_zero : ∀ n, SM (fun _ => 0) n = 0
 | 0 => rfl
 | n + 1 => by rw [SM, SM_zero n]; rfl
theorem SM_nonneg {f : Nat → Int} (n : Nat) (h : ∀ i, i < n → 0 ≤ f i) : 0 ≤ SM f n := by
 have := SM_le n (f := fun _ => 0) h
 rw [SM_zero] at this; exact this
structure Iss (L n : Nat) (N A : Nat → Int) (X : Nat → Nat → Int) : Prop where
 nn : ∀ t i, t < n → i < n → 0 ≤ X t i
 use : ∀ t i, t < n → i < n → 0 < X t i → i ≤ t ∧ t < i + L
 row : ∀ t, t < n → SM (X t) n ≤ N t
 col : ∀ i, i < n → SM (fun t => X t i) n ≤ A i
structure Old (L n : Nat) (N A : Nat → Int) (X : Nat → Nat → Int) : Prop extends Iss L n N A X where
 older : ∀ t i j, t < n → i < n → j < i → t < j + L → 0 < X t i → SM (fun t => X t j) (t + 1) = A j
 gone : ∀ t i, t < n → i ≤ t → t < i + L → SM (X t) n < N t → SM (fun t => X t i) (t + 1) = A i
theorem code_of (T : Nat → Bool) : ∀ n, ∃ c, c < 2 ^ n ∧ ∀ j, j < n → c.testBit j = T j
 | 0 => ⟨0, by simp, fun j hj => by omega⟩
 | n + 1 => by
  obtain ⟨c, h1, h2⟩ := code_of T n
  have hp : 2 ^ (n + 1) = 2 * 2 ^ n := by rw [Nat.pow_succ]; omega
  by_cases hT : T n = true
  ·refine ⟨c ||| 2 ^ n, Nat.or_lt_two_pow (by omega) (by rw [hp]; have := Nat.pow_pos (n := n) (show 0 < 2 by omega); omega), fun j hj => ?_⟩
   rw [Nat.testBit_or, Nat.testBit_two_pow]
   by_cases hj2 : j = n
   ·subst hj2; simp [hT]
   ·rw [h2 j (by omega)]
    simp only [Bool.or_eq_left_iff_imp, decide_eq_true_eq]
    intro h; omega
  ·refine ⟨c, by omega, fun j hj => ?_⟩
   by_cases hj2 : j = n
   ·subst hj2
    rw [Nat.testBit_lt_two_pow h1]
    simpa using hT
   ·exact h2 j (by omega)

def tkS (a : Int) (t : Nat) (s : List Int × List Int × Int) (i : Nat) : List Int × List Int × Int :=
 if useX a (i : Int) (t : Int) = true then (s.1.set i (mn (rd s.2.1 (i : Int)) s.2.2), s.2.1.set i (rd s.2.1 (i : Int) - mn (rd s.2.1 (i : Int)) s.2.2), s.2.2 - mn (rd s.2.1 (i : Int)) s.2.2) else s
def tkV (a : Int) (t : Nat) (o : List Nat) (s : List Int × List Int × Int) : List Int × List Int × Int := o.foldl (tkS a t) s
theorem tkV_filter (a : Int) (t : Nat) : ∀ (o : List Nat) (s : List Int × List Int × Int), tkV a t o s = tkV a t (o.filter fun (i : Nat) => useX a (i : Int) (t : Int)) s
 | [], _ => rfl
 | i :: o, s => by
  unfold tkV
  rw [List.foldl_cons, List.filter_cons]
  by_cases h : useX a (i : Int) (t : Int) = true
  ·rw [if_pos h, List.foldl_cons]; exact tkV_filter a t o _
  ·rw [if_neg h, show tkS a t s i = s from if_neg h]; exact tkV_filter a t o _
def ordV (newest : Bool) (n : Nat) : List Nat := if newest = true then (List.range n).map fun k => n - 1 - k else List.range n
theorem range_filter {a : Int} {t n : Nat} (h : t < n) : (List.range n).filter (fun (i : Nat) => useX a (i : Int) (t : Int)) = (List.range (t + 1)).filter (fun (i : Nat) => useX a (i : Int) (t : Int)) := by
 obtain ⟨m, rfl⟩ : ∃ m, n = t + 1 + m := ⟨n - (t + 1), by omega⟩
 rw [List.range_add, List.filter_append]
 have e : ((List.range m).map fun x => t + 1 + x).filter (fun (i : Nat) => useX a (i : Int) (t : Int)) = [] := by
  rw [List.filter_eq_nil_iff]
  intro x hx
  obtain ⟨y, _, rfl⟩ := List.mem_map.1 hx
  unfold useX
  simp only [decide_eq_true_eq]
  omega
 rw [e, List.append_nil]
theorem range_rev (n : Nat) : (List.range n).map (fun k => n - 1 - k) = (List.range n).reverse := by
 refine List.ext_getElem (by simp) (fun i h1 h2 => ?_)
 simp [List.getElem_reverse]
theorem tkV_ord (a : Int) {t n : Nat} (h : t < n) (newest : Bool) (s : List Int × List Int × Int) : tkV a t (ordV newest n) s = tkV a t (ordV newest (t + 1)) s := by
 rw [tkV_filter a t (ordV newest n), tkV_filter a t (ordV newest (t + 1))]
 unfold ordV
 cases newest with
 | false => simp only [Bool.false_eq_true, ↓reduceIte, range_filter h]
 | true => simp only [↓reduceIte, range_rev, List.filter_reverse, range_filter h]
def lfV (a : Int) (A N : List Int) (newest : Bool) : Nat → List Int
 | 0 => A
 | t + 1 => (tkV a t (ordV newest N.length) (List.replicate N.length 0, lfV a A N newest t, rd N (t : Int))).2.1
def isRow (a : Int) (A N : List Int) (newest : Bool) (t : Nat) : List Int := (tkV a t (ordV newest N.length) (List.replicate N.length 0, lfV a A N newest t, rd N (t : Int))).1
def issuedV (a : Int) (A N : List Int) (newest : Bool) : List (List Int) := (List.range N.length).map (isRow a A N newest)
theorem rd_set {l : List Int} {i : Nat} {v : Int} (h : i < l.length) (k : Nat) : rd (l.set i v) (k : Int) = if k = i then v else rd l (k : Int) := by
 unfold rd
 rw [Int.toNat_natCast]
 by_cases e : k = i
 ·subst e; rw [if_pos rfl]; simp [List.getD_eq_getElem?_getD, h]
 ·rw [if_neg e]; simp [List.getD_eq_getElem?_getD, List.getElem?_set_ne (Ne.symm e)]
theorem SM_upd {f : Nat → Int} {i : Nat} {v : Int} : ∀ n, i < n → SM (fun k => if k = i then v else f k) n = SM f n - f i + v
 | 0, h => by omega
 | n + 1, h => by
  rw [SM, SM]
  by_cases e : n = i
  ·subst e
   rw [if_pos rfl, SM_congr n (g := f) (fun k hk => by rw [if_neg (by omega)])]; omega
  ·rw [if_neg e, SM_upd n (by omega)]; omega
structure Tk (a : Int) (n t : Nat) (L0 : List Int) (d0 : Int) (s : List Int × List Int × Int) : Prop where
 l1 : s.1.length = n
 l2 : s.2.1.length = n
 eq : ∀ i, i < n → rd s.1 (i : Int) + rd s.2.1 (i : Int) = rd L0 (i : Int)
 nn : ∀ i, i < n → 0 ≤ rd s.1 (i : Int) ∧ 0 ≤ rd s.2.1 (i : Int)
 sum : SM (fun i => rd s.1 (i : Int)) n + s.2.2 = d0
 nd : 0 ≤ s.2.2
 use : ∀ i, i < n → 0 < rd s.1 (i : Int) → useX a (i : Int) (t : Int) = true
theorem Tk.start {a : Int} {n t : Nat} {L0 : List Int} {d0 : Int} (hl : L0.length = n) (hp : ∀ i, i < n → 0 ≤ rd L0 (i : Int)) (hd : 0 ≤ d0) : Tk a n t L0 d0 (List.replicate n 0, L0, d0) := by
 have e : ∀ i : Nat, rd (List.replicate n 0) (i : Int) = 0 := fun i => by
  unfold rd
  rw [Int.toNat_natCast, List.getD_eq_getElem?_getD, List.getElem?_replicate]
  split <;> rfl
 refine ⟨by simp, hl, fun i hi => by dsimp only; rw [e]; omega, fun i hi => ?_, ?_, hd, fun i hi h => ?_⟩
 ·dsimp only; rw [e]; exact ⟨Int.le_refl _, hp i hi⟩
 ·dsimp only; rw [SM_congr n (g := fun _ => 0) (fun i _ => e i), SM_zero]; omega
 ·dsimp only at h; rw [e] at h; omega
theorem mn_spec (x y : Int) : mn x y ≤ x ∧ mn x y ≤ y ∧ (mn x y = x ∨ mn x y = y) := by unfold mn; split <;> omega
theorem Tk.step {a : Int} {n t : Nat} {L0 : List Int} {d0 : Int} {s : List Int × List Int × Int} (T : Tk a n t L0 d0 s) {i : Nat} (hi : i < n) (h0 : rd s.1 (i : Int) = 0) : Tk a n t L0 d0 (tkS a t s i) := by
 unfold tkS
 by_cases h : useX a (i : Int) (t : Int) = true
 ·rw [if_pos h]
  have hm := mn_spec (rd s.2.1 (i : Int)) s.2.2
  have hn := T.nn i hi
  have hd := T.nd
  have he := T.eq i hi
  generalize mn (rd s.2.1 (i : Int)) s.2.2 = x at hm ⊢
  have r1 := fun k : Nat => rd_set (l := s.1) (v := x) (by rw [T.l1]; exact hi) k
  have r2 := fun k : Nat => rd_set (l := s.2.1) (v := rd s.2.1 (i : Int) - x) (by rw [T.l2]; exact hi) k
  refine ⟨by rw [List.length_set]; exact T.l1, by rw [List.length_set]; exact T.l2, fun k hk => ?_, fun k hk => ?_, ?_, by dsimp only; omega, fun k hk hp => ?_⟩
  ·dsimp only
   rw [r1, r2]
   by_cases e : k = i
   ·subst e; rw [if_pos rfl, if_pos rfl]; omega
   ·rw [if_neg e, if_neg e]; exact T.eq k hk
  ·dsimp only
   rw [r1, r2]
   by_cases e : k = i
   ·rw [if_pos e, if_pos e]; omega
   ·rw [if_neg e, if_neg e]; exact T.nn k hk
  ·dsimp only
   rw [SM_congr n (fun k _ => r1 k), SM_upd (f := fun k => rd s.1 (k : Int)) n hi]
   have := T.sum
   omega
  ·dsimp only at hp
   rw [r1] at hp
   by_cases e : k = i
   ·subst e; exact h
   ·rw [if_neg e] at hp; exact T.use k hk hp
 ·rw [if_neg h]; exact T
theorem tkS_row {a : Int} {t : Nat} {s : List Int × List Int × Int} {i k : Nat} (h : k ≠ i) : rd (tkS a t s i).1 (k : Int) = rd s.1 (k : Int) := by
 unfold tkS
 by_cases h2 : useX a (i : Int) (t : Int) = true
 ·rw [if_pos h2]
  unfold rd
  rw [Int.toNat_natCast]
  simp [List.getD_eq_getElem?_getD, List.getElem?_set_ne (Ne.symm h)]
 ·rw [if_neg h2]
theorem tkS_left {a : Int} {t : Nat} {s : List Int × List Int × Int} {i k : Nat} (h : k ≠ i) : rd (tkS a t s i).2.1 (k : Int) = rd s.2.1 (k : Int) := by
 unfold tkS
 by_cases h2 : useX a (i : Int) (t : Int) = true
 ·rw [if_pos h2]
  unfold rd
  rw [Int.toNat_natCast]
  simp [List.getD_eq_getElem?_getD, List.getElem?_set_ne (Ne.symm h)]
 ·rw [if_neg h2]
theorem Tk.run {a : Int} {n t : Nat} {L0 : List Int} {d0 : Int} : ∀ (o : List Nat) (s : List Int × List Int × Int), Tk a n t L0 d0 s → (∀ i ∈ o, i < n) → o.Nodup → (∀ i ∈ o, rd s.1 (i : Int) = 0) → Tk a n t L0 d0 (tkV a t o s)
 | [], s, T, _, _, _ => T
 | i :: o, s, T, h1, h2, h3 => by
  have h4 := List.nodup_cons.1 h2
  refine Tk.run o _ (T.step (h1 i (List.mem_cons_self ..)) (h3 i (List.mem_cons_self ..))) (fun k hk => h1 k (List.mem_cons_of_mem _ hk)) h4.2 (fun k hk => ?_)
  rw [tkS_row (fun e => h4.1 (by rw [← e]; exact hk))]
  exact h3 k (List.mem_cons_of_mem _ hk)
structure Fo (a : Int) (n t k : Nat) (s : List Int × List Int × Int) : Prop where
 rest : ∀ i, k ≤ i → i < n → rd s.1 (i : Int) = 0
 gone : ∀ i, i < k → useX a (i : Int) (t : Int) = true → 0 < s.2.2 → rd s.2.1 (i : Int) = 0
 old : ∀ i j, i < k → j < i → 0 < rd s.1 (i : Int) → useX a (j : Int) (t : Int) = true → rd s.2.1 (j : Int) = 0
theorem Fo.step {a : Int} {n t k : Nat} {L0 : List Int} {d0 : Int} {s : List Int × List Int × Int} (F : Fo a n t k s) (T : Tk a n t L0 d0 s) (hk : k < n) : Fo a n t (k + 1) (tkS a t s k) := by
 have hm := mn_spec (rd s.2.1 (k : Int)) s.2.2
 refine ⟨fun i hi hin => ?_, fun i hi hu hp => ?_, fun i j hi hj hp hu => ?_⟩
 ·rw [tkS_row (by omega)]; exact F.rest i (by omega) hin
 ·by_cases e : i = k
  ·subst e
   unfold tkS at hp ⊢
   rw [if_pos hu] at hp ⊢
   dsimp only at hp ⊢
   rw [rd_set (by rw [T.l2]; exact hk), if_pos rfl]
   omega
  ·rw [tkS_left e]
   refine F.gone i (by omega) hu ?_
   unfold tkS at hp
   by_cases h2 : useX a (k : Int) (t : Int) = true
   ·rw [if_pos h2] at hp
    dsimp only at hp
    have := T.nn k hk
    have := T.nd
    omega
   ·rw [if_neg h2] at hp; exact hp
 ·rw [tkS_left (by omega)]
  by_cases e : i = k
  ·subst e
   refine F.gone j hj hu ?_
   unfold tkS at hp
   by_cases h2 : useX a (i : Int) (t : Int) = true
   ·rw [if_pos h2] at hp
    dsimp only at hp
    rw [rd_set (by rw [T.l1]; exact hk), if_pos rfl] at hp
    omega
   ·rw [if_neg h2, F.rest i (Nat.le_refl _) hk] at hp; omega
  ·rw [tkS_row e] at hp
   exact F.old i j (by omega) hj hp hu
theorem Fo.run {a : Int} {n t : Nat} {L0 : List Int} {d0 : Int} {s : List Int × List Int × Int} (T : Tk a n t L0 d0 s) (F : Fo a n t 0 s) : ∀ k, k ≤ n → Tk a n t L0 d0 (tkV a t (List.range k) s) ∧ Fo a n t k (tkV a t (List.range k) s)
 | 0, _ => ⟨T, F⟩
 | k + 1, h => by
  obtain ⟨h1, h2⟩ := Fo.run T F k (by omega)
  have e : tkV a t (List.range (k + 1)) s = tkS a t (tkV a t (List.range k) s) k := by
   unfold tkV
   rw [List.range_succ, List.foldl_append]; rfl
  rw [e]
  exact ⟨h1.step (by omega) (h2.rest k (Nat.le_refl _) (by omega)), h2.step h1 (by omega)⟩
theorem rd_ge {l : List Int} {b : Int} (h : ∀ x ∈ l, b ≤ x) {i : Nat} (hi : i < l.length) : b ≤ rd l (i : Int) := by rw [rd_nat hi]; exact h _ (List.getElem_mem hi)
theorem ordV_mem {newest : Bool} {n i : Nat} (h : i ∈ ordV newest n) : i < n := by
 unfold ordV at h
 cases newest with
 | false => simpa using h
 | true =>
  simp only [↓reduceIte, range_rev, List.mem_reverse] at h
  exact List.mem_range.1 h
theorem ordV_nodup (newest : Bool) (n : Nat) : (ordV newest n).Nodup := by
 unfold ordV
 cases newest with
 | false => simpa using List.nodup_range
 | true =>
  simp only [↓reduceIte, range_rev]
  unfold List.Nodup
  rw [List.pairwise_reverse]
  exact List.Pairwise.imp (fun h => Ne.symm h) (List.nodup_range (n := n))
theorem rd_zeros (n i : Nat) : rd (List.replicate n 0) (i : Int) = 0 := by
 unfold rd
 rw [Int.toNat_natCast, List.getD_eq_getElem?_getD, List.getElem?_replicate]
 split <;> rfl
theorem lf_Tk {a : Int} {A N : List Int} (newest : Bool) (hA : ∀ x ∈ A, 0 ≤ x ∧ x ≤ 20) (hN : ∀ x ∈ N, 0 ≤ x ∧ x ≤ 20) (hl : A.length = N.length) : ∀ t, t ≤ N.length → ((lfV a A N newest t).length = N.length ∧ (∀ i, i < N.length → 0 ≤ rd (lfV a A N newest t) (i : Int)) ∧ ∀ i, i < N.length → SM (fun k => rd (isRow a A N newest k) (i : Int)) t + rd (lfV a A N newest t) (i : Int) = rd A (i : Int))
  ∧ (t < N.length → Tk a N.length t (lfV a A N newest t) (rd N (t : Int)) (tkV a t (ordV newest N.length) (List.replicate N.length 0, lfV a A N newest t, rd N (t : Int)))) := by
 have hrun : ∀ t, t < N.length → (lfV a A N newest t).length = N.length → (∀ i, i < N.length → 0 ≤ rd (lfV a A N newest t) (i : Int)) → Tk a N.length t (lfV a A N newest t) (rd N (t : Int)) (tkV a t (ordV newest N.length) (List.replicate N.length 0, lfV a A N newest t, rd N (t : Int))) := fun t ht h1 h2 =>
  Tk.run _ _ (Tk.start h1 h2 (rd_ge (fun x hx => (hN x hx).1) ht)) (fun i hi => ordV_mem hi) (ordV_nodup _ _) (fun i _ => rd_zeros _ i)
 intro t
 induction t with
 | zero =>
  intro _
  have h2 : ∀ i, i < N.length → 0 ≤ rd A (i : Int) := fun i hi => rd_ge (fun x hx => (hA x hx).1) (by omega)
  exact ⟨⟨hl, h2, fun i hi => by rw [SM]; exact Int.zero_add _⟩, fun ht => hrun 0 ht hl h2⟩
 | succ t ih =>
  intro ht
  obtain ⟨⟨h1, h2, h3⟩, h4⟩ := ih (by omega)
  have T := h4 (by omega)
  have g : (lfV a A N newest (t + 1)).length = N.length ∧ (∀ i, i < N.length → 0 ≤ rd (lfV a A N newest (t + 1)) (i : Int)) ∧ ∀ i, i < N.length → SM (fun k => rd (isRow a A N newest k) (i : Int)) (t + 1) + rd (lfV a A N newest (t + 1)) (i : Int) = rd A (i : Int) := by
   refine ⟨T.l2, fun i hi => (T.nn i hi).2, fun i hi => ?_⟩
   have h5 := T.eq i hi
   have h6 := h3 i hi
   have e1 : rd (lfV a A N newest (t + 1)) (i : Int) = rd (tkV a t (ordV newest N.length) (List.replicate N.length 0, lfV a A N newest t, rd N (t : Int))).2.1 (i : Int) := rfl
   have e2 : rd (isRow a A N newest t) (i : Int) = rd (tkV a t (ordV newest N.length) (List.replicate N.length 0, lfV a A N newest t, rd N (t : Int))).1 (i : Int) := rfl
   rw [SM]
   omega
  exact ⟨g, fun h5 => hrun (t + 1) h5 g.1 g.2.1⟩
theorem useX_iff {a : Int} {L i t : Nat} (ha : a = (L : Int)) : useX a (i : Int) (t : Int) = true ↔ i ≤ t ∧ t < i + L := by
 unfold useX
 rw [decide_eq_true_eq]
 omega
theorem issued_Iss {a : Int} {L : Nat} {A N : List Int} (newest : Bool) (ha : a = (L : Int)) (hA : ∀ x ∈ A, 0 ≤ x ∧ x ≤ 20) (hN : ∀ x ∈ N, 0 ≤ x ∧ x ≤ 20) (hl : A.length = N.length) : Iss L N.length (fun t => rd N (t : Int)) (fun i => rd A (i : Int)) (fun t i => rd (isRow a A N newest t) (i : Int)) := by
 have h := lf_Tk (a := a) newest hA hN hl
 refine ⟨fun t i ht hi => (((h t (by omega)).2 ht).nn i hi).1, fun t i ht hi hp => (useX_iff ha).1 (((h t (by omega)).2 ht).use i hi hp), fun t ht => ?_, fun i hi => ?_⟩
 ·have T := (h t (by omega)).2 ht
  have h1 := T.sum
  have h2 := T.nd
  unfold isRow
  omega
 ·have h1 := (h N.length (Nat.le_refl _)).1
  have h2 := h1.2.1 i hi
  have h3 := h1.2.2 i hi
  omega
theorem issuedV_len0 (a : Int) (A N : List Int) (w : Bool) : (issuedV a A N w).length = N.length := by unfold issuedV; simp

theorem w64_20 {x : Int} (h : -1000 ≤ x ∧ x ≤ 1000) : wrap64 x = x := w64 (by omega) (by omega)
theorem spec_l9Usable_x {a : Int} (A N : List Int) (c e : Int) {j x : Int} (ha : 1 ≤ a ∧ a ≤ 8) (hj : 0 ≤ j ∧ j ≤ 8) : spec_l9Usable.f a A N c e j x = some (useX a j x) := by
 unfold spec_l9Usable.f useX
 rw [w64 (by omega) (by omega)]
 by_cases h : j ≤ x
 ·rw [if_pos h]; congr 1; rw [decide_eq_decide]; omega
 ·rw [if_neg h]; congr 1; symm; exact decide_eq_false (fun q => h q.1)
structure TkB (n : Nat) (s : List Int × List Int × Int) : Prop where
 l1 : s.1.length = n
 l2 : s.2.1.length = n
 b1 : ∀ i, i < n → 0 ≤ rd s.2.1 (i : Int) ∧ rd s.2.1 (i : Int) ≤ 20
 b2 : 0 ≤ s.2.2 ∧ s.2.2 ≤ 20
theorem TkB.step {a : Int} {n t i : Nat} {s : List Int × List Int × Int} (B : TkB n s) (hi : i < n) : TkB n (tkS a t s i) := by
 unfold tkS
 by_cases h : useX a (i : Int) (t : Int) = true
 ·rw [if_pos h]
  have hm := mn_spec (rd s.2.1 (i : Int)) s.2.2
  have h1 := B.b1 i hi
  have h2 := B.b2
  refine ⟨by rw [List.length_set]; exact B.l1, by rw [List.length_set]; exact B.l2, fun k hk => ?_, by dsimp only; omega⟩
  dsimp only
  rw [rd_set (by rw [B.l2]; exact hi)]
  by_cases e : k = i
  ·rw [if_pos e]; omega
  ·rw [if_neg e]; exact B.b1 k hk
 ·rw [if_neg h]; exact B
theorem ev_spec_l9Make_l1 {a : Int} {A N : List Int} {c e : Int} (ha : 1 ≤ a ∧ a ≤ 8) (hN : N.length ≤ 8) (w : Bool) (t : Nat) (ht : t < N.length) (O : List (List Int)) (hO : O.length ≤ 8) {r : List (List Int)} (d : Nat) : ∀ (k : Nat) (s : List Int × List Int × Int), k + d = t + 1 → TkB N.length s →
  Ev (fun q => spec_l9Make.l0 q w (N.length : Int) (tkV a t ((ordV w (t + 1)).drop k) s).2.1 (O ++ [(tkV a t ((ordV w (t + 1)).drop k) s).1]) ((t + 1 : Nat) : Int) a A N c e) r → Ev (fun q => spec_l9Make.l1 q w (N.length : Int) s.2.1 O (t : Int) s.1 s.2.2 (k : Int) a A N c e) r := by
 have hol : (ordV w (t + 1)).length = t + 1 := by unfold ordV; cases w <;> simp
 induction d with
 | zero =>
  intro k s hk B h
  refine ev_succ ?_
  have c1 : ¬ (k : Int) ≤ (t : Int) := by omega
  have c2 : O.length < 5864062014805 := by omega
  simp only [spec_l9Make.l1, c1, c2, ↓reduceIte, w64_nat ht (by omega : N.length ≤ 9223372036854775807)]
  rw [List.drop_eq_nil_of_le (by omega)] at h
  exact h
 | succ d ih =>
  intro k s hk B h
  have hk' : k < (ordV w (t + 1)).length := by omega
  have hi := ordV_mem (List.getElem_mem hk')
  rw [drop_cons hk'] at h
  have ih := ih (k + 1) (tkS a t s (ordV w (t + 1))[k]) (by omega) (B.step (by omega)) h
  have ho : (ordV w (t + 1))[k] = if w = true then t - k else k := by
   unfold ordV
   cases w <;> simp
  generalize (ordV w (t + 1))[k] = i at hi ih ho
  have c1 : (k : Int) ≤ (t : Int) := by omega
  have e1 : wrap64 ((k : Int) + 1) = ((k + 1 : Nat) : Int) := w64_nat (n := 100) (by omega) (by omega)
  have hin : i < N.length := by omega
  have hj2 : Ev (fun q => spec_l9Make.j2 q w (N.length : Int) s.2.1 O (t : Int) s.1 s.2.2 (k : Int) (i : Int) a A N c e) r := by
   refine ev_succ ?_
   have hb := B.b1 i hin
   have hn := B.b2
   have hm := mn_spec (rd s.2.1 (i : Int)) s.2.2
   have c3 : (0 : Int) ≤ (i : Int) := by omega
   have c4 : (i : Int) < (s.2.1.length : Int) := by have := B.l2; omega
   have c5 : (i : Int) < (s.1.length : Int) := by have := B.l1; omega
   simp only [spec_l9Make.j2, e1, c3, c4, c5, spec_l9Usable_x A N c e ha (show 0 ≤ (i : Int) ∧ (i : Int) ≤ 8 by omega), spec_l1Least_f, Option.bind_some, ↓reduceIte]
   by_cases hu : useX a (i : Int) (t : Int) = true
   ·refine ev_yes hu ?_
    have hmn : mn s.2.2 (rd s.2.1 (i : Int)) = mn (rd s.2.1 (i : Int)) s.2.2 := by unfold mn; split <;> split <;> omega
    have er : rd (s.1.set (i : Int).toNat (mn s.2.2 (rd s.2.1 (i : Int)))) (i : Int) = mn (rd s.2.1 (i : Int)) s.2.2 := by
     rw [Int.toNat_natCast, rd_set (by have := B.l1; omega), if_pos rfl, hmn]
    rw [er, w64_20 (by omega), w64_20 (by omega), hmn]
    unfold tkS at ih
    rw [if_pos hu] at ih
    exact ih
   ·refine ev_no hu ?_
    unfold tkS at ih
    rw [if_neg hu] at ih
    exact ih
  refine ev_succ ?_
  simp only [spec_l9Make.l1, c1, ↓reduceIte]
  cases w with
  | false =>
   simp only [Bool.false_eq_true, ↓reduceIte] at ho ⊢
   subst ho
   exact hj2
  | true =>
   simp only [↓reduceIte] at ho ⊢
   rw [show wrap64 ((t : Int) - (k : Int)) = (i : Int) by rw [w64_20 (by omega)]; omega]
   exact hj2
theorem lf_TkB {a : Int} {A N : List Int} {c e : Int} (w : Bool) (h : shelfB a A N c e = true) {t : Nat} (ht : t < N.length) : TkB N.length (List.replicate N.length 0, lfV a A N w t, rd N (t : Int)) := by
 have g := shelfB_spec h
 have g2 := shelfB_all h
 have hL := (lf_Tk (a := a) w g2.1 g2.2 g.2.2 t (by omega)).1
 have hI := issued_Iss (a := a) (L := a.toNat) w (by omega) g2.1 g2.2 g.2.2
 refine ⟨by simp, hL.1, fun i hi => ⟨hL.2.1 i hi, ?_⟩, ?_⟩
 ·have h1 := hL.2.2 i hi
  have h2 : rd A (i : Int) ≤ 20 := by rw [rd_nat (by omega : i < A.length)]; exact (g2.1 _ (List.getElem_mem _)).2
  have h3 := SM_nonneg (f := fun k => rd (isRow a A N w k) (i : Int)) t (fun k hk => hI.nn k i (by omega) hi)
  dsimp only
  omega
 ·dsimp only
  rw [rd_nat ht]
  exact g2.2 _ (List.getElem_mem ht)
theorem issuedV_take {a : Int} {A N : List Int} {w : Bool} {t : Nat} (ht : t < N.length) : (issuedV a A N w).take (t + 1) = (issuedV a A N w).take t ++ [isRow a A N w t] := by
 rw [List.take_add_one, List.getElem?_eq_getElem (by rw [issuedV_len0]; exact ht)]
 unfold issuedV
 simp
theorem ev_spec_l9Make_l0 {a : Int} {A N : List Int} {c e : Int} (h : shelfB a A N c e = true) (w : Bool) (d : Nat) : ∀ t : Nat, t + d = N.length → Ev (fun q => spec_l9Make.l0 q w (N.length : Int) (lfV a A N w t) ((issuedV a A N w).take t) (t : Int) a A N c e) (issuedV a A N w) := by
 have g := shelfB_spec h
 induction d with
 | zero =>
  intro t ht
  refine ev_succ ?_
  have c1 : ¬ (t : Int) < (N.length : Int) := by omega
  simp only [spec_l9Make.l0, c1, ↓reduceIte]
  rw [List.take_of_length_le (by rw [issuedV_len0]; omega)]
  exact Ev.now _
 | succ d ih =>
  intro t ht
  refine ev_succ ?_
  have ht' : t < N.length := by omega
  have c1 : (t : Int) < (N.length : Int) := by omega
  have c2 : (0 : Int) ≤ (N.length : Int) := by omega
  have c3 : (N.length : Int).toNat ≤ 35184372088832 := by omega
  have c4 : (0 : Int) ≤ (t : Int) := by omega
  simp only [spec_l9Make.l0, c1, c2, c3, c4, ↓reduceIte]
  have hr := ih (t + 1) (by omega)
  rw [issuedV_take ht'] at hr
  have := ev_spec_l9Make_l1 (A := A) (c := c) (e := e) g.1 g.2.1 w t ht' ((issuedV a A N w).take t) (by rw [List.length_take]; omega) (t + 1) 0 (List.replicate N.length 0, lfV a A N w t, rd N (t : Int)) (by omega) (lf_TkB w h ht') (by
   rw [List.drop_zero, ← tkV_ord a ht']
   exact hr)
  simpa using this
theorem ev_spec_l9Make {a : Int} {A N : List Int} {c e : Int} (h : shelfB a A N c e = true) (w : Bool) : Ev (fun q => spec_l9Make.f q a A N c e w) (issuedV a A N w) := by
 have g := shelfB_spec h
 unfold spec_l9Make.f
 simp only [spec_l1Own_f A (show A.length ≤ 1000000000 by omega), Option.bind_some]
 have hh := ev_spec_l9Make_l0 h w N.length 0 (by omega)
 rw [List.take_zero] at hh
 exact hh

theorem spec_l1Cur_one_ok (l : List Int) (a sd n : Int) (hl : codeOk l) (ha : 0 ≤ a ∧ a ≤ 1000000000) (hn : 1 ≤ n ∧ n ≤ 1000000) : ∃ r a' s', spec_l1Cur_one.f l a sd n = some (r, a', s') ∧ (a ≤ a' ∧ a' ≤ a + 2) := by
 obtain ⟨r, a', s', e, hr, ha2⟩ := spec_l1Cur_pick_ok l a sd n hl ha hn
 unfold spec_l1Cur_one.f
 rw [e, Option.bind_some]
 exact ⟨_, _, _, rfl, ha2⟩

def firstV (a : Int) (A N : List Int) (c e : Int) (w : Bool) : List (List Int) × Bool := if shelfB a A N c e = true then (issuedV a A N w, true) else ([], false)
theorem firstV_rows {a : Int} {A N : List Int} {c e : Int} {w : Bool} : (firstV a A N c e w).1.length ≤ 8 ∧ ∀ r ∈ (firstV a A N c e w).1, r.length ≤ 8 := by
 unfold firstV
 by_cases h : shelfB a A N c e = true
 ·rw [if_pos h]
  have g := shelfB_spec h
  have g2 := shelfB_all h
  refine ⟨by dsimp only; rw [issuedV_len0]; exact g.2.1, fun r hr => ?_⟩
  unfold issuedV at hr
  obtain ⟨t, ht, rfl⟩ := List.mem_map.1 hr
  have := ((lf_Tk (a := a) w g2.1 g2.2 g.2.2 t (by have := List.mem_range.1 ht; omega)).2 (List.mem_range.1 ht)).l1
  unfold isRow
  omega
 ·rw [if_neg h]; exact ⟨Nat.zero_le _, fun r hr => by simp at hr⟩

def sqT (n : Nat) (m : List (List Int)) : Prop := m.length = n ∧ ∀ i, i < n → (rd_L1 m (i : Int)).length = n
theorem sqT.set {n : Nat} {m : List (List Int)} (h : sqT n m) {i : Nat} (hi : i < n) {r : List Int} (hr : r.length = n) : sqT n (m.set i r) := by
 refine ⟨by rw [List.length_set]; exact h.1, fun k hk => ?_⟩
 have h2 := h.2 k hk
 have h1 := h.1
 rw [rdL_nat (by rw [List.length_set]; omega), List.getElem_set]
 by_cases e : i = k
 ·rw [if_pos e]; exact hr
 ·rw [if_neg e, ← rdL_nat (by omega)]; exact h2
theorem ev_spec_l1Cur_issue_l0 (l : List Int) (hl : codeOk l) (n : Nat) (hn : 1 ≤ n ∧ n ≤ 8) (d : Nat) : ∀ (m : List (List Int)) (a sd : Int), sqT n m → 0 ≤ a → a + 20 * (d : Int) ≤ 1000000 → ∃ m' a' sd', Ev (fun k => spec_l1Cur_issue.l0 k m (d : Int) l a sd) (m', a', sd') ∧ m'.length ≤ 10 ∧ (∀ r ∈ m', r.length ≤ 10) ∧ 0 ≤ a' ∧ a' ≤ a + 20 * (d : Int) + 10 := by
 have rows : ∀ m : List (List Int), sqT n m → m.length ≤ 10 ∧ ∀ r ∈ m, r.length ≤ 10 := fun m h => by
  refine ⟨by have := h.1; omega, fun r hr => ?_⟩
  obtain ⟨i, hi, rfl⟩ := List.getElem_of_mem hr
  have := h.2 i (by have := h.1; omega)
  rw [rdL_nat hi] at this
  omega
 induction d with
 | zero =>
  intro m a sd hm ha hb
  obtain ⟨r, a1, s1, e1, ha1⟩ := spec_l1Cur_one_ok l a sd 24 hl (by omega) (by omega)
  have c0 : ¬ ((0 : Nat) : Int) > 0 := by omega
  have h1 := hm.1
  cases r with
  | false =>
   refine ⟨m, a1, s1, ev_succ ?_, (rows m hm).1, (rows m hm).2, by omega, by omega⟩
   simp only [spec_l1Cur_issue.l0, c0, e1, Option.bind_some, Bool.false_eq_true, ↓reduceIte]
   exact Ev.now _
  | true =>
   have h2 := hm.2 0 (by omega)
   have c1 : 0 < (m.length : Int) := by omega
   have c2 : (rd_L1 m 0).length < 17592186044416 := by
    have h3 : (rd_L1 m 0).length = n := h2
    omega
   refine ⟨m.set (0 : Int).toNat (rd_L1 m 0 ++ [0]), a1, s1, ev_succ ?_, by rw [List.length_set]; omega, fun r hr => ?_, by omega, by omega⟩
   ·simp only [spec_l1Cur_issue.l0, c0, c1, c2, e1, Option.bind_some, ↓reduceIte]
    exact Ev.now _
   ·rcases List.mem_or_eq_of_mem_set hr with hr | hr
    ·exact (rows m hm).2 r hr
    ·have h3 : (rd_L1 m 0).length = n := h2
     rw [hr, List.length_append, List.length_singleton]; omega
 | succ d ih =>
  intro m a sd hm ha hb
  have h1 := hm.1
  obtain ⟨t, a1, s1, e1, ht, ha1⟩ := spec_l1Cur_pick_ok l a sd (m.length : Int) hl (by omega) (by omega)
  obtain ⟨i, a2, s2, e2, hi, ha2⟩ := spec_l1Cur_pick_ok l a1 s1 (m.length : Int) hl (by omega) (by omega)
  obtain ⟨t, rfl⟩ : ∃ q : Nat, t = (q : Int) := ⟨t.toNat, by omega⟩
  obtain ⟨i, rfl⟩ : ∃ q : Nat, i = (q : Int) := ⟨i.toNat, by omega⟩
  have ht' : t < n := by omega
  have hi' : i < n := by omega
  have hrl := hm.2 t ht'
  have c0 : ((d + 1 : Nat) : Int) > 0 := by omega
  have c1 : (0 : Int) ≤ (t : Int) := by omega
  have c2 : (t : Int) < (m.length : Int) := by omega
  have c3 : (0 : Int) ≤ (i : Int) := by omega
  have c4 : (i : Int) < ((rd_L1 m (t : Int)).length : Int) := by omega
  have ew : wrap64 (((d + 1 : Nat) : Int) - 1) = (d : Int) := by rw [w64 (by omega) (by omega)]; omega
  have hj : ∀ (x : Bool) (a3 sd3 : Int), a2 ≤ a3 → a3 ≤ a2 + 2 → ∃ m' a' sd', Ev (fun k => spec_l1Cur_issue.j1 k m ((d + 1 : Nat) : Int) (t : Int) (i : Int) x l a3 sd3) (m', a', sd') ∧ m'.length ≤ 10 ∧ (∀ r ∈ m', r.length ≤ 10) ∧ 0 ≤ a' ∧ a' ≤ a + 20 * ((d + 1 : Nat) : Int) + 10 := by
   intro x a3 sd3 h3 h4
   cases x with
   | false =>
    obtain ⟨m', a', sd', e, g1, g2, g3, g4⟩ := ih m a3 sd3 hm (by omega) (by omega)
    refine ⟨m', a', sd', ev_succ ?_, g1, g2, g3, by omega⟩
    simp only [spec_l1Cur_issue.j1, Bool.false_eq_true, ↓reduceIte, ew]
    exact e
   | true =>
    have hm2 := hm.set ht' (r := (rd_L1 m (t : Int)).set i (wrap64 (rd (rd_L1 m (t : Int)) (i : Int) - 1))) (by rw [List.length_set]; exact hrl)
    generalize hM : m.set t ((rd_L1 m (t : Int)).set i (wrap64 (rd (rd_L1 m (t : Int)) (i : Int) - 1))) = m2 at hm2
    obtain ⟨u, a4, s4, e4, hu, ha4⟩ := spec_l1Cur_pick_ok l a3 sd3 (m.length : Int) hl (by omega) (by omega)
    obtain ⟨q, a5, s5, e5, ha5⟩ := spec_l1Cur_one_ok l a4 s4 2 hl (by omega) (by omega)
    obtain ⟨u, rfl⟩ : ∃ q : Nat, u = (q : Int) := ⟨u.toNat, by omega⟩
    have hu' : u < n := by omega
    cases q with
    | false =>
     obtain ⟨m', a', sd', e, g1, g2, g3, g4⟩ := ih m2 a5 s5 hm2 (by omega) (by omega)
     refine ⟨m', a', sd', ev_succ ?_, g1, g2, g3, by omega⟩
     simp only [spec_l1Cur_issue.j1, c1, c2, c3, c4, e4, e5, Option.bind_some, Int.toNat_natCast, hM, Bool.false_eq_true, ↓reduceIte, ew]
     exact e
    | true =>
     have c5 : (0 : Int) ≤ (u : Int) := by omega
     have c6 : (u : Int) < (m.length : Int) := by omega
     have c7 : (i : Int) < ((rd_L1 m2 (u : Int)).length : Int) := by have := hm2.2 u hu'; omega
     obtain ⟨m', a', sd', e, g1, g2, g3, g4⟩ := ih (m2.set u ((rd_L1 m2 (u : Int)).set i (wrap64 (rd (rd_L1 m2 (u : Int)) (i : Int) + 1)))) a5 s5 (hm2.set hu' (by rw [List.length_set]; exact hm2.2 u hu')) (by omega) (by omega)
     refine ⟨m', a', sd', ev_succ ?_, g1, g2, g3, by omega⟩
     simp only [spec_l1Cur_issue.j1, c1, c2, c3, c4, c5, c6, c7, e4, e5, Option.bind_some, Int.toNat_natCast, hM, ↓reduceIte, ew]
     exact e
  by_cases hp : rd (rd_L1 m (t : Int)) (i : Int) > 0
  ·obtain ⟨m', a', sd', e, g⟩ := hj true a2 s2 (by omega) (by omega)
   refine ⟨m', a', sd', ev_succ ?_, g⟩
   simp only [spec_l1Cur_issue.l0, c0, c1, c2, c3, c4, hp, e1, e2, Option.bind_some, ↓reduceIte]
   exact e
  ·obtain ⟨q, a3, s3, e3, ha3⟩ := spec_l1Cur_one_ok l a2 s2 8 hl (by omega) (by omega)
   obtain ⟨m', a', sd', e, g⟩ := hj q a3 s3 (by omega) (by omega)
   refine ⟨m', a', sd', ev_succ ?_, g⟩
   simp only [spec_l1Cur_issue.l0, c0, c1, c2, c3, c4, hp, e1, e2, e3, Option.bind_some, ↓reduceIte]
   exact e
theorem ev_spec_l1Cur_issue (l : List Int) (a sd : Int) (hl : codeOk l) (ha : 0 ≤ a ∧ a ≤ 10000) (x : Int) (A N : List Int) (w c : Int) (hA : A.length ≤ 30) (hN : N.length ≤ 10) : ∃ m a' sd', Ev (fun k => spec_l1Cur_issue.f k l a sd x A N w c) (m, a', sd') ∧ m.length ≤ 10 ∧ (∀ r ∈ m, r.length ≤ 10) ∧ 0 ≤ a' ∧ a' ≤ a + 1000 := by
 unfold spec_l1Cur_issue.f
 have hg := ev_spec_l9Good x A N w c (by omega) (by omega)
 by_cases h : shelfB x A N w c = true
 ·obtain ⟨b, a1, s1, e1, ha1⟩ := spec_l1Cur_one_ok l a sd 2 hl (by omega) (by omega)
  have hM := ev_spec_l9Make h b
  have hlen := issuedV_len0 x A N b
  have hrow := (firstV_rows (a := x) (A := A) (N := N) (c := w) (e := c) (w := b)).2
  unfold firstV at hrow
  rw [if_pos h] at hrow
  dsimp only at hrow
  have g := shelfB_spec h
  have g2 := shelfB_all h
  have hsq : sqT N.length (issuedV x A N b) := ⟨hlen, fun i hi => by
   rw [rdL_nat (by omega)]
   unfold issuedV
   simp only [List.getElem_map, List.getElem_range]
   exact ((lf_Tk (a := x) b g2.1 g2.2 g.2.2 i (by omega)).2 hi).l1⟩
  by_cases h0 : ((issuedV x A N b).length : Int) = 0
  ·refine ⟨issuedV x A N b, a1, s1, ?_, by omega, fun r hr => by have := hrow r hr; omega, by omega, by omega⟩
   refine Ev.bind hg ?_
   simp only [h, e1, Option.bind_some, ↓reduceIte]
   refine Ev.bind hM ?_
   simp only [h0, ↓reduceIte]
   exact Ev.now _
  ·obtain ⟨q, a2, s2, e2, hq, ha2⟩ := spec_l1Cur_pick_ok l a1 s1 4 hl (by omega) (by omega)
   obtain ⟨q, rfl⟩ : ∃ p : Nat, q = (p : Int) := ⟨q.toNat, by omega⟩
   obtain ⟨m, a', sd', e, g3, g4, g5, g6⟩ := ev_spec_l1Cur_issue_l0 l hl N.length (by omega) q _ a2 s2 hsq (by omega) (by omega)
   refine ⟨m, a', sd', ?_, g3, g4, g5, by omega⟩
   refine Ev.bind hg ?_
   simp only [h, e1, Option.bind_some, ↓reduceIte]
   refine Ev.bind hM ?_
   simp only [h0, e2, Option.bind_some, ↓reduceIte]
   exact e
 ·rw [Bool.not_eq_true] at h
  rw [h] at hg
  refine ⟨[[0]], a, sd, ?_, by simp, fun r hr => by simp at hr; rw [hr]; simp, by omega, by omega⟩
  refine Ev.bind hg ?_
  simp only [Bool.false_eq_true, ↓reduceIte, List.length_nil, List.nil_append]
  exact ev_yes (by omega) (Ev.now _)

theorem ev_spec_DrawStockByAge (l : List Int) (hl : codeOk l) : ∃ x A N w c m t, Ev (fun k => spec_DrawStockByAge.f k l) (x, A, N, w, c, m, t) ∧ A.length ≤ 30 ∧ N.length ≤ 10 ∧ m.length ≤ 10 ∧ (∀ r ∈ m, r.length ≤ 10) ∧ (-100 ≤ t ∧ t ≤ 100) := by
 obtain ⟨x, A, N, w, c, a1, s1, e1, h1, h2, h3, h4⟩ := ev_spec_l1Cur_shelf l 0 0 hl (by omega)
 obtain ⟨m, a2, s2, e2, g1, g2, g3, g4⟩ := ev_spec_l1Cur_issue l a1 s1 hl (by omega) x A N w c h1 h2
 have ew : wrap64 ((N.length : Int) + 2) = (N.length : Int) + 2 := w64 (by omega) (by omega)
 obtain ⟨t, a3, s3, e3, ht, _⟩ := spec_l1Cur_pick_ok l a2 s2 ((N.length : Int) + 2) hl (by omega) (by omega)
 have et : wrap64 (t - 1) = t - 1 := w64 (by omega) (by omega)
 refine ⟨x, A, N, w, c, m, t - 1, ?_, h1, h2, g1, g2, by omega⟩
 unfold spec_DrawStockByAge.f
 refine Ev.bind e1 ?_
 dsimp only
 refine Ev.bind e2 ?_
 simp only [ew, e3, et, Option.bind_some]
 exact Ev.now _

theorem ev_spec_l2Bits_l0 (n c : Nat) (hn : n ≤ 8) (hc : c < 256) (d : Nat) : ∀ (i : Nat) (o : List Int), i + d = n → o.length ≤ i → Ev (fun k => spec_l2Bits.l0 k (n : Int) (c : Int) o (i : Int)) (o ++ bitsV c d i) := by
 induction d with
 | zero =>
  intro i o hi ho
  refine ev_succ ?_
  have c1 : ¬ (i : Int) < (n : Int) := by omega
  simp only [spec_l2Bits.l0, c1, ↓reduceIte, bitsV, List.append_nil]
  exact Ev.now _
 | succ d ih =>
  intro i o hi ho
  refine ev_succ ?_
  have c1 : (i : Int) < (n : Int) := by omega
  have c2 : (0 : Int) ≤ (i : Int) := by omega
  have c3 : o.length < 17592186044416 := by omega
  have hb := bit_test c i hc (by omega)
  have hw := w64_nat (show i < n by omega) (show n ≤ 9223372036854775807 by omega)
  simp only [spec_l2Bits.l0, c1, c2, c3, ↓reduceIte, hw]
  rw [bitsV]
  by_cases h : c.testBit i = true
  ·rw [if_pos h]
   simp only [if_pos (hb.2 h)]
   refine ev_eq (ih (i + 1) _ (by omega) (by rw [List.length_append, List.length_singleton]; omega)) ?_
   rw [List.append_assoc]
   rfl
  ·rw [if_neg h]
   simp only [if_neg (fun q => h (hb.1 q))]
   exact ih (i + 1) _ (by omega) (by omega)
theorem ev_spec_l2Bits (n c : Nat) (hn : n ≤ 8) (hc : c < 256) : Ev (fun k => spec_l2Bits.f k (n : Int) (c : Int)) (bitsV c n 0) := by
 unfold spec_l2Bits.f
 simpa using ev_spec_l2Bits_l0 n c hn hc n 0 [] (by omega) (Nat.le_refl _)

theorem ev_spec_DrawLostBound (l : List Int) (hl : codeOk l) : ∃ x A N w c S, Ev (fun k => spec_DrawLostBound.f k l) (x, A, N, w, c, S) ∧ A.length ≤ 30 ∧ N.length ≤ 10 ∧ S.length ≤ 10 := by
 obtain ⟨x, A, N, w, c, a1, s1, e1, h1, h2, h3, h4⟩ := ev_spec_l1Cur_shelf l 0 0 hl (by omega)
 obtain ⟨n, hn, hn8⟩ : ∃ n : Nat, mn (N.length : Int) 8 = (n : Int) ∧ n ≤ 8 := by
  unfold mn
  split
  ·exact ⟨8, rfl, by omega⟩
  ·exact ⟨N.length, rfl, by omega⟩
 have hp := pow8 hn8
 obtain ⟨q, a2, s2, e2, hq, ha2⟩ := spec_l1Cur_pick_ok l a1 s1 ((2 ^ n : Nat) : Int) hl (by omega) (by omega)
 obtain ⟨q, rfl⟩ : ∃ p : Nat, q = (p : Int) := ⟨q.toNat, by omega⟩
 have hb := ev_spec_l2Bits n q hn8 (by omega)
 have hbl := bitsV_len q n 0
 obtain ⟨b, a3, s3, e3, ha3⟩ := spec_l1Cur_one_ok l a2 s2 16 hl (by omega) (by omega)
 have c1 : (0 : Int) ≤ (n : Int) := by omega
 cases b with
 | true =>
  obtain ⟨v, a4, s4, e4, _, _⟩ := spec_l1Cur_among_ok l a3 s3 [(-1), 0, 8] hl (by omega) (by simp)
  have c2 : (bitsV q n 0).length < 17592186044416 := by omega
  refine ⟨x, A, N, w, c, bitsV q n 0 ++ [v], ?_, h1, h2, by rw [List.length_append, List.length_singleton]; omega⟩
  unfold spec_DrawLostBound.f
  refine Ev.bind e1 ?_
  simp only [spec_l1Least_f, hn, c1, shl_pow hn8, e2, Option.bind_some, ↓reduceIte]
  refine Ev.bind hb ?_
  simp only [e3, e4, c2, Option.bind_some, ↓reduceIte]
  exact Ev.now _
 | false =>
  refine ⟨x, A, N, w, c, bitsV q n 0, ?_, h1, h2, by omega⟩
  unfold spec_DrawLostBound.f
  refine Ev.bind e1 ?_
  simp only [spec_l1Least_f, hn, c1, shl_pow hn8, e2, Option.bind_some, ↓reduceIte]
  refine Ev.bind hb ?_
  simp only [e3, Option.bind_some, Bool.false_eq_true, ↓reduceIte]
  exact Ev.now _

theorem laws_vCut_ok (l : List Int) (hl : codeOk l) (hn : l.length ≤ 65536) : ∃ l', laws_vCut.f l 1 = some l' ∧ codeOk l' := by
 unfold laws_vCut.f
 by_cases h : (1 : Int) > (l.length : Int)
 ·refine ⟨[] ++ l.drop ((l.length : Int) : Int).toNat ++ [(l.length : Int) % 256], ?_, fun x hx => ?_⟩
  ·rw [if_pos h, Option.bind_some, if_pos (by omega), if_pos (by omega), if_pos (by simp only [List.length_nil, List.length_drop]; omega), Option.bind_some, if_pos (by simp only [List.length_append, List.length_nil, List.length_drop]; omega)]
  ·simp only [List.nil_append, List.mem_append, List.mem_singleton] at hx
   rcases hx with hx | hx
   ·exact hl x (List.mem_of_mem_drop hx)
   ·omega
 ·refine ⟨[] ++ l.drop ((1 : Int) : Int).toNat ++ [(1 : Int) % 256], ?_, fun x hx => ?_⟩
  ·rw [if_neg h, Option.bind_some, if_pos (by omega), if_pos (by omega), if_pos (by simp only [List.length_nil, List.length_drop]; omega), Option.bind_some, if_pos (by simp only [List.length_append, List.length_nil, List.length_drop]; omega)]
  ·simp only [List.nil_append, List.mem_append, List.mem_singleton] at hx
   rcases hx with hx | hx
   ·exact hl x (List.mem_of_mem_drop hx)
   ·omega

theorem spec_l9Usable_b {a : Int} (A N : List Int) (c e : Int) {j x : Int} (ha : 1 ≤ a ∧ a ≤ 8) (hj : 0 ≤ j ∧ j ≤ 8) : spec_l9Usable.f a A N c e j x = some (useX a j x) := by
 unfold spec_l9Usable.f useX
 rw [w64 (by omega) (by omega)]
 by_cases h : j ≤ x
 ·rw [if_pos h]; congr 1; rw [decide_eq_decide]; omega
 ·rw [if_neg h]; congr 1; symm; exact decide_eq_false (fun q => h q.1)
theorem ev_spec_l9Bound_l2 {a : Int} {A N : List Int} {c e : Int} (ha : 1 ≤ a ∧ a ≤ 8) (s : List Int) (hs : s.length ≤ 8) (v : Int) (j : Nat) (hj : j < A.length) (hA : A.length ≤ 8) {R1 R2 : Int} (h1 : Ev (fun k => spec_l9Bound.l1 k s (wrap64 (v - rd A (j : Int))) ((j + 1 : Nat) : Int) a A N c e) R1) (h2 : Ev (fun k => spec_l9Bound.l1 k s v ((j + 1 : Nat) : Int) a A N c e) R2) (d : Nat) : ∀ (i : Nat) (b : Bool), i + d = s.length → Ev (fun k => spec_l9Bound.l2 k s v (j : Int) b (i : Int) a A N c e) (if (b || (s.drop i).any (useX a (j : Int))) = true then R1 else R2) := by
 have hw := w64_nat hj (show A.length ≤ 9223372036854775807 by omega)
 induction d with
 | zero =>
  intro i b hi
  refine ev_succ ?_
  have c1 : ¬ (i : Int) < (s.length : Int) := by omega
  have c2 : (0 : Int) ≤ (j : Int) := by omega
  have c3 : (j : Int) < (A.length : Int) := by omega
  simp only [spec_l9Bound.l2, c1, c2, c3, ↓reduceIte, hw]
  rw [List.drop_eq_nil_of_le (by omega), List.any_nil, Bool.or_false]
  exact ev_ite (fun q => by rw [if_pos q]; exact h1) (fun q => by rw [if_neg q]; exact h2)
 | succ d ih =>
  intro i b hi
  refine ev_succ ?_
  have hi' : i < s.length := by omega
  have c1 : (i : Int) < (s.length : Int) := by omega
  have c2 : (0 : Int) ≤ (i : Int) := by omega
  simp only [spec_l9Bound.l2, c1, c2, ↓reduceIte, rd_nat hi', w64_nat hi' (show s.length ≤ 9223372036854775807 by omega), spec_l9Usable_b A N c e ha (show 0 ≤ (j : Int) ∧ (j : Int) ≤ 8 by omega), Option.bind_some]
  rw [drop_cons hi', List.any_cons]
  cases b with
  | true =>
   refine ev_yes rfl ?_
   refine ev_eq (ih (i + 1) true (by omega)) ?_
   simp
  | false =>
   refine ev_no (by simp) ?_
   refine ev_eq (ih (i + 1) _ (by omega)) ?_
   rw [Bool.false_or]
theorem ev_spec_l9Bound_l1 {a : Int} {A N : List Int} {c e : Int} (h : shelfB a A N c e = true) (s : List Int) (hs : s.length ≤ 8) (d : Nat) : ∀ (j : Nat) (v : Int), j + d = A.length → -20 * (j : Int) ≤ v → v ≤ 160 → Ev (fun k => spec_l9Bound.l1 k s v (j : Int) a A N c e) (bW a s (A.drop j) j v) := by
 have g := shelfB_spec h
 have g2 := shelfB_all h
 induction d with
 | zero =>
  intro j v hj h1 h2
  refine ev_succ ?_
  have c1 : ¬ (j : Int) < (A.length : Int) := by omega
  simp only [spec_l9Bound.l1, c1, ↓reduceIte]
  rw [List.drop_eq_nil_of_le (by omega)]
  exact Ev.now _
 | succ d ih =>
  intro j v hj h1 h2
  refine ev_succ ?_
  have hj' : j < A.length := by omega
  have c1 : (j : Int) < (A.length : Int) := by omega
  have hy := g2.1 _ (List.getElem_mem hj')
  simp only [spec_l9Bound.l1, c1, ↓reduceIte]
  rw [drop_cons hj', bW]
  have e1 : wrap64 (v - rd A (j : Int)) = v - A[j] := by rw [rd_nat hj', w64 (by omega) (by omega)]
  refine ev_eq (ev_spec_l9Bound_l2 g.1 s hs v j hj' (by omega) (by rw [e1]; exact ih (j + 1) _ (by omega) (by omega) (by omega)) (ih (j + 1) v (by omega) (by omega) (by omega)) s.length 0 false (by omega)) ?_
  rw [Bool.false_or, List.drop_zero]
  by_cases q : s.any (useX a (j : Int)) = true
  ·rw [if_pos q, if_pos q]
  ·rw [if_neg q, if_neg q]
theorem ev_spec_l9Bound_l0 {a : Int} {A N : List Int} {c e : Int} (h : shelfB a A N c e = true) (s : List Int) (hs : setN N s) (d : Nat) : ∀ (i : Nat) (v : Int), i + d = s.length → 0 ≤ v → v ≤ 20 * (i : Int) → Ev (fun k => spec_l9Bound.l0 k s v (i : Int) a A N c e) (bW a s A 0 (bS N (s.drop i) v)) := by
 have g := shelfB_spec h
 have g2 := shelfB_all h
 have g3 := hs.1
 induction d with
 | zero =>
  intro i v hi h1 h2
  refine ev_succ ?_
  have c1 : ¬ (i : Int) < (s.length : Int) := by omega
  simp only [spec_l9Bound.l0, c1, ↓reduceIte]
  rw [List.drop_eq_nil_of_le (by omega), bS]
  simpa using ev_spec_l9Bound_l1 h s (by omega) A.length 0 v (by omega) (by omega) (by omega)
 | succ d ih =>
  intro i v hi h1 h2
  refine ev_succ ?_
  have hi' : i < s.length := by omega
  have c1 : (i : Int) < (s.length : Int) := by omega
  have c2 : (0 : Int) ≤ (i : Int) := by omega
  have hx := hs.2 _ (List.getElem_mem hi')
  obtain ⟨x, hxx⟩ : ∃ x : Nat, s[i] = (x : Int) := ⟨s[i].toNat, by omega⟩
  have hx' : x < N.length := by omega
  have hy := g2.2 _ (List.getElem_mem hx')
  have c3 : (0 : Int) ≤ s[i] := hx.1
  have c4 : s[i] < (N.length : Int) := hx.2
  simp only [spec_l9Bound.l0, c1, c2, ↓reduceIte, rd_nat hi', c3, c4, w64_nat hi' (show s.length ≤ 9223372036854775807 by omega)]
  rw [drop_cons hi', bS]
  have e1 : wrap64 (v + rd N s[i]) = v + rd N s[i] := by rw [hxx, rd_nat hx', w64 (by omega) (by omega)]
  rw [e1]
  refine ih (i + 1) _ (by omega) ?_ ?_
  ·rw [hxx, rd_nat hx']; omega
  ·rw [hxx, rd_nat hx']; omega
theorem ev_spec_l9Bound {a : Int} {A N : List Int} {c e : Int} (h : shelfB a A N c e = true) {s : List Int} (hs : setN N s) : Ev (fun k => spec_l9Bound.f k a A N c e s) (boundV a A N s) := by
 unfold spec_l9Bound.f boundV
 simpa using ev_spec_l9Bound_l0 h s hs s.length 0 0 (by omega) (by omega) (by omega)

theorem ev_spec_l1Rising_l0 (s : List Int) (n : Int) (hs : s.length ≤ 1000) (d : Nat) : ∀ i : Nat, i + d = s.length → Ev (fun k => spec_l1Rising.l0 k s 0 (n - 1) (i : Int)) (allFrom (riseAt s n) d i) := by
 induction d with
 | zero =>
  intro i hi
  refine ev_succ ?_
  have c1 : ¬ (i : Int) < (s.length : Int) := by omega
  simp only [spec_l1Rising.l0, c1, ↓reduceIte]
  exact Ev.now _
 | succ d ih =>
  intro i hi
  refine ev_succ ?_
  have hi' : i < s.length := by omega
  have c1 : (i : Int) < (s.length : Int) := by omega
  have c2 : (0 : Int) ≤ (i : Int) := by omega
  have e2 := w64_nat hi' (show s.length ≤ 9223372036854775807 by omega)
  have hih := ih (i + 1) (by omega)
  simp only [spec_l1Rising.l0, c1, c2, ↓reduceIte, e2, spec_l1In_f, Option.bind_some]
  rw [allFrom, riseAt]
  cases hb : inB (rd s (i : Int)) 0 (n - 1) with
  | false => simp only [Bool.false_eq_true, ↓reduceIte, Bool.false_and]; exact Ev.now _
  | true =>
   simp only [↓reduceIte, Bool.true_and]
   by_cases h0 : i = 0
   ·refine ev_no (by omega) ?_
    refine ev_eq hih ?_
    simp [h0]
   ·have e3 : wrap64 ((i : Int) - 1) = (i : Int) - 1 := w64 (by omega) (by omega)
    refine ev_yes (by omega) ?_
    rw [e3]
    refine ev_yes (by omega) ?_
    refine ev_yes (by omega) ?_
    refine ev_ite (fun h => ?_) (fun h => ?_)
    ·refine ev_eq (Ev.now _) ?_
     have h2 : ¬ rd s ((i : Int) - 1) < rd s (i : Int) := by omega
     simp [h0, h2]
    ·refine ev_eq hih ?_
     have h2 : rd s ((i : Int) - 1) < rd s (i : Int) := by omega
     simp [h2]
theorem ev_spec_l1Rising (s : List Int) (n : Int) (hs : s.length ≤ 1000) : Ev (fun k => spec_l1Rising.f k s 0 (n - 1)) (riseB s n) := by
 unfold spec_l1Rising.f riseB
 simpa using ev_spec_l1Rising_l0 s n hs s.length 0 (by omega)

theorem ev_spec_LostBound (a : Int) (A N : List Int) (c e : Int) (s : List Int) (hA : A.length ≤ 9223372036854775807) (hN : N.length ≤ 9223372036854775807) (hs : s.length ≤ 1000) : Ev (fun k => spec_LostBound.f k a A N c e s) (lostBoundV a A N c e s) := by
 unfold spec_LostBound.f lostBoundV
 refine Ev.bind (ev_spec_l9Good a A N c e hA hN) ?_
 refine ev_ite (fun h => ?_) (fun h => ?_)
 ·rw [if_pos h]
  have g := shelfB_spec h
  have e1 : wrap64 ((N.length : Int) - 1) = (N.length : Int) - 1 := w64 (by omega) (by omega)
  rw [e1]
  refine Ev.bind (ev_spec_l1Rising s _ hs) ?_
  refine ev_ite (fun h2 => ?_) (fun h2 => ?_)
  ·rw [if_pos h2]
   refine Ev.bind (ev_spec_l9Bound h (rise_setN h2)) ?_
   exact Ev.now _
  ·rw [if_neg h2]; exact Ev.now _
 ·rw [if_neg h]; exact Ev.now _

theorem wf_u8 {x : Int} (h : (Lit.int .u8 x).wf = true) : 0 ≤ x ∧ x ≤ 255 := by
 simp [Lit.wf, IntKind.min, IntKind.max, IntKind.signed, IntKind.bits] at h
 omega

theorem SM_shift (f : Nat → Int) : ∀ n, SM f (n + 1) = f 0 + SM (fun i => f (i + 1)) n
 | 0 => by rw [SM, SM, SM]; omega
 | n + 1 => by
  rw [SM, SM_shift f n, SM]; omega
theorem SM_list : ∀ l : List Int, SM (fun i => rd l (i : Int)) l.length = l.sum
 | [] => rfl
 | x :: l => by
  rw [List.length_cons, SM_shift, List.sum_cons, ← SM_list l]
  have e : rd (x :: l) ((0 : Nat) : Int) = x := rfl
  rw [e]
  congr 1
theorem col_SM (m : List (List Int)) (j : Nat) : ∀ (d i : Nat), SM (fun t => rd (rd_L1 m (t : Int)) (j : Int)) i + colFrom m j d i = SM (fun t => rd (rd_L1 m (t : Int)) (j : Int)) (i + d)
 | 0, i => by rw [colFrom]; simp
 | d + 1, i => by
  have h := col_SM m j d (i + 1)
  rw [SM] at h
  rw [colFrom, show i + (d + 1) = i + 1 + d by omega]
  omega
theorem col_eq (m : List (List Int)) (j : Nat) : colFrom m j m.length 0 = SM (fun t => rd (rd_L1 m (t : Int)) (j : Int)) m.length := by
 have h := col_SM m j m.length 0
 rw [SM, Nat.zero_add] at h
 omega
theorem SM_bound {f : Nat → Int} {b : Int} : ∀ n : Nat, (∀ i, i < n → 0 ≤ f i ∧ f i ≤ b) → 0 ≤ SM f n ∧ SM f n ≤ b * (n : Int)
 | 0, _ => by rw [SM]; simp
 | n + 1, h => by
  have h1 := SM_bound n (fun i hi => h i (by omega))
  have h2 := h n (by omega)
  rw [SM, show ((n + 1 : Nat) : Int) = (n : Int) + 1 from rfl, Int.mul_add]
  omega
def cellX (m : List (List Int)) (t i : Nat) : Int := rd (rd_L1 m (t : Int)) (i : Int)
theorem row_SM {m : List (List Int)} {t n : Nat} (h : (rd_L1 m (t : Int)).length = n) : SM (cellX m t) n = (rd_L1 m (t : Int)).sum := by
 subst h
 exact SM_list _
structure IsV (a : Int) (A N : List Int) (m : List (List Int)) : Prop where
 len : m.length = N.length
 row : ∀ t, t < N.length → (rd_L1 m (t : Int)).length = N.length
 num : ∀ t i, t < N.length → i < N.length → 0 ≤ cellX m t i ∧ cellX m t i ≤ 20
 use : ∀ t i, t < N.length → i < N.length → 0 < cellX m t i → (i : Int) ≤ (t : Int) ∧ (t : Int) < (i : Int) + a
 sum : ∀ t, t < N.length → SM (cellX m t) N.length ≤ rd N (t : Int)
 col : ∀ i, i < N.length → SM (fun t => cellX m t i) N.length ≤ rd A (i : Int)
theorem allB_of {l : List Int} {a b : Int} (h : ∀ i, i < l.length → a ≤ rd l (i : Int) ∧ rd l (i : Int) ≤ b) : allB l a b = true := by
 unfold allB
 rw [List.all_eq_true]
 intro x hx
 obtain ⟨i, hi, rfl⟩ := List.getElem_of_mem hx
 have := h i hi
 rw [rd_nat hi] at this
 simpa using this
theorem IsV.iff {a : Int} {A N : List Int} {m : List (List Int)} (hN : N.length ≤ 8) : issueB a A N m = true ↔ IsV a A N m := by
 have small : ∀ (f : Nat → Int) (n : Nat), n ≤ 8 → (∀ i, i < n → 0 ≤ f i ∧ f i ≤ 20) → wrap64 (SM f n) = SM f n := fun f n hn h => by
  have := SM_bound n h
  exact w64 (by omega) (by omega)
 constructor
 ·intro h
  have h0 := h
  unfold issueB at h
  rw [Bool.and_eq_true, Bool.and_eq_true, decide_eq_true_eq, allFrom_iff] at h
  obtain ⟨h1, h2, h3⟩ := h
  have hr : ∀ t, t < N.length → rowB a N m t = true := fun t ht => h1 t (by omega) (by omega)
  have hl : ∀ t, t < N.length → (rd_L1 m (t : Int)).length = N.length := fun t ht => rowB_length (hr t ht)
  have hnum : ∀ t i, t < N.length → i < N.length → 0 ≤ cellX m t i ∧ cellX m t i ≤ 20 := fun t i ht hi => by
   have g := hr t ht
   unfold rowB rowOk at g
   simp only [Bool.and_eq_true] at g
   have g2 := allB_mem g.1.2.1
   unfold cellX
   have hi' : i < (rd_L1 m (t : Int)).length := by rw [hl t ht]; exact hi
   rw [rd_nat hi']
   exact g2 _ (List.getElem_mem hi')
  refine ⟨h2, hl, hnum, fun t i ht hi hp => ?_, fun t ht => ?_, fun i hi => ?_⟩
  ·have g := hr t ht
   unfold rowB at g
   rw [Bool.and_eq_true, allFrom_iff] at g
   have g2 := g.2 i (by omega) (by omega)
   unfold useB at g2
   rw [Bool.or_eq_true] at g2
   rcases g2 with g2 | g2
   ·unfold cellX at hp
    rw [Bool.not_eq_true', decide_eq_false_iff_not] at g2
    exact absurd hp g2
   ·exact of_decide_eq_true g2
  ·have g := hr t ht
   unfold rowB rowOk at g
   simp only [Bool.and_eq_true, Bool.not_eq_true', decide_eq_false_iff_not] at g
   have g2 := g.1.2.2
   rw [← row_SM (hl t ht), small _ _ hN (fun i hi => hnum t i ht hi)] at g2
   omega
  ·unfold colsB at h3
   rw [allFrom_iff] at h3
   have g := h3 i (by omega) (by omega)
   rw [Bool.not_eq_true', decide_eq_false_iff_not] at g
   unfold colV at g
   rw [col_eq, h2] at g
   have e := small (fun t => cellX m t i) N.length hN (fun t ht => hnum t i ht hi)
   unfold cellX at e ⊢
   rw [e] at g
   omega
 ·intro V
  have hl := V.len
  unfold issueB
  rw [Bool.and_eq_true, Bool.and_eq_true, decide_eq_true_eq, allFrom_iff]
  refine ⟨fun t h1 h2 => ?_, hl, ?_⟩
  ·have ht : t < N.length := by omega
   unfold rowB rowOk
   rw [Bool.and_eq_true, Bool.and_eq_true, Bool.and_eq_true, decide_eq_true_eq, allFrom_iff, Bool.not_eq_true', decide_eq_false_iff_not]
   refine ⟨⟨V.row t ht, allB_of (fun i hi => V.num t i ht (by rw [V.row t ht] at hi; exact hi)), ?_⟩, fun i h3 h4 => ?_⟩
   ·rw [← row_SM (V.row t ht), small _ _ hN (fun i hi => V.num t i ht hi)]
    have := V.sum t ht
    omega
   ·unfold useB
    rw [Bool.or_eq_true]
    by_cases hp : 0 < cellX m t i
    ·exact Or.inr (decide_eq_true (V.use t i ht (by omega) hp))
    ·refine Or.inl ?_
     rw [Bool.not_eq_true', decide_eq_false_iff_not]
     exact hp
  ·unfold colsB
   rw [allFrom_iff]
   intro i h1 h2
   have hi : i < N.length := by omega
   rw [Bool.not_eq_true', decide_eq_false_iff_not]
   unfold colV
   have e := small (fun t => cellX m t i) N.length hN (fun t ht => V.num t i ht hi)
   have c := V.col i hi
   rw [col_eq, hl]
   unfold cellX at e c
   rw [e]
   omega
theorem Iss.congr {L n : Nat} {N A : Nat → Int} {X Y : Nat → Nat → Int} (h : ∀ t i, t < n → Y t i = X t i) (I : Iss L n N A X) : Iss L n N A Y :=
 ⟨fun t i ht hi => by rw [h t i ht]; exact I.nn t i ht hi, fun t i ht hi hp => I.use t i ht hi (by rw [← h t i ht]; exact hp), fun t ht => by rw [SM_congr n (fun i _ => h t i ht)]; exact I.row t ht, fun i hi => by rw [SM_congr n (fun t ht => h t i ht)]; exact I.col i hi⟩
theorem Old.congr {L n : Nat} {N A : Nat → Int} {X Y : Nat → Nat → Int} (h : ∀ t i, t < n → Y t i = X t i) (O : Old L n N A X) : Old L n N A Y :=
 { O.toIss.congr h with
  older := fun t i j ht hi hj hu hp => by
   rw [SM_congr (t + 1) (fun k hk => h k j (by omega))]
   exact O.older t i j ht hi hj hu (by rw [← h t i ht]; exact hp)
  gone := fun t i ht hi hu hlt => by
   rw [SM_congr (t + 1) (fun k hk => h k i (by omega))]
   exact O.gone t i ht hi hu (by rw [← SM_congr n (fun i _ => h t i ht)]; exact hlt) }
theorem lostSet_most {a : Int} {A N : List Int} {c e : Int} (h : shelfB a A N c e = true) : lostSet a A N ∈ setsV N.length ∧ ∀ s ∈ setsV N.length, boundV a A N s ≤ boundV a A N (lostSet a A N) := by
 obtain ⟨t, ht, hd⟩ := setsV_head N.length
 have h0 : ([] : List Int) ∈ setsV N.length := by rw [ht]; exact List.mem_cons_self ..
 unfold lostSet
 rw [hd]
 have hin : ∀ s ∈ t, s ∈ setsV N.length := fun s hs => by rw [ht]; exact List.mem_cons_of_mem _ hs
 have hb : boundV a A N [] = 0 := boundV_nil a A N
 rcases fS_spec (costF a A N) (costF_nn h) t ([], 200) with ⟨g1, g2⟩ | ⟨g1, g2, g3, g4⟩
 ·rw [g1]
  refine ⟨h0, fun s hs => ?_⟩
  rw [hb]
  rw [ht] at hs
  rcases List.mem_cons.1 hs with hs | hs
  ·rw [hs, hb]; exact Int.le_refl _
  ·have := (g2 s hs _ (costF_in (hin s hs))).2
   dsimp only at this
   omega
 ·refine ⟨hin _ g1, fun s hs => ?_⟩
  rw [costF_in (hin _ g1)] at g2
  injection g2 with g2
  rw [ht] at hs
  rcases List.mem_cons.1 hs with hs | hs
  ·rw [hs, hb]
   dsimp only at g3
   omega
  ·have := g4 s hs _ (costF_in (hin s hs))
   omega
theorem rise_bits : ∀ (d i : Nat) (s : List Int), (∀ x ∈ s, (i : Int) ≤ x ∧ x < ((i + d : Nat) : Int)) → s.Pairwise (fun x y => x < y) → ∀ c : Nat, (∀ j, i ≤ j → j < i + d → (c.testBit j = true ↔ (j : Int) ∈ s)) → bitsV c d i = s
 | 0, i, s, h, _, c, _ => by
  cases s with
  | nil => rfl
  | cons x t => have := h x (List.mem_cons_self ..); omega
 | d + 1, i, s, h, hp, c, hc => by
  rw [bitsV]
  by_cases hb : c.testBit i = true
  ·rw [if_pos hb]
   have hm := (hc i (by omega) (by omega)).1 hb
   cases s with
   | nil => simp at hm
   | cons x t =>
    have hp2 := List.pairwise_cons.1 hp
    have hx : x = (i : Int) := by
     rcases List.mem_cons.1 hm with e | e
     ·exact e.symm
     ·have h1 := hp2.1 _ e
      have h2 := (h x (List.mem_cons_self ..)).1
      omega
    subst hx
    rw [rise_bits d (i + 1) t (fun y hy => by
     have h1 := hp2.1 y hy
     have h2 := (h y (List.mem_cons_of_mem _ hy)).2
     omega) hp2.2 c (fun j h1 h2 => by
      rw [hc j (by omega) (by omega), List.mem_cons]
      constructor
      ·rintro (e | e)
       ·omega
       ·exact e
      ·exact Or.inr)]
  ·rw [if_neg hb]
   refine rise_bits d (i + 1) s (fun y hy => ?_) hp c (fun j h1 h2 => hc j (by omega) (by omega))
   have h1 := h y hy
   have h2 : y ≠ (i : Int) := fun e => hb ((hc i (by omega) (by omega)).2 (e ▸ hy))
   omega
theorem rise_sets {s : List Int} {n : Nat} (h : riseB s (n : Int) = true) : s ∈ setsV n := by
 obtain ⟨c, h1, h2⟩ := code_of (fun j => decide ((j : Int) ∈ s)) n
 refine List.mem_map.2 ⟨c, List.mem_range.2 h1, ?_⟩
 refine rise_bits n 0 s (fun x hx => ?_) ?_ c (fun j _ hj => by rw [h2 j (by omega), decide_eq_true_eq])
 ·obtain ⟨i, hi, rfl⟩ := List.getElem_of_mem hx
  have := (rise_spec h i hi).1
  rw [rd_nat hi] at this
  omega
 ·refine List.pairwise_iff_getElem.2 (fun i j hi hj hij => ?_)
  have : ∀ d : Nat, ∀ j (hj : j < s.length), i + 1 + d = j → s[i] < s[j] := by
   intro d
   induction d with
   | zero =>
    intro j hj e
    have h3 := (rise_spec h j hj).2 (by omega)
    rw [show (j : Int) - 1 = (i : Int) by omega, rd_nat hi, rd_nat hj] at h3
    exact h3
   | succ d ih =>
    intro j hj e
    have h3 := (rise_spec h j hj).2 (by omega)
    have h4 := ih (j - 1) (by omega) (by omega)
    rw [show (j : Int) - 1 = ((j - 1 : Nat) : Int) by omega, rd_nat (by omega : j - 1 < s.length), rd_nat hj] at h3
    omega
  exact this (j - (i + 1)) j hj (by omega)
theorem colFrom_SM (m : List (List Int)) (j d : Nat) : colFrom m j d 0 = SM (fun t => cellX m t j) d := by
 have h := col_SM m j d 0
 rw [SM, Nat.zero_add] at h
 unfold cellX
 omega
theorem stock_small {a : Int} {A N : List Int} {m : List (List Int)} (V : IsV a A N m) (h8 : N.length ≤ 8) {j d : Nat} (hj : j < N.length) (hd : d ≤ N.length) : 0 ≤ colFrom m j d 0 ∧ colFrom m j d 0 ≤ 160 := by
 rw [colFrom_SM]
 have := SM_bound (f := fun t => cellX m t j) (b := 20) d (fun t ht => V.num t j (by omega) hj)
 omega
theorem stock_next {a : Int} {A N : List Int} {m : List (List Int)} (V : IsV a A N m) (h8 : N.length ≤ 8) (hA : ∀ x ∈ A, 0 ≤ x ∧ x ≤ 20) (hl : A.length = N.length) {t : Nat} (ht : t + 1 < N.length) :
  stockAt A m (t + 1) 0 = wrap64 (rd A ((t + 1 : Nat) : Int) - cellX m (t + 1) (t + 1)) ∧
  (∀ g, g ≤ t → stockAt A m (t + 1) (g + 1) = wrap64 (stockAt A m t g - cellX m (t + 1) (t - g))) ∧ ∀ g, t < g → stockAt A m (t + 1) (g + 1) = wrap64 (stockAt A m t g - 0) := by
 refine ⟨?_, fun g hg => ?_, fun g hg => ?_⟩
 ·unfold stockAt
  rw [if_neg (by omega), Nat.sub_zero, colFrom_SM, SM]
  have h0 : SM (fun k => cellX m k (t + 1)) (t + 1) = 0 := by
   rw [SM_congr (t + 1) (g := fun _ => 0) (fun k hk => ?_), SM_zero]
   have h1 := (V.num k (t + 1) (by omega) (by omega)).1
   by_cases h2 : 0 < cellX m k (t + 1)
   ·have := V.use k (t + 1) (by omega) (by omega) h2
    omega
   ·omega
  have h1 := V.num (t + 1) (t + 1) (by omega) (by omega)
  rw [h0, Int.zero_add, w64 (x := cellX m (t + 1) (t + 1)) (by omega) (by omega)]
 ·unfold stockAt
  rw [if_neg (by omega), if_neg (by omega), show t + 1 - (g + 1) = t - g by omega]
  have h1 := stock_small V h8 (j := t - g) (d := t + 1) (by omega) (by omega)
  have h2 := V.num (t + 1) (t - g) (by omega) (by omega)
  have h3 : 0 ≤ rd A ((t - g : Nat) : Int) ∧ rd A ((t - g : Nat) : Int) ≤ 20 := by rw [rd_nat (by omega : t - g < A.length)]; exact hA _ (List.getElem_mem _)
  have h4 : colFrom m (t - g) (t + 1 + 1) 0 = colFrom m (t - g) (t + 1) 0 + cellX m (t + 1) (t - g) := by rw [colFrom_SM, colFrom_SM, SM]
  rw [h4, w64 (x := colFrom m (t - g) (t + 1) 0 + cellX m (t + 1) (t - g)) (by omega) (by omega), w64 (x := colFrom m (t - g) (t + 1) 0) (by omega) (by omega), w64 (x := rd A ((t - g : Nat) : Int) - colFrom m (t - g) (t + 1) 0) (by omega) (by omega)]
  congr 1
  omega
 ·unfold stockAt
  rw [if_pos (by omega), if_pos (by omega)]
  exact w64_zero.symm
theorem ev_FnAges_l0 {a : Int} {A N : List Int} {m : List (List Int)} (c e : Int) (V : IsV a A N m) (h8 : N.length ≤ 8) (ha : 1 ≤ a ∧ a ≤ 8) (hA : ∀ x ∈ A, 0 ≤ x ∧ x ≤ 20) (hl : A.length = N.length) {t : Nat} (ht : t + 1 < N.length) (d : Nat) : ∀ q : Nat, q + d = (a - 1).toNat → Ev (fun k => laws_FnAges.l0 k m (t : Int) (mapFrom (stockAt A m t) (a - 1).toNat 0) (mapFrom (stockAt A m (t + 1)) (a - 1).toNat 0) (q : Int) a A N c e) true := by
 have sn := stock_next V h8 hA hl ht
 have hrl := V.row (t + 1) (by omega)
 have hml := V.len
 have hla := mapFrom_length (stockAt A m t) (a - 1).toNat 0
 have hln := mapFrom_length (stockAt A m (t + 1)) (a - 1).toNat 0
 have rdm : ∀ (q : Nat) (T : Nat), q < (a - 1).toNat → rd (mapFrom (stockAt A m T) (a - 1).toNat 0) (q : Int) = stockAt A m T q := fun q T hq => by
  have hq' : q < (mapFrom (stockAt A m T) (a - 1).toNat 0).length := by rw [mapFrom_length]; exact hq
  rw [rd_nat hq', mapFrom_get, Nat.zero_add]
 have ht3 : t < 1000 := by omega
 have sn0 := sn.1
 have sn1 := sn.2.1
 have sn2 := sn.2.2
 clear sn hA
 induction d with
 | zero =>
  intro q hq
  refine ev_succ ?_
  have c1 : ¬ (q : Int) < ((mapFrom (stockAt A m (t + 1)) (a - 1).toNat 0).length : Int) := by omega
  simp only [laws_FnAges.l0, c1, ↓reduceIte]
  exact Ev.now _
 | succ d ih =>
  intro q hq
  have ih := ih (q + 1) (by omega)
  refine ev_succ ?_
  have hq3 : q < 1000 := by omega
  have c1 : (q : Int) < ((mapFrom (stockAt A m (t + 1)) (a - 1).toNat 0).length : Int) := by omega
  have c2 : (0 : Int) ≤ ((t + 1 : Nat) : Int) := by omega
  have c3 : ((t + 1 : Nat) : Int) < (A.length : Int) := by omega
  have c4 : ((t + 1 : Nat) : Int) < (m.length : Int) := by omega
  have c5 : ((t + 1 : Nat) : Int) < ((rd_L1 m ((t + 1 : Nat) : Int)).length : Int) := by omega
  have c6 : (0 : Int) ≤ (q : Int) := by omega
  have hq2 : q < (a - 1).toNat := by omega
  have eq1 : wrap64 ((q : Int) + 1) = ((q + 1 : Nat) : Int) := w64_nat hq3 (by decide)
  have ew : wrap64 ((t : Int) + 1) = ((t + 1 : Nat) : Int) := w64_nat ht3 (by decide)
  simp only [laws_FnAges.l0, ew, c1, c2, c3, c4, c5, c6, ↓reduceIte, eq1]
  rw [rdm q (t + 1) hq2]
  clear ew eq1
  by_cases h0 : q = 0
  ·subst h0
   refine ev_no (by simp) ?_
   exact ev_yes sn0 ih
  ·obtain ⟨g', rfl⟩ : ∃ g', q = g' + 1 := ⟨q - 1, by clear ih sn0 sn1 sn2 rdm; omega⟩
   refine ev_yes (by clear ih sn0 sn1 sn2 rdm; omega) ?_
   have eq2 : wrap64 (((g' + 1 : Nat) : Int) - 1) = (g' : Int) := by clear ih sn0 sn1 sn2 rdm; rw [w64 (by omega) (by omega)]; omega
   have eq3 : wrap64 (((t + 1 : Nat) : Int) - ((g' + 1 : Nat) : Int)) = (t : Int) - (g' : Int) := by clear ih sn0 sn1 sn2 rdm eq2; rw [w64 (by omega) (by omega)]; omega
   have c7 : (0 : Int) ≤ (g' : Int) := Int.natCast_nonneg _
   have c8 : (g' : Int) < ((mapFrom (stockAt A m t) (a - 1).toNat 0).length : Int) := by clear ih sn0 sn1 sn2 rdm eq2 eq3; omega
   have hg2 : g' < (a - 1).toNat := by clear ih sn0 sn1 sn2 rdm eq2 eq3; omega
   simp only [eq2, eq3, c7, c8, ↓reduceIte]
   clear eq2 eq3
   rw [rdm g' t hg2]
   by_cases hgt : g' ≤ t
   ·have eq4 : (t : Int) - (g' : Int) = ((t - g' : Nat) : Int) := by clear ih sn0 sn1 sn2 rdm; omega
    have c9 : ((t - g' : Nat) : Int) < ((rd_L1 m ((t + 1 : Nat) : Int)).length : Int) := by clear ih sn0 sn1 sn2 rdm; omega
    rw [eq4]
    refine ev_yes (Int.natCast_nonneg _) ?_
    refine ev_yes (Int.natCast_nonneg _) ?_
    refine ev_yes c9 ?_
    exact ev_yes (sn1 g' hgt) ih
   ·have c9 : ¬ (t : Int) - (g' : Int) ≥ 0 := by clear ih sn0 sn1 sn2 rdm; omega
    refine ev_no c9 ?_
    exact ev_yes (sn2 g' (Nat.lt_of_not_le hgt)) ih
theorem FnAges (l0 : List (Int)) (h0 : l0.length ≤ 9223372036854775807) (w0 : ∀ y ∈ l0, (Lit.int .u8 y).wf = true) : ∃ k, laws_FnAges.f k l0 = some true := by
 refine Ev.rounds ?_
 have hl : codeOk l0 := fun x hx => wf_u8 (w0 x hx)
 unfold laws_FnAges.f
 simp only [laws_vBig.f, Option.bind_some]
 refine ev_ite (fun h => Ev.now _) (fun hbig => ?_)
 rw [decide_eq_true_eq] at hbig
 obtain ⟨a, A, N, c, e, m, t, hD, hA, hN, hm, hr, ht⟩ := ev_spec_DrawStockByAge l0 hl
 refine Ev.bind hD ?_
 dsimp only
 have hA' : A.length ≤ 9223372036854775807 := by omega
 have hN' : N.length ≤ 9223372036854775807 := by omega
 have hrow : ∀ i, i < m.length → (rd_L1 m (i : Int)).length ≤ 9223372036854775807 := fun i hi => by have := hr _ (rdL_mem hi); omega
 refine Ev.bind (ev_impl_StockByAge a A N c e m t hA' hN' hrow) ?_
 refine Ev.bind (ev_spec_StockByAge a A N c e m t hA' hN' hrow) ?_
 obtain ⟨l1, hcut, hl1⟩ := laws_vCut_ok l0 hl (by omega)
 simp only [hcut, Option.bind_some]
 obtain ⟨a2, A2, N2, c2, e2, S, hD2, hA2, hN2, hS⟩ := ev_spec_DrawLostBound l1 hl1
 refine Ev.bind hD2 ?_
 dsimp only
 refine Ev.bind (ev_impl_LostBound a2 A2 N2 c2 e2 S (by omega) (by omega) (by omega)) ?_
 refine Ev.bind (ev_spec_LostBound a2 A2 N2 c2 e2 S (by omega) (by omega) (by omega)) ?_
 have f1 := stockAgeV_length (a := a) (s := A) (n := N) (c := c) (e := e) (m := m) (t := t)
 simp only [bne_self_eq_false, Bool.false_eq_true, ↓reduceIte]
 refine Ev.bind (ev_laws_vInts_self _ (by omega)) ?_
 simp only [↓reduceIte]
 -- the stocks
 have hj1 : Ev (fun k => laws_FnAges.j1 k m t (stockAgeV a A N c e m t).1 (stockAgeV a A N c e m t).2 a A N c e) true := by
  have hend : ∀ x6 : List Int, Ev (fun k => laws_FnAges.j2 k m t x6 true a A N c e) true := fun x6 => by
   refine ev_succ ?_
   simp only [laws_FnAges.j2, ↓reduceIte]
   exact Ev.now _
  refine ev_succ ?_
  by_cases hb : (bothB a A N c e m && inB t 0 ((m.length : Int) - 1)) = true
  ·have e1 : stockAgeV a A N c e m t = (mapFrom (stockAt A m t.toNat) (a - 1).toNat 0, true) := by unfold stockAgeV; rw [if_pos hb]
   rw [e1]
   rw [Bool.and_eq_true] at hb
   have hbb := hb.1
   have hb1 := hb.1
   unfold bothB at hb1
   rw [Bool.and_eq_true] at hb1
   have g := shelfB_spec hb1.1
   have g2 := shelfB_all hb1.1
   have V := (IsV.iff (a := a) (A := A) g.2.1).1 hb1.2
   have ht2 := inB_iff.1 hb.2
   have hml := V.len
   obtain ⟨t, rfl⟩ : ∃ p : Nat, t = (p : Int) := ⟨t.toNat, by omega⟩
   have ht3 : t < 1000 := by omega
   have hq : ((t + 1 : Nat) : Int) < (N.length : Int) → (inB ((t + 1 : Nat) : Int) 0 ((m.length : Int) - 1)) = true := fun h => by rw [inB_iff]; omega
   have hla := mapFrom_length (stockAt A m t) (a - 1).toNat 0
   have hla2 : ((mapFrom (stockAt A m t) (a - 1).toNat 0).length : Int) = a - 1 := by rw [hla]; have := g.1; clear g2 hq; omega
   have ht4 : ((t + 1 : Nat) : Int) < (N.length : Int) → t + 1 < N.length := fun h => by omega
   have ew : wrap64 ((t : Int) + 1) = ((t + 1 : Nat) : Int) := w64_nat ht3 (by decide)
   simp only [laws_FnAges.j1, ↓reduceIte, ew, Int.toNat_natCast]
   by_cases hlt : ((t + 1 : Nat) : Int) ≥ (N.length : Int)
   ·rw [decide_eq_true hlt]; exact hend _
   ·rw [decide_eq_false hlt]
    have hlt2 := Int.lt_of_not_ge hlt
    refine ev_succ ?_
    simp only [laws_FnAges.j2, Bool.false_eq_true, ↓reduceIte, ew]
    clear ew
    have e3 : stockAgeV a A N c e m ((t + 1 : Nat) : Int) = (mapFrom (stockAt A m (t + 1)) (a - 1).toNat 0, true) := by
     unfold stockAgeV
     rw [hbb, hq hlt2, Int.toNat_natCast]
     exact if_pos rfl
    have hn := ev_impl_StockByAge a A N c e m ((t + 1 : Nat) : Int) hA' hN' hrow
    rw [e3] at hn
    refine Ev.bind hn ?_
    have ea : wrap64 (a - 1) = a - 1 := by have := g.1; clear hn e3 hend hrow hq ht4; exact w64 (by omega) (by omega)
    have hne : (((mapFrom (stockAt A m t) (a - 1).toNat 0).length : Int) != wrap64 (a - 1)) = false := by
     rw [ea, hla2, bne_self_eq_false]
    simp only [↓reduceIte, hne]
    clear ea hne
    refine ev_succ ?_
    simp only [laws_FnAges.j3, Bool.false_eq_true, ↓reduceIte]
    simpa using ev_FnAges_l0 c e V g.2.1 g.1 g2.1 g.2.2 (t := t) (ht4 hlt2) (a - 1).toNat 0 (Nat.zero_add _)
  ·have e1 : stockAgeV a A N c e m t = ([], false) := by unfold stockAgeV; rw [if_neg hb]
   rw [e1]
   simp only [laws_FnAges.j1, Bool.false_eq_true, ↓reduceIte]
   exact hend _
 refine ev_succ ?_
 simp only [laws_FnAges.j0, Bool.false_eq_true, ↓reduceIte]
 refine ev_ite (fun hf => ?_) (fun _ => hj1)
 unfold lostBoundV at hf ⊢
 by_cases h : shelfB a2 A2 N2 c2 e2 = true
 ·rw [if_pos h] at hf ⊢
  by_cases hR : riseB S (N2.length : Int) = true
  ·rw [if_pos hR]
   have g := shelfB_spec h
   have e3 : lostProofV a2 A2 N2 c2 e2 = (lostSet a2 A2 N2, true) := by unfold lostProofV; rw [if_pos h]
   have hP := ev_impl_LostProof a2 A2 N2 c2 e2 (by omega) (by omega)
   rw [e3] at hP
   refine Ev.bind hP ?_
   have hms := lostSet_most h
   have hset := (lostSet_in a2 A2 N2).1
   have hm1 := hms.1
   unfold setsV at hm1
   obtain ⟨kk, _, hkk⟩ := List.mem_map.1 hm1
   have hrise : riseB (lostSet a2 A2 N2) (N2.length : Int) = true := by rw [← hkk]; exact bits_rise kk N2.length
   have q3 : lostBoundV a2 A2 N2 c2 e2 (lostSet a2 A2 N2) = (boundV a2 A2 N2 (lostSet a2 A2 N2), true) := by unfold lostBoundV; rw [if_pos h, if_pos hrise]
   have hB := ev_impl_LostBound a2 A2 N2 c2 e2 (lostSet a2 A2 N2) (by omega) (by omega) (by omega)
   rw [q3] at hB
   refine Ev.bind hB ?_
   have := hms.2 S (rise_sets hR)
   simp only [↓reduceIte]
   exact ev_no (by omega) hj1
  ·rw [if_neg hR] at hf; exact absurd hf (by simp)
 ·rw [if_neg h] at hf; exact absurd hf (by simp)

end Go.Proofs.Ytgkjnhajomjhcaa.Pure
