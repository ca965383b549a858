/- The pure side of FnExactIsWorthProof: what the program's text computes and what the reference's text computes are the same value, for every argument. No condition. -/
import Derived.Test.YtmekmkhdhakohaaPFnExactIsWorthProofx11
namespace Go.Proofs.Ytmekmkhdhakohaa.Pure
open Go.RowKit Go.Proofs.Ytmekmkhdhakohaa.PFnExactIsWorthProof Go.Proofs.YtmekmkhdhakohaaW.PrintWords Go.Proofs.YtmekmkhdhakohaaW.PrintLast
set_option linter.unusedVariables false
set_option linter.unusedSimpArgs false

theorem ev_succ {α : Type} {g : Nat → Option α} {r : α} (h : Ev (fun k => g (k + 1)) r) : Ev g r := Ev.step (fun _ => rfl) h
theorem ev_pure {α : Type} {x : Option α} {r : α} (h : x = some r) : Ev (fun _ => x) r := ⟨0, fun _ _ => h⟩
theorem ev_eq {α : Type} {g : Nat → Option α} {r r' : α} (h : Ev g r) (e : r = r') : Ev g r' := e ▸ h
theorem ev_ite {α : Type} {c : Prop} [Decidable c] {g f : Nat → Option α} {r : α} (h1 : c → Ev g r) (h2 : ¬ c → Ev f r) : Ev (fun k => if c then g k else f k) r := by
 by_cases h : c
 ·simp only [h, if_true]; exact h1 h
 ·simp only [h, if_false]; exact h2 h
theorem w64 {x : Int} (h : -9223372036854775808 ≤ x) (h' : x ≤ 9223372036854775807) : wrap64 x = x := by unfold wrap64; omega
theorem w64_zero : wrap64 0 = 0 := w64 (by omega) (by omega)
theorem w64_idem (x : Int) : wrap64 (wrap64 x) = wrap64 x := by unfold wrap64; omega
theorem w64_add_l (x y : Int) : wrap64 (wrap64 x + y) = wrap64 (x + y) := by unfold wrap64; omega
theorem w64_add_r (x y : Int) : wrap64 (x + wrap64 y) = wrap64 (x + y) := by unfold wrap64; omega
theorem w64_sub_l (x y : Int) : wrap64 (wrap64 x - y) = wrap64 (x - y) := by unfold wrap64; omega
theorem w64_sub_r (x y : Int) : wrap64 (x - wrap64 y) = wrap64 (x - y) := by unfold wrap64; omega
theorem w64_shift (x k : Int) : wrap64 (x + 18446744073709551616 * k) = wrap64 x := by unfold wrap64; omega
theorem w64_ex (x : Int) : ∃ k, wrap64 x = x + 18446744073709551616 * k := by
 unfold wrap64
 exact ⟨-((x + 9223372036854775808) / 18446744073709551616), by omega⟩
theorem w64_mul_l (x y : Int) : wrap64 (wrap64 x * y) = wrap64 (x * y) := by
 obtain ⟨k, hk⟩ := w64_ex x
 rw [hk, Int.add_mul, Int.mul_assoc, w64_shift]
theorem w64_mul_r (x y : Int) : wrap64 (x * wrap64 y) = wrap64 (x * y) := by
 rw [Int.mul_comm, w64_mul_l, Int.mul_comm]
theorem w64_neg (x : Int) : wrap64 (-wrap64 x) = wrap64 (-x) := by unfold wrap64; omega
theorem w64_range (x : Int) : -9223372036854775808 ≤ wrap64 x ∧ wrap64 x ≤ 9223372036854775807 := by unfold wrap64; omega
theorem w64_nat {i n : Nat} (h : i < n) (hn : n ≤ 9223372036854775807) : wrap64 ((i : Int) + 1) = ((i + 1 : Nat) : Int) := by rw [w64 (by omega) (by omega)]; rfl
theorem wf_range {x : Int} (h : (Lit.int .i64 x).wf = true) : -9223372036854775808 ≤ x ∧ x ≤ 9223372036854775807 := by
 simp [Lit.wf, IntKind.min, IntKind.max, IntKind.signed, IntKind.bits] at h
 omega
theorem rd_nat {l : List Int} {i : Nat} (h : i < l.length) : rd l (i : Int) = l[i] := by
 unfold rd
 simp [List.getD_eq_getElem?_getD, h]
def allB (l : List Int) (a b : Int) : Bool := l.all fun x => decide (a ≤ x ∧ x ≤ b)
def inB (x a b : Int) : Bool := decide (a ≤ x ∧ x ≤ b)
theorem allB_mem {l : List Int} {a b : Int} (h : allB l a b = true) : ∀ x ∈ l, a ≤ x ∧ x ≤ b := by
 intro x hx
 have := List.all_eq_true.1 h x hx
 simpa using this
theorem inB_iff {x a b : Int} : inB x a b = true ↔ a ≤ x ∧ x ≤ b := by unfold inB; simp
theorem sum_le {l : List Int} {b : Int} (hb : ∀ x ∈ l, x ≤ b) : l.sum ≤ l.length * b := by
 induction l with
 | nil => simp
 | cons x l ih =>
  have h1 := hb x (by simp)
  have h2 := ih (fun y hy => hb y (by simp [hy]))
  rw [List.sum_cons, List.length_cons]
  have : ((l.length + 1 : Nat) : Int) * b = l.length * b + b := by rw [Int.natCast_add, Int.add_mul]; simp
  rw [this]; omega
theorem le_sum {l : List Int} {b : Int} (hb : ∀ x ∈ l, b ≤ x) : l.length * b ≤ l.sum := by
 induction l with
 | nil => simp
 | cons x l ih =>
  have h1 := hb x (by simp)
  have h2 := ih (fun y hy => hb y (by simp [hy]))
  rw [List.sum_cons, List.length_cons]
  have : ((l.length + 1 : Nat) : Int) * b = l.length * b + b := by rw [Int.natCast_add, Int.add_mul]; simp
  rw [this]; omega
theorem drop_cons {α : Type} {l : List α} {i : Nat} (h : i < l.length) : l.drop i = l[i] :: l.drop (i + 1) := List.drop_eq_getElem_cons h
theorem ev_yes {α : Type} {c : Prop} [Decidable c] {g f : Nat → Option α} {r : α} (h : c) (hg : Ev g r) : Ev (fun k => if c then g k else f k) r := ev_ite (fun _ => hg) (fun hn => absurd h hn)
theorem ev_no {α : Type} {c : Prop} [Decidable c] {g f : Nat → Option α} {r : α} (h : ¬ c) (hf : Ev f r) : Ev (fun k => if c then g k else f k) r := ev_ite (fun hn => absurd hn h) (fun _ => hf)

theorem laws_szIntS_le (l : List Int) (hl : l.length ≤ 1048576) : laws_szIntS.f l 1048576 = some (1048576 - (l.length : Int)) := by
 unfold laws_szIntS.f
 rw [w64 (by omega) (by omega), if_neg (by omega)]
theorem laws_szIntS_gt (l : List Int) (h : l.length ≤ 9223372036854775807) (hl : 1048576 < l.length) : laws_szIntS.f l 1048576 = some (-1) := by
 unfold laws_szIntS.f
 rw [w64 (by omega) (by omega), if_pos (by omega)]
theorem laws_szIntS_f (l : List Int) (t : Int) (h : l.length ≤ 9223372036854775807) (h0 : 0 ≤ t) (h1 : t ≤ 1048576) : laws_szIntS.f l t = some (if t - (l.length : Int) < 0 then -1 else t - (l.length : Int)) := by
 unfold laws_szIntS.f
 rw [w64 (by omega) (by omega)]
 by_cases hc : t - (l.length : Int) < 0
 ·rw [if_pos hc, if_pos hc]
 ·rw [if_neg hc, if_neg hc]

theorem laws_szProcess_le (n : Int) (l : List Int) (s u h b : Int) (hl : l.length ≤ 1048576) : laws_szProcess.f n l s u h b 1048576 = some (1048576 - (l.length : Int)) := by
 unfold laws_szProcess.f
 rw [laws_szIntS_le l hl, Option.bind_some, if_neg (by omega)]
theorem laws_szProcess_gt (n : Int) (l : List Int) (s u h b : Int) (hh : l.length ≤ 9223372036854775807) (hl : 1048576 < l.length) : laws_szProcess.f n l s u h b 1048576 = some (-1) := by
 unfold laws_szProcess.f
 rw [laws_szIntS_gt l hh hl, Option.bind_some, if_pos (by omega)]

theorem ev_laws_toIntS_l0 (l : List Int) (hl : l.length ≤ 9223372036854775807) (d : Nat) : ∀ (i : Nat) (o : List Int), i + d = l.length → o.length = l.length → Ev (fun k => laws_toIntS.l0 k l o (i : Int)) (o.take i ++ l.drop i) := by
 induction d with
 | zero =>
  intro i o hi ho
  refine ev_succ ?_
  have h1 : ¬ (i : Int) < (l.length : Int) := by omega
  simp only [laws_toIntS.l0, h1, ↓reduceIte]
  rw [List.drop_eq_nil_of_le (by omega), List.take_of_length_le (by omega), List.append_nil]
  exact Ev.now _
 | succ d ih =>
  intro i o hi ho
  refine ev_succ ?_
  have h1 : (i : Int) < (l.length : Int) := by omega
  have h2 : (i : Int) < (o.length : Int) := by omega
  have h0 : (0 : Int) ≤ (i : Int) := by omega
  have hi' : i < l.length := by omega
  simp only [laws_toIntS.l0, h1, h2, h0, ↓reduceIte, rd_nat hi', w64_nat hi' hl, Int.toNat_natCast]
  refine ev_eq (ih (i + 1) _ (by omega) (by simp [ho])) ?_
  rw [drop_cons hi', List.take_add_one]
  simp [ho, hi', List.take_set_of_le (Nat.le_refl i)]
theorem ev_laws_toIntS (l : List Int) (hl : l.length ≤ 1048576) : Ev (fun k => laws_toIntS.f k l) l := by
 unfold laws_toIntS.f
 have h0 : (0 : Int) ≤ (l.length : Int) := by omega
 have h1 : ((l.length : Int) : Int).toNat ≤ 35184372088832 := by omega
 simp only [h0, h1, ↓reduceIte]
 simpa using ev_laws_toIntS_l0 l (by omega) l.length 0 (List.replicate ((l.length : Int) : Int).toNat 0) (by omega) (by simp)

theorem ev_laws_toProcess (n : Int) (l : List Int) (s u h b : Int) (hl : l.length ≤ 1048576) : Ev (fun k => laws_toProcess.f k n l s u h b) (n, l, s, u, h, b) := by
 unfold laws_toProcess.f
 exact Ev.bind (ev_laws_toIntS l hl) (Ev.now _)

theorem ev_laws_eqIntS_l0 (l m : List Int) (hl : l.length ≤ 9223372036854775807) (he : l.length = m.length) (d : Nat) : ∀ (i : Nat), i + d = l.length → Ev (fun k => laws_eqIntS.l0 k l m (i : Int)) (decide (l.drop i = m.drop i)) := by
 induction d with
 | zero =>
  intro i hi
  refine ev_succ ?_
  have h1 : ¬ (i : Int) < (l.length : Int) := by omega
  simp only [laws_eqIntS.l0, h1, ↓reduceIte]
  rw [List.drop_eq_nil_of_le (by omega), List.drop_eq_nil_of_le (by omega)]
  exact Ev.now _
 | succ d ih =>
  intro i hi
  refine ev_succ ?_
  have h1 : (i : Int) < (l.length : Int) := by omega
  have h2 : (i : Int) < (m.length : Int) := by omega
  have h0 : (0 : Int) ≤ (i : Int) := by omega
  have hi' : i < l.length := by omega
  have hm' : i < m.length := by omega
  simp only [laws_eqIntS.l0, h1, h2, h0, ↓reduceIte, rd_nat hi', rd_nat hm', w64_nat hi' hl]
  refine ev_ite (fun h => ?_) (fun h => ?_)
  ·refine ev_eq (ih (i + 1) (by omega)) ?_
   rw [drop_cons hi', drop_cons hm', decide_eq_decide, h, List.cons.injEq]
   exact (and_iff_right rfl).symm
  ·refine ev_eq (Ev.now _) ?_
   rw [drop_cons hi', drop_cons hm']
   symm
   rw [decide_eq_false_iff_not, List.cons.injEq]
   exact fun hc => h hc.1
theorem ev_laws_eqIntS (l m : List Int) (hl : l.length ≤ 9223372036854775807) : Ev (fun k => laws_eqIntS.f k l m) (decide (l = m)) := by
 unfold laws_eqIntS.f
 refine ev_ite (fun h => ?_) (fun h => ?_)
 ·simpa using ev_laws_eqIntS_l0 l m hl (by omega) l.length 0 (by omega)
 ·refine ev_eq (Ev.now _) ?_
  symm
  rw [decide_eq_false_iff_not]
  rintro rfl
  exact h rfl
theorem ev_laws_eqIntS_self (l : List Int) (hl : l.length ≤ 9223372036854775807) : Ev (fun k => laws_eqIntS.f k l l) true := by
 simpa using ev_laws_eqIntS l l hl

theorem ev_laws_eqProcess_self (n : Int) (l : List Int) (s u h b : Int) (hl : l.length ≤ 9223372036854775807) : Ev (fun k => laws_eqProcess.f k n l s u h b n l s u h b) true := by
 unfold laws_eqProcess.f
 simp only [↓reduceIte]
 refine Ev.bind (ev_laws_eqIntS_self l hl) ?_
 simp only [↓reduceIte]
 exact Ev.now _

def allFrom (g : Nat → Bool) : Nat → Nat → Bool
 | 0, _ => true
 | d + 1, i => g i && allFrom g d (i + 1)
theorem allFrom_iff (g : Nat → Bool) (d : Nat) : ∀ i, allFrom g d i = true ↔ ∀ j, i ≤ j → j < i + d → g j = true := by
 induction d with
 | zero => intro i; exact ⟨fun _ j h1 h2 => by omega, fun _ => rfl⟩
 | succ d ih =>
  intro i
  rw [allFrom, Bool.and_eq_true, ih (i + 1)]
  constructor
  ·rintro ⟨h1, h2⟩ j h3 h4
   by_cases he : j = i
   ·subst he; exact h1
   ·exact h2 j (by omega) (by omega)
  ·intro h
   exact ⟨h i (by omega) (by omega), fun j h1 h2 => h j (by omega) (by omega)⟩
theorem allFrom_congr {g g' : Nat → Bool} (d : Nat) : ∀ i, (∀ j, i ≤ j → j < i + d → g j = g' j) → allFrom g d i = allFrom g' d i := by
 induction d with
 | zero => intro i _; rfl
 | succ d ih =>
  intro i h
  rw [allFrom, allFrom, h i (by omega) (by omega), ih (i + 1) (fun j h1 h2 => h j (by omega) (by omega))]
def mapFrom {α : Type} (g : Nat → α) : Nat → Nat → List α
 | 0, _ => []
 | d + 1, i => g i :: mapFrom g d (i + 1)
theorem mapFrom_length {α : Type} (g : Nat → α) (d : Nat) : ∀ i, (mapFrom g d i).length = d := by
 induction d with
 | zero => intro i; rfl
 | succ d ih => intro i; rw [mapFrom, List.length_cons, ih]
theorem mapFrom_get {α : Type} (g : Nat → α) (d : Nat) : ∀ (i j : Nat) (h : j < (mapFrom g d i).length), (mapFrom g d i)[j] = g (i + j) := by
 induction d with
 | zero => intro i j h; simp [mapFrom] at h
 | succ d ih =>
  intro i j h
  cases j with
  | zero => rfl
  | succ j =>
   show (mapFrom g d (i + 1))[j]'_ = _
   rw [ih]
   congr 1
   omega
theorem mapFrom_congr {α : Type} {g g' : Nat → α} (d : Nat) : ∀ i, (∀ j, i ≤ j → j < i + d → g j = g' j) → mapFrom g d i = mapFrom g' d i := by
 induction d with
 | zero => intro i _; rfl
 | succ d ih =>
  intro i h
  rw [mapFrom, mapFrom, h i (by omega) (by omega), ih (i + 1) (fun j h1 h2 => h j (by omega) (by omega))]

theorem rdL_mem {m : List (List Int)} {i : Nat} (h : i < m.length) : rd_L1 m (i : Int) ∈ m := by
 unfold rd_L1
 simp [List.getD_eq_getElem?_getD, h]
theorem rdL_nat {m : List (List Int)} {i : Nat} (h : i < m.length) : rd_L1 m (i : Int) = m[i] := by
 unfold rd_L1
 simp [List.getD_eq_getElem?_getD, h]
def shelfB (a : Int) (s n : List Int) (c d : Int) : Bool := inB a 1 8 && (decide (n.length ≤ 8 ∧ s.length = n.length) && (allB s 0 20 && (allB n 0 20 && (inB c 0 20 && inB d 0 20))))
theorem shelfB_spec {a : Int} {s n : List Int} {c d : Int} (h : shelfB a s n c d = true) : (1 ≤ a ∧ a ≤ 8) ∧ n.length ≤ 8 ∧ s.length = n.length := by
 unfold shelfB at h
 rw [Bool.and_eq_true, Bool.and_eq_true, inB_iff, decide_eq_true_eq] at h
 exact ⟨h.1, h.2.1⟩
def useB (a : Int) (row : List Int) (i j : Nat) : Bool := !decide (rd row (j : Int) > 0) || decide ((j : Int) ≤ (i : Int) ∧ (i : Int) < (j : Int) + a)
def rowOk (n : List Int) (m : List (List Int)) (i : Nat) : Bool := decide ((rd_L1 m (i : Int)).length = n.length) && (allB (rd_L1 m (i : Int)) 0 20 && !decide (wrap64 (rd_L1 m (i : Int)).sum > rd n (i : Int)))
def rowB (a : Int) (n : List Int) (m : List (List Int)) (i : Nat) : Bool := rowOk n m i && allFrom (useB a (rd_L1 m (i : Int)) i) n.length 0
theorem rowOk_length {n : List Int} {m : List (List Int)} {i : Nat} (h : rowOk n m i = true) : (rd_L1 m (i : Int)).length = n.length := by
 unfold rowOk at h
 rw [Bool.and_eq_true, decide_eq_true_eq] at h
 exact h.1
theorem rowB_length {a : Int} {n : List Int} {m : List (List Int)} {i : Nat} (h : rowB a n m i = true) : (rd_L1 m (i : Int)).length = n.length := by
 unfold rowB at h
 rw [Bool.and_eq_true] at h
 exact rowOk_length h.1
def colFrom (m : List (List Int)) (j : Nat) : Nat → Nat → Int
 | 0, _ => 0
 | d + 1, i => rd (rd_L1 m (i : Int)) (j : Int) + colFrom m j d (i + 1)
def colV (m : List (List Int)) (j : Nat) : Int := wrap64 (colFrom m j m.length 0)
def colsB (s : List Int) (m : List (List Int)) (n : Nat) : Bool := allFrom (fun j => !decide (colV m j > rd s (j : Int))) n 0
def issueB (a : Int) (s n : List Int) (m : List (List Int)) : Bool := allFrom (rowB a n m) (min m.length n.length) 0 && (decide (m.length = n.length) && colsB s m n.length)
theorem issueB_spec {a : Int} {s n : List Int} {m : List (List Int)} (h : issueB a s n m = true) : m.length = n.length ∧ ∀ i, i < m.length → (rd_L1 m (i : Int)).length = m.length := by
 unfold issueB at h
 rw [Bool.and_eq_true, Bool.and_eq_true, decide_eq_true_eq, allFrom_iff] at h
 refine ⟨h.2.1, fun i hi => ?_⟩
 rw [rowB_length (h.1 i (by omega) (by omega)), h.2.1]
def lostV (n : List Int) (m : List (List Int)) : List Int := mapFrom (fun i => wrap64 (rd n (i : Int) - wrap64 (rd_L1 m (i : Int)).sum)) m.length 0
def wastedV (s : List Int) (m : List (List Int)) : List Int := mapFrom (fun j => wrap64 (rd s (j : Int) - colV m j)) m.length 0
def bothB (a : Int) (s n : List Int) (c d : Int) (m : List (List Int)) : Bool := shelfB a s n c d && issueB a s n m
theorem bothB_spec {a : Int} {s n : List Int} {c d : Int} {m : List (List Int)} (h : bothB a s n c d m = true) : s.length = m.length ∧ n.length = m.length ∧ m.length ≤ 8 ∧ ∀ i, i < m.length → (rd_L1 m (i : Int)).length = m.length := by
 unfold bothB at h
 rw [Bool.and_eq_true] at h
 have h1 := shelfB_spec h.1
 have h2 := issueB_spec h.2
 exact ⟨by omega, by omega, by omega, h2.2⟩
def shelfCostV (a : Int) (s n : List Int) (c d : Int) (m : List (List Int)) : Int × Bool := if bothB a s n c d m = true then (wrap64 (wrap64 (d * wrap64 (lostV n m).sum) + wrap64 (c * wrap64 (wastedV s m).sum)), true) else (0, false)
def lostNeedsV (a : Int) (s n : List Int) (c e : Int) (m : List (List Int)) : List Int × Bool := if bothB a s n c e m = true then (lostV n m, true) else ([], false)
def wastedUnitsV (a : Int) (s n : List Int) (c e : Int) (m : List (List Int)) : List Int × Bool := if bothB a s n c e m = true then (wastedV s m, true) else ([], false)
theorem lostNeedsV_length {a : Int} {s n : List Int} {c e : Int} {m : List (List Int)} : (lostNeedsV a s n c e m).1.length ≤ 8 := by
 unfold lostNeedsV
 by_cases h : bothB a s n c e m = true
 ·rw [if_pos h]
  obtain ⟨h1, h2, h3, h4⟩ := bothB_spec h
  simp only [lostV, mapFrom_length]
  omega
 ·rw [if_neg h]
  simp
theorem wastedUnitsV_length {a : Int} {s n : List Int} {c e : Int} {m : List (List Int)} : (wastedUnitsV a s n c e m).1.length ≤ 8 := by
 unfold wastedUnitsV
 by_cases h : bothB a s n c e m = true
 ·rw [if_pos h]
  obtain ⟨h1, h2, h3, h4⟩ := bothB_spec h
  simp only [wastedV, mapFrom_length]
  omega
 ·rw [if_neg h]
  simp

theorem ev_laws_eqIntSS_l0_self (m : List (List Int)) (h : m.length ≤ 1048576 ∧ ∀ i, i < m.length → (rd_L1 m (i : Int)).length ≤ 1048576) (d : Nat) : ∀ (i : Nat), i + d = m.length → Ev (fun k => laws_eqIntSS.l0 k m m (i : Int)) true := by
 induction d with
 | zero =>
  intro i hi
  refine ev_succ ?_
  have h1 : ¬ (i : Int) < (m.length : Int) := by omega
  simp only [laws_eqIntSS.l0, h1, ↓reduceIte]
  exact Ev.now _
 | succ d ih =>
  intro i hi
  refine ev_succ ?_
  have h1 : (i : Int) < (m.length : Int) := by omega
  have h0 : (0 : Int) ≤ (i : Int) := by omega
  have hi' : i < m.length := by omega
  simp only [laws_eqIntSS.l0, h1, h0, ↓reduceIte, w64_nat hi' (by omega : m.length ≤ 9223372036854775807)]
  refine Ev.bind (ev_laws_eqIntS_self _ (by have := h.2 i hi'; omega)) ?_
  simp only [↓reduceIte]
  exact ih (i + 1) (by omega)
theorem ev_laws_eqIntSS_self (m : List (List Int)) (h : m.length ≤ 1048576 ∧ ∀ i, i < m.length → (rd_L1 m (i : Int)).length ≤ 1048576) : Ev (fun k => laws_eqIntSS.f k m m) true := by
 unfold laws_eqIntSS.f
 simp only [↓reduceIte]
 exact ev_laws_eqIntSS_l0_self m h m.length 0 (by omega)

def szFrom (m : List (List Int)) : Nat → Nat → Int → Int
 | 0, _, t => t
 | d + 1, i, t => if t - ((rd_L1 m (i : Int)).length : Int) < 0 then -1 else szFrom m d (i + 1) (t - ((rd_L1 m (i : Int)).length : Int))
theorem szFrom_spec (m : List (List Int)) (d : Nat) : ∀ (i : Nat) (t : Int), 0 ≤ t → ¬ szFrom m d i t < 0 → ∀ j, i ≤ j → j < i + d → ((rd_L1 m (j : Int)).length : Int) ≤ t := by
 induction d with
 | zero => intro i t _ _ j h1 h2; omega
 | succ d ih =>
  intro i t ht h j h1 h2
  rw [szFrom] at h
  by_cases hc : t - ((rd_L1 m (i : Int)).length : Int) < 0
  ·rw [if_pos hc] at h; omega
  ·rw [if_neg hc] at h
   by_cases he : j = i
   ·subst he; omega
   ·have := ih (i + 1) _ (by omega) h j (by omega) (by omega)
    omega
theorem ev_laws_szIntSS_l0 (m : List (List Int)) (hm : m.length ≤ 9223372036854775807) (hrow : ∀ i, i < m.length → (rd_L1 m (i : Int)).length ≤ 9223372036854775807) (d : Nat) : ∀ (i : Nat) (t : Int), i + d = m.length → 0 ≤ t → t ≤ 1048576 → Ev (fun k => laws_szIntSS.l0 k m t (i : Int)) (szFrom m d i t) := by
 induction d with
 | zero =>
  intro i t hi h0 h1
  refine ev_succ ?_
  have h2 : ¬ (i : Int) < (m.length : Int) := by omega
  simp only [laws_szIntSS.l0, h2, ↓reduceIte, szFrom]
  exact Ev.now _
 | succ d ih =>
  intro i t hi h0 h1
  refine ev_succ ?_
  have hi' : i < m.length := by omega
  have h2 : (i : Int) < (m.length : Int) := by omega
  have h3 : (0 : Int) ≤ (i : Int) := by omega
  simp only [laws_szIntSS.l0, h2, h3, ↓reduceIte, laws_szIntS_f _ t (hrow i hi') h0 h1, Option.bind_some, szFrom, w64_nat hi' hm]
  by_cases hc : t - ((rd_L1 m (i : Int)).length : Int) < 0
  ·simp only [hc, ↓reduceIte, show ((-1 : Int) < 0) = True from by simp]
   exact Ev.now _
  ·simp only [hc, ↓reduceIte]
   exact ih (i + 1) _ (by omega) (by omega) (by omega)
def szV (m : List (List Int)) (t : Int) : Int := if t - (m.length : Int) < 0 then -1 else szFrom m m.length 0 (t - (m.length : Int))
theorem ev_laws_szIntSS (m : List (List Int)) (t : Int) (hm : m.length ≤ 9223372036854775807) (hrow : ∀ i, i < m.length → (rd_L1 m (i : Int)).length ≤ 9223372036854775807) (h0 : 0 ≤ t) (h1 : t ≤ 1048576) : Ev (fun k => laws_szIntSS.f k m t) (szV m t) := by
 unfold laws_szIntSS.f szV
 rw [w64 (by omega) (by omega)]
 refine ev_ite (fun h => ?_) (fun h => ?_)
 ·rw [if_pos h]; exact Ev.now _
 ·rw [if_neg h]; exact ev_laws_szIntSS_l0 m hm hrow m.length 0 _ (by omega) (by omega) (by omega)
theorem szV_spec {m : List (List Int)} {t : Int} (h0 : 0 ≤ t) (h1 : t ≤ 1048576) (h : ¬ szV m t < 0) : m.length ≤ 1048576 ∧ ∀ i, i < m.length → (rd_L1 m (i : Int)).length ≤ 1048576 := by
 unfold szV at h
 by_cases hc : t - (m.length : Int) < 0
 ·rw [if_pos hc] at h; omega
 ·rw [if_neg hc] at h
  refine ⟨by omega, fun i hi => ?_⟩
  have := szFrom_spec m m.length 0 _ (by omega) h i (by omega) (by omega)
  omega

theorem ev_spec_l2Sum_l0 (l : List Int) (hl : l.length ≤ 9223372036854775807) (d : Nat) : ∀ (i : Nat) (s : Int), i + d = l.length → wrap64 s = s → Ev (fun k => spec_l2Sum.l0 k l s (i : Int)) (wrap64 (s + (l.drop i).sum)) := by
 induction d with
 | zero =>
  intro i s hi hs
  refine ev_succ ?_
  have h1 : ¬ (i : Int) < (l.length : Int) := by omega
  simp only [spec_l2Sum.l0, h1, ↓reduceIte]
  rw [List.drop_eq_nil_of_le (by omega)]
  simp only [List.sum_nil, Int.add_zero, hs]
  exact Ev.now _
 | succ d ih =>
  intro i s hi hs
  refine ev_succ ?_
  have h1 : (i : Int) < (l.length : Int) := by omega
  have h0 : (0 : Int) ≤ (i : Int) := by omega
  have hi' : i < l.length := by omega
  simp only [spec_l2Sum.l0, h1, h0, ↓reduceIte, rd_nat hi', w64_nat hi' hl]
  refine ev_eq (ih (i + 1) _ (by omega) (w64_idem _)) ?_
  rw [drop_cons hi', List.sum_cons, w64_add_l, Int.add_assoc]
theorem ev_spec_l2Sum (l : List Int) (hl : l.length ≤ 9223372036854775807) : Ev (fun k => spec_l2Sum.f k l) (wrap64 l.sum) := by
 unfold spec_l2Sum.f
 simpa using ev_spec_l2Sum_l0 l hl l.length 0 0 (by omega) w64_zero

theorem spec_l1In_f (a b c : Int) : spec_l1In.f a b c = some (inB a b c) := by
 unfold spec_l1In.f inB
 by_cases h : a ≥ b
 ·rw [if_pos h]; congr 1; rw [decide_eq_decide]; omega
 ·rw [if_neg h]; congr 1; symm; rw [decide_eq_false_iff_not]; omega

theorem ev_spec_l2Row_l0 (n b : Int) (l : List Int) (hl : l.length ≤ 9223372036854775807) (d : Nat) : ∀ i : Nat, i + d = l.length → Ev (fun k => spec_l2Row.l0 k l n b (i : Int)) (allB (l.drop i) 0 b && ((l.length : Int) == n)) := by
 induction d with
 | zero =>
  intro i hi
  refine ev_succ ?_
  have h1 : ¬ (i : Int) < (l.length : Int) := by omega
  simp only [spec_l2Row.l0, h1, ↓reduceIte]
  rw [List.drop_eq_nil_of_le (by omega)]
  exact Ev.now _
 | succ d ih =>
  intro i hi
  refine ev_succ ?_
  have h1 : (i : Int) < (l.length : Int) := by omega
  have h0 : (0 : Int) ≤ (i : Int) := by omega
  have hi' : i < l.length := by omega
  simp only [spec_l2Row.l0, h1, h0, ↓reduceIte, spec_l1In_f, Option.bind_some, rd_nat hi', w64_nat hi' hl]
  rw [drop_cons hi']
  show Ev _ ((inB l[i] 0 b && allB (l.drop (i + 1)) 0 b) && _)
  cases inB l[i] 0 b with
  | true => simpa using ih (i + 1) (by omega)
  | false => simpa using Ev.now false
theorem ev_spec_l2Row (l : List Int) (n b : Int) (hl : l.length ≤ 9223372036854775807) : Ev (fun k => spec_l2Row.f k l n b) (allB l 0 b && ((l.length : Int) == n)) := by
 unfold spec_l2Row.f
 simpa using ev_spec_l2Row_l0 n b l hl l.length 0 (by omega)

def cst (h b x : Int) : Int := if x > 0 then wrap64 (h * x) else wrap64 (wrap64 (-b) * x)
def ratesB (h b : Int) : Bool := inB h 0 9 && inB b 0 9
def costV (l : List Int) (h b : Int) : Int := wrap64 (l.map (cst h b)).sum
def stockV (l : List Int) (h b : Int) : Int × Bool := if (decide ((l.length : Int) ≤ 20) && ratesB h b && allB l (-200) 200) = true then (costV l h b, true) else (0, false)
theorem ratesB_mem {h b : Int} (hr : ratesB h b = true) : (0 ≤ h ∧ h ≤ 9) ∧ 0 ≤ b ∧ b ≤ 9 := by
 unfold ratesB at hr
 simp only [Bool.and_eq_true, inB_iff] at hr
 exact hr
theorem cst_impl {h b x : Int} (hh : 0 ≤ h ∧ h ≤ 9) (hb : 0 ≤ b ∧ b ≤ 9) (hx : -100000 ≤ x ∧ x ≤ 100000) : wrap64 (wrap64 (h * mx 0 x) + wrap64 (b * mx 0 (wrap64 (-x)))) = cst h b x := by
 have e : wrap64 (-x) = -x := w64 (by omega) (by omega)
 have e2 : wrap64 (-b) = -b := w64 (by omega) (by omega)
 rw [e]
 unfold cst
 rw [e2]
 by_cases hp : x > 0
 ·have m1 : mx 0 x = x := by unfold mx; omega
  have m2 : mx 0 (-x) = 0 := by unfold mx; omega
  rw [m1, m2, if_pos hp, Int.mul_zero, w64_add_l, w64_add_r, Int.add_zero]
 ·have m1 : mx 0 x = 0 := by unfold mx; omega
  have m2 : mx 0 (-x) = -x := by unfold mx; omega
  rw [m1, m2, if_neg hp, Int.mul_zero, w64_add_l, w64_add_r, Int.zero_add, Int.mul_neg, Int.neg_mul]
theorem cst_range {h b x : Int} (hh : 0 ≤ h ∧ h ≤ 9) (hb : 0 ≤ b ∧ b ≤ 9) (hx : -100000 ≤ x ∧ x ≤ 100000) : 0 ≤ cst h b x ∧ cst h b x ≤ 900000 := by
 unfold cst
 rw [w64 (x := -b) (by omega) (by omega)]
 by_cases hp : x > 0
 ·rw [if_pos hp]
  have h1 : 0 ≤ h * x := Int.mul_nonneg hh.1 (by omega)
  have h2 : h * x ≤ 9 * x := Int.mul_le_mul_of_nonneg_right hh.2 (by omega)
  rw [w64 (by omega) (by omega)]
  omega
 ·rw [if_neg hp, Int.neg_mul, ← Int.mul_neg]
  have h1 : 0 ≤ b * -x := Int.mul_nonneg hb.1 (by omega)
  have h2 : b * -x ≤ 9 * -x := Int.mul_le_mul_of_nonneg_right hb.2 (by omega)
  rw [w64 (by omega) (by omega)]
  omega

def procB (n : Int) (l : List Int) (s u h b : Int) : Bool := inB n 0 5 && (inB (l.length : Int) 1 5 && (allB l 0 4 && (decide (wrap64 l.sum > 0) && (inB s 0 99 && (inB u 0 9 && (inB h 0 9 && inB b 0 9))))))
theorem procB_spec {n : Int} {l : List Int} {s u h b : Int} (hp : procB n l s u h b = true) : (0 ≤ n ∧ n ≤ 5) ∧ (1 ≤ l.length ∧ l.length ≤ 5) ∧ (∀ x ∈ l, 0 ≤ x ∧ x ≤ 4) ∧ (0 < l.sum ∧ l.sum ≤ 20) ∧ (0 ≤ s ∧ s ≤ 99) ∧ (0 ≤ u ∧ u ≤ 9) ∧ (0 ≤ h ∧ h ≤ 9) ∧ (0 ≤ b ∧ b ≤ 9) := by
 unfold procB at hp
 simp only [Bool.and_eq_true, inB_iff, decide_eq_true_eq] at hp
 obtain ⟨h1, h2, h3, h4, h5, h6, h7, h8⟩ := hp
 have hm := allB_mem h3
 have s1 := sum_le (b := 4) (fun y hy => (hm y hy).2)
 have s2 := le_sum (b := 0) (fun y hy => (hm y hy).1)
 rw [w64 (by omega) (by omega)] at h4
 exact ⟨h1, by omega, hm, by omega, h5, h6, h7, h8⟩
def floorV (l : List Int) : Int := wrap64 (wrap64 ((l.length : Int) - 1) - 10)
theorem floorV_eq {l : List Int} (h : l.length ≤ 5) : floorV l = (l.length : Int) - 11 := by
 unfold floorV
 rw [w64 (x := (l.length : Int) - 1) (by omega) (by omega), w64 (by omega) (by omega)]
 omega
def orderV (s u x y : Int) : Int := if y > x then wrap64 (s + wrap64 (u * wrap64 (y - x))) else 0

theorem ev_spec_l6Good (n : Int) (l : List Int) (s u h b : Int) (hl : l.length ≤ 9223372036854775807) : Ev (fun k => spec_l6Good.f k n l s u h b) (procB n l s u h b) := by
 unfold spec_l6Good.f procB
 simp only [spec_l1In_f, Option.bind_some]
 refine ev_ite (fun h1 => ?_) (fun h1 => ?_)
 ·refine ev_ite (fun h2 => ?_) (fun h2 => ?_)
  ·refine Ev.bind (ev_spec_l2Row l _ 4 hl) ?_
   simp only [beq_self_eq_true, Bool.and_true]
   refine ev_ite (fun h3 => ?_) (fun h3 => ?_)
   ·refine Ev.bind (ev_spec_l2Sum l hl) ?_
    refine ev_ite (fun h4 => ?_) (fun h4 => ?_)
    ·refine ev_eq (ev_pure (x := _) (r := inB s 0 99 && (inB u 0 9 && (inB h 0 9 && inB b 0 9))) ?_) ?_
     ·cases inB s 0 99 <;> cases inB u 0 9 <;> cases inB h 0 9 <;> rfl
     ·simp [h1, h2, h3, h4]
    ·exact ev_eq (Ev.now _) (by simp [h4])
   ·exact ev_eq (Ev.now _) (by simp [h3])
  ·exact ev_eq (Ev.now _) (by simp [h2])
 ·exact ev_eq (Ev.now _) (by simp [h1])

def powW (a : Int) : Nat → Int
 | 0 => 1
 | m + 1 => wrap64 (powW a m * a)
def powV (l : List Int) (n : Int) : Int := powW (wrap64 l.sum) n.toNat
def aftW (h b pw : Int) (N : List Int) : List Int → Int → Int → Int
 | [], _, acc => acc
 | w :: ws, y, acc => aftW h b pw N ws (y - 1) (wrap64 (acc + wrap64 (w * wrap64 (wrap64 (cst h b y * pw) + rd N (y + 10)))))
def aftV (l : List Int) (h b : Int) (N : List Int) (y m : Int) : Int := aftW h b (powV l (m - 1)) N l y 0
def lvCost (l : List Int) (s u h b : Int) (N : List Int) (m x y : Int) : Int := wrap64 (wrap64 (orderV s u x y * powV l m) + aftV l h b N y m)
def dnV (c : Int → Int) (hi : Int) : Nat → Int × Int
 | 0 => (hi, c hi)
 | d + 1 => if c (hi - ((d + 1 : Nat) : Int)) ≤ (dnV c hi d).2 then (hi - ((d + 1 : Nat) : Int), c (hi - ((d + 1 : Nat) : Int))) else dnV c hi d
def fwdV (c : Int → Int) : Nat → Int → Int × Int → Int × Int
 | 0, _, r => r
 | d + 1, y, r => fwdV c d (y + 1) (if c y < r.2 then (y, c y) else r)
theorem fwdV_dn (c : Int → Int) (d : Nat) : ∀ (y : Int) (r : Int × Int), fwdV c (d + 1) y r = if r.2 ≤ (dnV c (y + d) d).2 then r else dnV c (y + d) d := by
 induction d with
 | zero =>
  intro y r
  simp only [fwdV, dnV, Int.natCast_zero, Int.add_zero]
  by_cases h : c y < r.2
  ·rw [if_pos h, if_neg (by omega)]
  ·rw [if_neg h, if_pos (by omega)]
 | succ d ih =>
  intro y r
  rw [fwdV, ih]
  have e : y + ((d + 1 : Nat) : Int) = y + 1 + (d : Int) := by omega
  have e2 : y + 1 + (d : Int) - ((d + 1 : Nat) : Int) = y := by omega
  rw [e, dnV, e2]
  generalize dnV c (y + 1 + (d : Int)) d = q
  by_cases h1 : c y < r.2
  ·rw [if_pos h1]
   by_cases h2 : c y ≤ q.2
   ·rw [if_pos h2]
    rw [if_neg (by show ¬ r.2 ≤ c y; omega)]
   ·rw [if_neg h2]
    rw [if_neg (by omega)]
  ·rw [if_neg h1]
   by_cases h2 : c y ≤ q.2
   ·rw [if_pos h2]
    rw [if_pos (by omega), if_pos (by show r.2 ≤ c y; omega)]
   ·rw [if_neg h2]
def bestV (l : List Int) (s u h b : Int) (N : List Int) (m x : Int) : Int × Int := dnV (lvCost l s u h b N m x) 10 (10 - mx x (floorV l)).toNat
theorem fwdV_best (c : Int → Int) {lo : Int} (h : lo ≤ 10) : fwdV c (10 - lo).toNat (lo + 1) (lo, c lo) = dnV c 10 (10 - lo).toNat := by
 obtain ⟨d, hd⟩ : ∃ d : Nat, (10 - lo).toNat = d := ⟨_, rfl⟩
 rw [hd]
 cases d with
 | zero =>
  have : lo = 10 := by omega
  subst this
  rfl
 | succ d =>
  rw [fwdV_dn]
  have e : lo + 1 + (d : Int) = 10 := by omega
  have e2 : (10 : Int) - ((d + 1 : Nat) : Int) = lo := by omega
  rw [e, dnV, e2]
def rowV (l : List Int) (s u h b : Int) (N : List Int) (m : Int) : List Int := (List.range 21).map fun (i : Nat) => (bestV l s u h b N m ((i : Int) - 10)).2
theorem rowV_len (l : List Int) (s u h b : Int) (N : List Int) (m : Int) : (rowV l s u h b N m).length = 21 := by simp [rowV]
theorem rowV_get (l : List Int) (s u h b : Int) (N : List Int) (m : Int) {i : Nat} (hi : i < 21) : (rowV l s u h b N m)[i]? = some (bestV l s u h b N m ((i : Int) - 10)).2 := by
 simp [rowV, hi]
theorem rowV_take (l : List Int) (s u h b : Int) (N : List Int) (m : Int) {i : Nat} (hi : i < 21) : (rowV l s u h b N m).take (i + 1) = (rowV l s u h b N m).take i ++ [(bestV l s u h b N m ((i : Int) - 10)).2] := by
 rw [List.take_add_one, rowV_get l s u h b N m hi]
 rfl
def wts (l : List Int) (s u h b : Int) : Nat → List (List Int)
 | 0 => [List.replicate 21 0]
 | m + 1 => rowV l s u h b ((wts l s u h b m).headD []) ((m + 1 : Nat) : Int) :: wts l s u h b m
theorem wts_len (l : List Int) (s u h b : Int) : ∀ m, (wts l s u h b m).length = m + 1
 | 0 => rfl
 | m + 1 => by rw [wts, List.length_cons, wts_len]
theorem wts_rows (l : List Int) (s u h b : Int) : ∀ m, ∀ r ∈ wts l s u h b m, r.length = 21
 | 0, r, hr => by simp only [wts, List.mem_singleton] at hr; rw [hr]; simp
 | m + 1, r, hr => by
  rw [wts, List.mem_cons] at hr
  cases hr with
  | inl e => rw [e, rowV_len]
  | inr e => exact wts_rows l s u h b m r e
theorem wts_head (l : List Int) (s u h b : Int) (m : Nat) : (wts l s u h b m).headD [] = (wts l s u h b m).getD 0 [] := by
 cases m <;> rfl
theorem wts_head_len (l : List Int) (s u h b : Int) (m : Nat) : ((wts l s u h b m).headD []).length = 21 := by
 cases m with
 | zero => simp [wts]
 | succ m => rw [wts, List.headD_cons, rowV_len]
def billV (l : List Int) (u h b : Int) (N : List Int) (m y : Int) : Int := wrap64 (wrap64 (wrap64 (u * y) * powV l m) + aftV l h b N y m)
def billsV (l : List Int) (u h b : Int) (N : List Int) (m : Int) : List Int := (List.range (22 - l.length)).map fun (i : Nat) => billV l u h b N m (floorV l + (i : Int))
theorem billsV_len (l : List Int) (u h b : Int) (N : List Int) (m : Int) : (billsV l u h b N m).length = 22 - l.length := by simp [billsV]
theorem billsV_take (l : List Int) (u h b : Int) (N : List Int) (m : Int) {i : Nat} (hi : i < 22 - l.length) : (billsV l u h b N m).take (i + 1) = (billsV l u h b N m).take i ++ [billV l u h b N m (floorV l + (i : Int))] := by
 rw [List.take_add_one]
 simp [billsV, hi]
def nextV (n : Int) (l : List Int) (s u h b t : Int) : List Int := (wts l s u h b n.toNat).getD (t + 1).toNat []
theorem nextV_len {n : Int} {l : List Int} {s u h b t : Int} (ht : 0 ≤ t ∧ t ≤ n - 1) : (nextV n l s u h b t).length = 21 := by
 unfold nextV
 have hl : (t + 1).toNat < (wts l s u h b n.toNat).length := by rw [wts_len]; omega
 rw [List.getD_eq_getElem?_getD, List.getElem?_eq_getElem hl]
 exact wts_rows l s u h b _ _ (List.getElem_mem hl)
def billsOfV (n : Int) (l : List Int) (s u h b t : Int) : List Int × Bool :=
 if (procB n l s u h b && inB t 0 (wrap64 (n - 1))) = true then (billsV l u h b (nextV n l s u h b t) (n - t), true) else ([], false)
theorem billsOfV_len (n : Int) (l : List Int) (s u h b t : Int) : (billsOfV n l s u h b t).1.length ≤ 22 := by
 unfold billsOfV
 split
 ·dsimp only; rw [billsV_len]; omega
 ·simp
theorem turnB_spec {n : Int} {l : List Int} {s u h b t : Int} (hc : (procB n l s u h b && inB t 0 (wrap64 (n - 1))) = true) : procB n l s u h b = true ∧ 0 ≤ t ∧ t ≤ n - 1 := by
 rw [Bool.and_eq_true] at hc
 have h1 := procB_spec hc.1
 have h2 := inB_iff.1 hc.2
 rw [w64 (by omega) (by omega)] at h2
 exact ⟨hc.1, h2⟩

def cellsL (x : S94) : List Int := [x.f0, x.f1, x.f2, x.f3, x.f4, x.f5, x.f6, x.f7, x.f8, x.f9, x.f10, x.f11, x.f12, x.f13, x.f14, x.f15, x.f16, x.f17, x.f18, x.f19, x.f20]
theorem cellsL_len (x : S94) : (cellsL x).length = 21 := rfl
theorem cellsL_z : cellsL z94 = List.replicate 21 0 := rfl
theorem cellsL_rd (L : List S94) (i : Int) : cellsL (rd_T94 L i) = (L.map cellsL).getD i.toNat (List.replicate 21 0) := by
 unfold rd_T94
 rw [List.getD_eq_getElem?_getD, List.getD_eq_getElem?_getD, List.getElem?_map]
 cases L[i.toNat]? <;> rfl

theorem rdL_at {m : List (List Int)} {i : Nat} (h : i < m.length) : rd_L1 m (i : Int) = m[i] := by
 unfold rd_L1
 rw [Int.toNat_natCast]
 simp [List.getD, h]
def rowW (r : List Int) : Bool := allB r (-1000000000000) 1000000000000 && ((r.length : Int) == 21)
def tabB (n : Int) (T : List (List Int)) : Bool := T.all rowW && ((T.length : Int) == n + 1)
theorem tabB_spec {n : Int} {T : List (List Int)} (h : tabB n T = true) : (T.length : Int) = n + 1 ∧ ∀ i, i < T.length → (rd_L1 T (i : Int)).length = 21 := by
 unfold tabB at h
 rw [Bool.and_eq_true, beq_iff_eq] at h
 refine ⟨h.2, fun i hi => ?_⟩
 have h1 := List.all_eq_true.1 h.1 _ (List.getElem_mem hi)
 unfold rowW at h1
 rw [Bool.and_eq_true, beq_iff_eq] at h1
 rw [rdL_at hi]
 omega
def nonB (r : List Int) : Bool := r.all fun x => !decide (x > 0)
def underF (l : List Int) (s u h b n : Int) (T : List (List Int)) (t : Nat) : Nat → Nat → Bool
 | 0, _ => true
 | d + 1, i => if rd (rd_L1 T (t : Int)) (i : Int) > (bestV l s u h b (rd_L1 T ((t + 1 : Nat) : Int)) (n - (t : Int)) ((i : Int) - 10)).2 then false else underF l s u h b n T t d (i + 1)
def allUnder (l : List Int) (s u h b n : Int) (T : List (List Int)) : Nat → Nat → Bool
 | 0, _ => true
 | d + 1, t => if underF l s u h b n T t 21 0 = true then allUnder l s u h b n T d (t + 1) else false
def proofV (l : List Int) (s u h b n : Int) (T : List (List Int)) : Bool := nonB (rd_L1 T n) && allUnder l s u h b n T n.toNat 0
def isWorthV (n : Int) (l : List Int) (s u h b : Int) (T : List (List Int)) : Bool × Bool := if procB n l s u h b = true then (if tabB n T = true then (proofV l s u h b n T, true) else (false, true)) else (false, false)
theorem wpA (t : Nat) (h : t ≤ 100) : wrap64 ((t : Int) + 1) = ((t + 1 : Nat) : Int) := w64_nat (show t < 101 by omega) (by omega)
theorem wpB (x : Int) (h : -100 ≤ x ∧ x ≤ 100) : wrap64 x = x := w64 (by omega) (by omega)
theorem wpC (i : Nat) (h : i ≤ 100) : wrap64 ((i : Int) - 10 + 10) = (i : Int) := by rw [w64 (by omega) (by omega)]; omega
theorem wpD (i : Nat) (h : i ≤ 100) : wrap64 ((i : Int) - 10 + 1) = ((i + 1 : Nat) : Int) - 10 := by rw [w64 (by omega) (by omega)]; omega

theorem ev_spec_l6Table_l1 (n : Int) (l : List Int) (s u h b : Int) (T : List (List Int)) (i : Nat) (hi : i < T.length) (hr : T[i].length ≤ 9223372036854775807) {v : Bool} (hK : Ev (fun k => spec_l6Table.l0 k T (wrap64 ((i : Int) + 1)) n l s u h b) v) (d : Nat) : ∀ j : Nat, j + d = T[i].length → Ev (fun k => spec_l6Table.l1 k T (i : Int) (j : Int) n l s u h b) (allB (T[i].drop j) (-1000000000000) 1000000000000 && (((T[i].length : Int) == 21) && v)) := by
 induction d with
 | zero =>
  intro j hj
  refine ev_succ ?_
  have c0 : (0 : Int) ≤ (i : Int) := by omega
  have c1 : (i : Int) < (T.length : Int) := by omega
  have c2 : ¬ (j : Int) < (T[i].length : Int) := by omega
  simp only [spec_l6Table.l1, c0, c1, rdL_at hi, c2, ↓reduceIte]
  rw [List.drop_eq_nil_of_le (by omega)]
  refine ev_ite (fun h => ?_) (fun h => ?_)
  ·refine ev_eq hK ?_
   rw [h]; simp [allB]
  ·refine ev_eq (Ev.now false) ?_
   rw [show (((T[i].length : Int)) == 21) = false from beq_eq_false_iff_ne.mpr h]; simp
 | succ d ih =>
  intro j hj
  refine ev_succ ?_
  have c0 : (0 : Int) ≤ (i : Int) := by omega
  have c1 : (i : Int) < (T.length : Int) := by omega
  have hj' : j < T[i].length := by omega
  have c2 : (j : Int) < (T[i].length : Int) := by omega
  have c3 : (0 : Int) ≤ (j : Int) := by omega
  simp only [spec_l6Table.l1, c0, c1, rdL_at hi, c2, c3, ↓reduceIte, spec_l1In_f, Option.bind_some, rd_nat hj', w64_nat hj' hr]
  rw [drop_cons hj']
  show Ev _ ((inB T[i][j] _ _ && allB (T[i].drop (j + 1)) _ _) && _)
  cases inB T[i][j] (-1000000000000) 1000000000000 with
  | true => simpa using ih (j + 1) (by omega)
  | false => simpa using Ev.now false
theorem ev_spec_l6Table_l0 (n : Int) (hn : 0 ≤ n ∧ n ≤ 5) (l : List Int) (s u h b : Int) (T : List (List Int)) (hT : T.length ≤ 1048576) (hr : ∀ r ∈ T, r.length ≤ 9223372036854775807) (d : Nat) : ∀ i : Nat, i + d = T.length → Ev (fun k => spec_l6Table.l0 k T (i : Int) n l s u h b) ((T.drop i).all rowW && ((T.length : Int) == n + 1)) := by
 induction d with
 | zero =>
  intro i hi
  refine ev_succ ?_
  have c1 : ¬ (i : Int) < (T.length : Int) := by omega
  simp only [spec_l6Table.l0, c1, ↓reduceIte, w64 (show -9223372036854775808 ≤ n + 1 by omega) (by omega)]
  rw [List.drop_eq_nil_of_le (by omega)]
  exact Ev.now _
 | succ d ih =>
  intro i hi
  refine ev_succ ?_
  have hi' : i < T.length := by omega
  have c1 : (i : Int) < (T.length : Int) := by omega
  simp only [spec_l6Table.l0, c1, ↓reduceIte]
  have hK := ih (i + 1) (by omega)
  rw [← w64_nat hi' (by omega)] at hK
  refine ev_eq (ev_spec_l6Table_l1 n l s u h b T i hi' (hr _ (List.getElem_mem hi')) hK _ 0 (Nat.zero_add _)) ?_
  rw [drop_cons hi', List.drop_zero, List.all_cons]
  unfold rowW
  simp only [Bool.and_assoc]
theorem ev_spec_l6Table (n : Int) (hn : 0 ≤ n ∧ n ≤ 5) (l : List Int) (s u h b : Int) (T : List (List Int)) (hT : T.length ≤ 1048576) (hr : ∀ r ∈ T, r.length ≤ 9223372036854775807) : Ev (fun k => spec_l6Table.f k n l s u h b T) (tabB n T) := by
 unfold spec_l6Table.f tabB
 simpa using ev_spec_l6Table_l0 n hn l s u h b T hT hr T.length 0 (by omega)

theorem spec_l6Order_f (n : Int) (l : List Int) (s u h b x y : Int) : spec_l6Order.f n l s u h b x y = some (orderV s u x y) := by
 unfold spec_l6Order.f orderV
 split <;> rfl

theorem ev_spec_l6Power_l0 (a n : Int) (hn : 0 ≤ n ∧ n ≤ 100) (d : Nat) : ∀ (i : Nat), (i : Int) + d = n → Ev (fun k => spec_l6Power.l0 k n (powW a i) a (i : Int)) (powW a n.toNat) := by
 induction d with
 | zero =>
  intro i hi
  refine ev_succ ?_
  have h1 : ¬ (i : Int) < n := by omega
  simp only [spec_l6Power.l0, h1, ↓reduceIte]
  rw [show n.toNat = i by omega]
  exact Ev.now _
 | succ d ih =>
  intro i hi
  refine ev_succ ?_
  have h1 : (i : Int) < n := by omega
  simp only [spec_l6Power.l0, h1, ↓reduceIte]
  rw [w64 (x := (i : Int) + 1) (by omega) (by omega)]
  have h2 := ih (i + 1) (by omega)
  rw [powW] at h2
  exact h2
theorem ev_spec_l6Power (n : Int) (l : List Int) (s u h b m : Int) (hl : l.length ≤ 9223372036854775807) (hm : 0 ≤ m ∧ m ≤ 100) : Ev (fun k => spec_l6Power.f k n l s u h b m) (powV l m) := by
 unfold spec_l6Power.f powV
 exact Ev.bind (ev_spec_l2Sum l hl) (ev_spec_l6Power_l0 _ m hm m.toNat 0 (by omega))

theorem spec_l6Kept_f (n : Int) (l : List Int) (s u h b x : Int) : spec_l6Kept.f n l s u h b x = some (cst h b x) := by
 unfold spec_l6Kept.f cst
 split <;> rfl

theorem ev_spec_l6After_l0 (n : Int) (l : List Int) (s u h b : Int) (N : List Int) (y m : Int) (hl : l.length ≤ 5) (hN : N.length = 21) (hm : 1 ≤ m ∧ m ≤ 6) (hy : (l.length : Int) - 11 ≤ y ∧ y ≤ 10) (d : Nat) : ∀ (i : Nat) (acc : Int), i + d = l.length → Ev (fun k => spec_l6After.l0 k N y m acc (i : Int) n l s u h b) (aftW h b (powV l (m - 1)) N (l.drop i) (y - i) acc) := by
 induction d with
 | zero =>
  intro i acc hi
  refine ev_succ ?_
  have h1 : ¬ (i : Int) < (l.length : Int) := by omega
  simp only [spec_l6After.l0, h1, ↓reduceIte]
  rw [List.drop_eq_nil_of_le (by omega), aftW]
  exact Ev.now _
 | succ d ih =>
  intro i acc hi
  refine ev_succ ?_
  have h1 : (i : Int) < (l.length : Int) := by omega
  have h0 : (0 : Int) ≤ (i : Int) := by omega
  have hi' : i < l.length := by omega
  have e1 : wrap64 (y - (i : Int)) = y - i := w64 (by omega) (by omega)
  have e2 : wrap64 (y - (i : Int) + 10) = y - i + 10 := w64 (by omega) (by omega)
  have e3 : wrap64 (m - 1) = m - 1 := w64 (by omega) (by omega)
  have e4 : wrap64 ((i : Int) + 1) = ((i + 1 : Nat) : Int) := w64_nat hi' (by omega)
  simp only [spec_l6After.l0, h1, h0, ↓reduceIte, e1, e2, e3, e4, spec_l6Kept_f, Option.bind_some]
  refine Ev.bind (ev_spec_l6Power n l s u h b (m - 1) (by omega) (by omega)) ?_
  refine ev_yes (show (0 : Int) ≤ y - i + 10 by omega) (ev_yes (show y - (i : Int) + 10 < (N.length : Int) by omega) ?_)
  rw [rd_nat hi', drop_cons hi', aftW]
  refine ev_eq (ih (i + 1) _ (by omega)) ?_
  rw [show y - ((i + 1 : Nat) : Int) = y - (i : Int) - 1 by omega]
theorem ev_spec_l6After (n : Int) (l : List Int) (s u h b : Int) (N : List Int) (y m : Int) (hl : l.length ≤ 5) (hN : N.length = 21) (hm : 1 ≤ m ∧ m ≤ 6) (hy : (l.length : Int) - 11 ≤ y ∧ y ≤ 10) : Ev (fun k => spec_l6After.f k n l s u h b N y m) (aftV l h b N y m) := by
 unfold spec_l6After.f aftV
 refine ev_eq (ev_spec_l6After_l0 n l s u h b N y m hl hN hm hy l.length 0 0 (by omega)) ?_
 rw [List.drop_zero, show y - ((0 : Nat) : Int) = y by omega]

theorem spec_l6Floor_f (n : Int) (l : List Int) (s u h b : Int) : spec_l6Floor.f n l s u h b = some (floorV l) := rfl

theorem spec_l1Most_f (a b : Int) : spec_l1Most.f a b = some (mx b a) := by
 unfold spec_l1Most.f mx
 by_cases h : a > b
 ·rw [if_pos h, if_pos (by omega)]
 ·rw [if_neg h, if_neg (by omega)]

theorem ev_spec_l6Best_l0 (n : Int) (l : List Int) (s u h b : Int) (N : List Int) (x m : Int) (hl : 1 ≤ l.length ∧ l.length ≤ 5) (hN : N.length = 21) (hm : 1 ≤ m ∧ m ≤ 6) (hx : -10 ≤ x ∧ x ≤ 10) (d : Nat) : ∀ (j : Nat), j + d = (10 - mx x (floorV l)).toNat → Ev (fun k => spec_l6Best.l0 k N x m (dnV (lvCost l s u h b N m x) 10 j).1 (dnV (lvCost l s u h b N m x) 10 j).2 (10 - ((j + 1 : Nat) : Int)) n l s u h b) (bestV l s u h b N m x) := by
 have hf := floorV_eq hl.2
 have hlo : mx x (floorV l) ≤ 10 ∧ (l.length : Int) - 11 ≤ mx x (floorV l) ∧ x ≤ mx x (floorV l) ∧ -10 ≤ mx x (floorV l) := by unfold mx; omega
 induction d with
 | zero =>
  intro j hj
  refine ev_succ ?_
  simp only [spec_l6Best.l0, spec_l6Floor_f, spec_l1Most_f, Option.bind_some]
  rw [show mx (floorV l) x = mx x (floorV l) by unfold mx; omega]
  refine ev_no (by omega) ?_
  refine ev_eq (Ev.now _) ?_
  unfold bestV
  rw [show (10 - mx x (floorV l)).toNat = j by omega]
 | succ d ih =>
  intro j hj
  refine ev_succ ?_
  simp only [spec_l6Best.l0, spec_l6Floor_f, spec_l1Most_f, Option.bind_some, spec_l6Order_f]
  rw [show mx (floorV l) x = mx x (floorV l) by unfold mx; omega]
  simp only [show ((10 - ((j + 1 : Nat) : Int)) ≥ mx x (floorV l)) = True from eq_true (by omega), if_true]
  refine Ev.bind (ev_spec_l6Power n l s u h b m (by omega) (by omega)) ?_
  refine Ev.bind (ev_spec_l6After n l s u h b N _ m hl.2 hN hm (by omega)) ?_
  refine ev_no (by omega) ?_
  have e : wrap64 (10 - ((j + 1 : Nat) : Int) - 1) = 10 - ((j + 1 + 1 : Nat) : Int) := by rw [w64 (by omega) (by omega)]; omega
  rw [e]
  have h2 := ih (j + 1) (by omega)
  rw [dnV] at h2
  refine ev_ite (fun h3 => ?_) (fun h3 => ?_)
  ·have h3' : lvCost l s u h b N m x (10 - ((j + 1 : Nat) : Int)) ≤ (dnV (lvCost l s u h b N m x) 10 j).2 := h3
   rw [if_pos h3'] at h2; exact h2
  ·have h3' : ¬ lvCost l s u h b N m x (10 - ((j + 1 : Nat) : Int)) ≤ (dnV (lvCost l s u h b N m x) 10 j).2 := h3
   rw [if_neg h3'] at h2; exact h2
theorem ev_spec_l6Best (n : Int) (l : List Int) (s u h b : Int) (N : List Int) (x m : Int) (hl : 1 ≤ l.length ∧ l.length ≤ 5) (hN : N.length = 21) (hm : 1 ≤ m ∧ m ≤ 6) (hx : -10 ≤ x ∧ x ≤ 10) : Ev (fun k => spec_l6Best.f k n l s u h b N x m) (bestV l s u h b N m x) := by
 have hf := floorV_eq hl.2
 have hlo : mx x (floorV l) ≤ 10 := by unfold mx; omega
 unfold spec_l6Best.f
 refine ev_succ ?_
 simp only [spec_l6Best.l0, spec_l6Floor_f, spec_l1Most_f, Option.bind_some, spec_l6Order_f]
 rw [show mx (floorV l) x = mx x (floorV l) by unfold mx; omega]
 simp only [show ((10 : Int) ≥ mx x (floorV l)) = True from eq_true (by omega), if_true]
 refine Ev.bind (ev_spec_l6Power n l s u h b m (by omega) (by omega)) ?_
 refine Ev.bind (ev_spec_l6After n l s u h b N _ m hl.2 hN hm (by omega)) ?_
 rw [show wrap64 ((10 : Int) - 1) = 10 - ((0 + 1 : Nat) : Int) from w64 (by omega) (by omega)]
 exact ev_spec_l6Best_l0 n l s u h b N x m hl hN hm hx (10 - mx x (floorV l)).toNat 0 (by omega)

theorem ev_spec_l6Under_l0 (n : Int) (l : List Int) (s u h b : Int) (hp : procB n l s u h b = true) (T : List (List Int)) (hT : tabB n T = true) (t : Nat) (ht : (t : Int) < n) (d : Nat) : ∀ i : Nat, i + d = 21 → Ev (fun k => spec_l6Under.l0 k T (t : Int) ((i : Int) - 10) n l s u h b) (underF l s u h b n T t d i) := by
 have hq := procB_spec hp
 have hs := tabB_spec hT
 have h1 := hs.2 t (by omega)
 have h2 := hs.2 (t + 1) (by omega)
 induction d with
 | zero =>
  intro i hi
  refine ev_succ ?_
  have c1 : ¬ (i : Int) - 10 ≤ 10 := by omega
  simp only [spec_l6Under.l0, c1, ↓reduceIte]
  exact Ev.now _
 | succ d ih =>
  intro i hi
  refine ev_succ ?_
  have c1 : (i : Int) - 10 ≤ 10 := by omega
  have c2 : (0 : Int) ≤ ((t + 1 : Nat) : Int) := by omega
  have c3 : ((t + 1 : Nat) : Int) < (T.length : Int) := by omega
  have c4 : (0 : Int) ≤ (t : Int) := by omega
  have c5 : (t : Int) < (T.length : Int) := by omega
  have c6 : (0 : Int) ≤ (i : Int) := by omega
  have c7 : (i : Int) < ((rd_L1 T (t : Int)).length : Int) := by omega
  have d1 : 1 ≤ n - (t : Int) ∧ n - (t : Int) ≤ 6 := by omega
  have d2 : -10 ≤ (i : Int) - 10 ∧ (i : Int) - 10 ≤ 10 := by omega
  have d3 : i + 1 + d = 21 := by omega
  have d7 : -100 ≤ n - (t : Int) ∧ n - (t : Int) ≤ 100 := by omega
  have d8 : i ≤ 100 := by omega
  have d9 : t ≤ 100 := by omega
  have e1 := wpA t d9
  have e2 := wpB (n - (t : Int)) d7
  have e3 := wpC i d8
  have e4 := wpD i d8
  simp only [spec_l6Under.l0, c1, e1, e2, c2, c3, ↓reduceIte]
  refine Ev.bind (ev_spec_l6Best n l s u h b _ _ _ hq.2.1 h2 d1 d2) ?_
  simp only [c4, c5, e3, e4, c6, c7, ↓reduceIte]
  clear e1 e2 e3 e4
  rw [underF]
  by_cases g : rd (rd_L1 T (t : Int)) (i : Int) > (bestV l s u h b (rd_L1 T ((t + 1 : Nat) : Int)) (n - (t : Int)) ((i : Int) - 10)).2
  ·rw [if_pos g]
   exact ev_yes g (Ev.now _)
  ·rw [if_neg g]
   exact ev_no g (ih (i + 1) d3)
theorem ev_spec_l6Under (n : Int) (l : List Int) (s u h b : Int) (hp : procB n l s u h b = true) (T : List (List Int)) (hT : tabB n T = true) (t : Nat) (ht : (t : Int) < n) : Ev (fun k => spec_l6Under.f k n l s u h b T (t : Int)) (underF l s u h b n T t 21 0) := by
 unfold spec_l6Under.f
 exact ev_spec_l6Under_l0 n l s u h b hp T hT t ht 21 0 rfl

theorem ev_spec_IsWorthProof_l1 (n : Int) (l : List Int) (s u h b : Int) (hp : procB n l s u h b = true) (T : List (List Int)) (hT : tabB n T = true) (d : Nat) : ∀ t : Nat, (t : Int) + d = n → Ev (fun k => spec_IsWorthProof.l1 k T (t : Int) n l s u h b) (allUnder l s u h b n T d t, true) := by
 have hq := procB_spec hp
 induction d with
 | zero =>
  intro t ht
  refine ev_succ ?_
  have c1 : ¬ (t : Int) < n := by omega
  simp only [spec_IsWorthProof.l1, c1, ↓reduceIte]
  exact Ev.now _
 | succ d ih =>
  intro t ht
  refine ev_succ ?_
  have c1 : (t : Int) < n := by omega
  simp only [spec_IsWorthProof.l1, c1, wpA t (by omega), ↓reduceIte]
  refine Ev.bind (ev_spec_l6Under n l s u h b hp T hT t c1) ?_
  rw [allUnder]
  by_cases g : underF l s u h b n T t 21 0 = true
  ·rw [if_pos g]
   exact ev_yes g (ih (t + 1) (by omega))
  ·rw [if_neg g]
   exact ev_no g (Ev.now _)
theorem ev_spec_IsWorthProof_l0 (n : Int) (l : List Int) (s u h b : Int) (hp : procB n l s u h b = true) (T : List (List Int)) (hT : tabB n T = true) (d : Nat) : ∀ j : Nat, j + d = 21 → Ev (fun k => spec_IsWorthProof.l0 k T (j : Int) n l s u h b) (nonB ((rd_L1 T n).drop j) && allUnder l s u h b n T n.toNat 0, true) := by
 have hq := procB_spec hp
 have hs := tabB_spec hT
 have hN := hs.2 n.toNat (by omega)
 rw [show ((n.toNat : Nat) : Int) = n by omega] at hN
 have c0 : 0 ≤ n := by omega
 have c1 : n < (T.length : Int) := by omega
 induction d with
 | zero =>
  intro j hj
  refine ev_succ ?_
  have c2 : ¬ (j : Int) < ((rd_L1 T n).length : Int) := by omega
  simp only [spec_IsWorthProof.l0, c0, c1, c2, ↓reduceIte]
  rw [List.drop_eq_nil_of_le (by omega)]
  exact ev_spec_IsWorthProof_l1 n l s u h b hp T hT n.toNat 0 (by omega)
 | succ d ih =>
  intro j hj
  refine ev_succ ?_
  have hj' : j < (rd_L1 T n).length := by omega
  have c2 : (j : Int) < ((rd_L1 T n).length : Int) := by omega
  have c3 : (0 : Int) ≤ (j : Int) := by omega
  simp only [spec_IsWorthProof.l0, c0, c1, c2, c3, ↓reduceIte, rd_nat hj', w64_nat hj' (show (rd_L1 T n).length ≤ 9223372036854775807 by omega)]
  rw [drop_cons hj']
  show Ev _ (((!decide ((rd_L1 T n)[j] > 0)) && nonB ((rd_L1 T n).drop (j + 1))) && _, true)
  by_cases g : (rd_L1 T n)[j] > 0
  ·refine ev_yes g ?_
   simp only [decide_eq_true g, Bool.not_true, Bool.false_and]
   exact Ev.now _
  ·refine ev_no g ?_
   simp only [decide_eq_false g, Bool.not_false, Bool.true_and]
   exact ih (j + 1) (by omega)
theorem ev_spec_IsWorthProof (n : Int) (l : List Int) (s u h b : Int) (T : List (List Int)) (hl : l.length ≤ 1048576) (hT : T.length ≤ 1048576) (hr : ∀ r ∈ T, r.length ≤ 9223372036854775807) : Ev (fun k => spec_IsWorthProof.f k n l s u h b T) (isWorthV n l s u h b T) := by
 unfold spec_IsWorthProof.f
 refine Ev.bind (ev_spec_l6Good n l s u h b (by omega)) ?_
 unfold isWorthV
 by_cases hp : procB n l s u h b = true
 ·rw [if_pos hp]
  refine ev_yes hp ?_
  have hq := procB_spec hp
  refine Ev.bind (ev_spec_l6Table n hq.1 l s u h b T hT hr) ?_
  by_cases ht : tabB n T = true
  ·rw [if_pos ht]
   refine ev_yes ht ?_
   unfold proofV
   simpa using ev_spec_IsWorthProof_l0 n l s u h b hp T ht 21 0 rfl
  ·rw [if_neg ht]
   exact ev_no ht (Ev.now _)
 ·rw [if_neg hp]
  exact ev_no hp (Ev.now _)

theorem ev_laws_toIntSS_l0 (m : List (List Int)) (h : m.length ≤ 1048576 ∧ ∀ i, i < m.length → (rd_L1 m (i : Int)).length ≤ 1048576) (d : Nat) : ∀ (i : Nat) (o : List (List Int)), i + d = m.length → o.length = m.length → Ev (fun k => laws_toIntSS.l0 k m o (i : Int)) (o.take i ++ m.drop i) := by
 induction d with
 | zero =>
  intro i o hi ho
  refine ev_succ ?_
  have h1 : ¬ (i : Int) < (m.length : Int) := by omega
  simp only [laws_toIntSS.l0, h1, ↓reduceIte]
  rw [List.drop_eq_nil_of_le (by omega), List.take_of_length_le (by omega), List.append_nil]
  exact Ev.now _
 | succ d ih =>
  intro i o hi ho
  refine ev_succ ?_
  have h1 : (i : Int) < (m.length : Int) := by omega
  have h2 : (i : Int) < (o.length : Int) := by omega
  have h0 : (0 : Int) ≤ (i : Int) := by omega
  have hi' : i < m.length := by omega
  simp only [laws_toIntSS.l0, h1, h2, h0, ↓reduceIte, w64_nat hi' (by omega : m.length ≤ 9223372036854775807), Int.toNat_natCast]
  refine Ev.bind (ev_laws_toIntS _ (h.2 i hi')) ?_
  refine ev_eq (ih (i + 1) _ (by omega) (by simp [ho])) ?_
  rw [drop_cons hi', List.take_add_one, rdL_nat hi']
  simp [ho, hi', List.take_set_of_le (Nat.le_refl i)]
theorem ev_laws_toIntSS (m : List (List Int)) (h : m.length ≤ 1048576 ∧ ∀ i, i < m.length → (rd_L1 m (i : Int)).length ≤ 1048576) : Ev (fun k => laws_toIntSS.f k m) m := by
 unfold laws_toIntSS.f
 have h0 : (0 : Int) ≤ (m.length : Int) := by omega
 have h1 : ((m.length : Int) : Int).toNat ≤ 11728124029610 := by have := h.1; omega
 simp only [h0, h1, ↓reduceIte]
 simpa using ev_laws_toIntSS_l0 m h m.length 0 (List.replicate ((m.length : Int) : Int).toNat []) (by omega) (by simp)

theorem impl_within_f (a b c : Int) : impl_within.f a b c = some (inB a b c) := by
 unfold impl_within.f inB
 by_cases h : a ≥ b
 ·rw [if_pos h]; congr 1; rw [decide_eq_decide]; omega
 ·rw [if_neg h]; congr 1; symm; rw [decide_eq_false_iff_not]; omega

theorem ev_impl_allWithin_l0 (a b : Int) (l : List Int) (hl : l.length ≤ 9223372036854775807) (d : Nat) : ∀ i : Nat, i + d = l.length → Ev (fun k => impl_allWithin.l0 k a b l (l.length : Int) (i : Int)) (allB (l.drop i) a b) := by
 induction d with
 | zero =>
  intro i hi
  refine ev_succ ?_
  have h1 : ¬ (i : Int) < (l.length : Int) := by omega
  simp only [impl_allWithin.l0, h1, ↓reduceIte]
  rw [List.drop_eq_nil_of_le (by omega)]
  exact Ev.now _
 | succ d ih =>
  intro i hi
  refine ev_succ ?_
  have h1 : (i : Int) < (l.length : Int) := by omega
  have h0 : (0 : Int) ≤ (i : Int) := by omega
  have hi' : i < l.length := by omega
  simp only [impl_allWithin.l0, h1, h0, ↓reduceIte, impl_within_f, Option.bind_some, rd_nat hi', w64_nat hi' hl]
  rw [drop_cons hi']
  show Ev _ (inB l[i] a b && allB (l.drop (i + 1)) a b)
  cases inB l[i] a b with
  | true => simpa using ih (i + 1) (by omega)
  | false => simpa using Ev.now false
theorem ev_impl_allWithin (l : List Int) (a b : Int) (hl : l.length ≤ 9223372036854775807) : Ev (fun k => impl_allWithin.f k l a b) (allB l a b) := by
 unfold impl_allWithin.f
 simpa using ev_impl_allWithin_l0 a b l hl l.length 0 (by omega)

theorem ev_impl_total_l0 (l : List Int) (hl : l.length ≤ 9223372036854775807) (d : Nat) : ∀ (i : Nat) (s : Int), i + d = l.length → wrap64 s = s → Ev (fun k => impl_total.l0 k s l (l.length : Int) (i : Int)) (wrap64 (s + (l.drop i).sum)) := by
 induction d with
 | zero =>
  intro i s hi hs
  refine ev_succ ?_
  have h1 : ¬ (i : Int) < (l.length : Int) := by omega
  simp only [impl_total.l0, h1, ↓reduceIte]
  rw [List.drop_eq_nil_of_le (by omega)]
  simp only [List.sum_nil, Int.add_zero, hs]
  exact Ev.now _
 | succ d ih =>
  intro i s hi hs
  refine ev_succ ?_
  have h1 : (i : Int) < (l.length : Int) := by omega
  have h0 : (0 : Int) ≤ (i : Int) := by omega
  have hi' : i < l.length := by omega
  simp only [impl_total.l0, h1, h0, ↓reduceIte, rd_nat hi', w64_nat hi' hl]
  refine ev_eq (ih (i + 1) _ (by omega) (w64_idem _)) ?_
  rw [drop_cons hi', List.sum_cons, w64_add_l, Int.add_assoc]
theorem ev_impl_total (l : List Int) (hl : l.length ≤ 9223372036854775807) : Ev (fun k => impl_total.f k l) (wrap64 l.sum) := by
 unfold impl_total.f
 simpa using ev_impl_total_l0 l hl l.length 0 0 (by omega) w64_zero

theorem ev_impl_IsProcess (n : Int) (l : List Int) (s u h b : Int) (hl : l.length ≤ 9223372036854775807) : Ev (fun k => impl_IsProcess.f k n l s u h b) (procB n l s u h b) := by
 unfold impl_IsProcess.f procB
 simp only [impl_within_f, Option.bind_some]
 refine ev_ite (fun h1 => ?_) (fun h1 => ?_)
 ·refine ev_ite (fun h2 => ?_) (fun h2 => ?_)
  ·refine Ev.bind (ev_impl_allWithin l 0 4 hl) ?_
   refine ev_ite (fun h3 => ?_) (fun h3 => ?_)
   ·refine Ev.bind (ev_impl_total l hl) ?_
    refine ev_ite (fun h4 => ?_) (fun h4 => ?_)
    ·refine ev_ite (fun h5 => ?_) (fun h5 => ?_)
     ·refine Ev.bind (ev_impl_allWithin [u, h, b] 0 9 (by simp)) ?_
      refine ev_eq (Ev.now _) ?_
      have e : allB [u, h, b] 0 9 = (inB u 0 9 && (inB h 0 9 && inB b 0 9)) := by simp [allB, inB]
      rw [e]
      simp [h1, h2, h3, h4, h5]
     ·exact ev_eq (Ev.now _) (by simp [h5])
    ·exact ev_eq (Ev.now _) (by simp [h4])
   ·exact ev_eq (Ev.now _) (by simp [h3])
  ·exact ev_eq (Ev.now _) (by simp [h2])
 ·exact ev_eq (Ev.now _) (by simp [h1])

theorem impl_Process_order_f (n : Int) (l : List Int) (s u h b x y : Int) (hxy : x ≤ y) : impl_Process_order.f n l s u h b x y = some (orderV s u x y) := by
 unfold impl_Process_order.f orderV
 by_cases hc : y = x
 ·rw [if_pos hc, if_neg (by omega)]
 ·rw [if_neg hc, if_pos (by omega)]

theorem ev_impl_power_l0 (a n : Int) (hn : 0 ≤ n ∧ n ≤ 100) (d : Nat) : ∀ (i : Nat), (i : Int) + d = n → Ev (fun k => impl_power.l0 k a (powW a i) n (i : Int)) (powW a n.toNat) := by
 induction d with
 | zero =>
  intro i hi
  refine ev_succ ?_
  have h1 : ¬ (i : Int) < n := by omega
  simp only [impl_power.l0, h1, ↓reduceIte]
  rw [show n.toNat = i by omega]
  exact Ev.now _
 | succ d ih =>
  intro i hi
  refine ev_succ ?_
  have h1 : (i : Int) < n := by omega
  simp only [impl_power.l0, h1, ↓reduceIte]
  rw [w64 (x := (i : Int) + 1) (by omega) (by omega)]
  have h2 := ih (i + 1) (by omega)
  rw [powW] at h2
  exact h2
theorem ev_impl_power (a n : Int) (hn : 0 ≤ n ∧ n ≤ 100) : Ev (fun k => impl_power.f k a n) (powW a n.toNat) := by
 unfold impl_power.f
 exact ev_impl_power_l0 a n hn n.toNat 0 (by omega)

theorem ev_impl_Process_whole (n : Int) (l : List Int) (s u h b m : Int) (hl : l.length ≤ 9223372036854775807) (hm : 0 ≤ m ∧ m ≤ 100) : Ev (fun k => impl_Process_whole.f k n l s u h b m) (powV l m) := by
 unfold impl_Process_whole.f powV
 exact Ev.bind (ev_impl_total l hl) (Ev.bind (ev_impl_power _ m hm) (Ev.now _))

theorem impl_levels_at_f (x : S94) (y : Int) (hy : -10 ≤ y ∧ y ≤ 10) : impl_levels_at.f x.f0 x.f1 x.f2 x.f3 x.f4 x.f5 x.f6 x.f7 x.f8 x.f9 x.f10 x.f11 x.f12 x.f13 x.f14 x.f15 x.f16 x.f17 x.f18 x.f19 x.f20 y = some (rd (cellsL x) (y + 10)) := by
 have e : wrap64 (y + 10) = y + 10 := w64 (by omega) (by omega)
 unfold impl_levels_at.f
 rw [e, if_pos (by omega)]
 obtain ⟨j, hj⟩ : ∃ j : Nat, y + 10 = (j : Int) := ⟨(y + 10).toNat, by omega⟩
 have hj2 : j < 21 := by omega
 rw [hj]
 match j, hj2 with
 | 0, _ => rfl
 | 1, _ => rfl
 | 2, _ => rfl
 | 3, _ => rfl
 | 4, _ => rfl
 | 5, _ => rfl
 | 6, _ => rfl
 | 7, _ => rfl
 | 8, _ => rfl
 | 9, _ => rfl
 | 10, _ => rfl
 | 11, _ => rfl
 | 12, _ => rfl
 | 13, _ => rfl
 | 14, _ => rfl
 | 15, _ => rfl
 | 16, _ => rfl
 | 17, _ => rfl
 | 18, _ => rfl
 | 19, _ => rfl
 | 20, _ => rfl
 | j + 21, h => exact absurd h (by omega)

theorem impl_Process_keep_f (n : Int) (l : List Int) (s u h b x : Int) (hh : 0 ≤ h ∧ h ≤ 9) (hb : 0 ≤ b ∧ b ≤ 9) (hx : -100000 ≤ x ∧ x ≤ 100000) : impl_Process_keep.f n l s u h b x = some (cst h b x) := by
 unfold impl_Process_keep.f
 rw [cst_impl hh hb hx]

theorem ev_impl_Process_behind_l0 (n : Int) (l : List Int) (s u h b : Int) (x : S94) (y m : Int) (hl : l.length ≤ 5) (hh : 0 ≤ h ∧ h ≤ 9) (hb : 0 ≤ b ∧ b ≤ 9) (hm : 1 ≤ m ∧ m ≤ 6) (hy : (l.length : Int) - 11 ≤ y ∧ y ≤ 10) (d : Nat) : ∀ (i : Nat) (acc : Int), i + d = l.length → Ev (fun k => impl_Process_behind.l0 k m y acc l (l.length : Int) (i : Int) n l s u h b x.f0 x.f1 x.f2 x.f3 x.f4 x.f5 x.f6 x.f7 x.f8 x.f9 x.f10 x.f11 x.f12 x.f13 x.f14 x.f15 x.f16 x.f17 x.f18 x.f19 x.f20) (aftW h b (powV l (m - 1)) (cellsL x) (l.drop i) (y - i) acc) := by
 induction d with
 | zero =>
  intro i acc hi
  refine ev_succ ?_
  have h1 : ¬ (i : Int) < (l.length : Int) := by omega
  simp only [impl_Process_behind.l0, h1, ↓reduceIte]
  rw [List.drop_eq_nil_of_le (by omega), aftW]
  exact Ev.now _
 | succ d ih =>
  intro i acc hi
  refine ev_succ ?_
  have h1 : (i : Int) < (l.length : Int) := by omega
  have h0 : (0 : Int) ≤ (i : Int) := by omega
  have hi' : i < l.length := by omega
  have e1 : wrap64 (y - (i : Int)) = y - i := w64 (by omega) (by omega)
  have e3 : wrap64 (m - 1) = m - 1 := w64 (by omega) (by omega)
  have e4 : wrap64 ((i : Int) + 1) = ((i + 1 : Nat) : Int) := w64_nat hi' (by omega)
  have e5 := impl_Process_keep_f n l s u h b (y - i) hh hb (by omega)
  have e6 := impl_levels_at_f x (y - i) (by omega)
  simp only [impl_Process_behind.l0, h1, h0, ↓reduceIte, e1, e3, e4, e5, Option.bind_some]
  refine Ev.bind (ev_impl_Process_whole n l s u h b (m - 1) (by omega) (by omega)) ?_
  simp only [e6, Option.bind_some]
  rw [rd_nat hi', drop_cons hi', aftW]
  refine ev_eq (ih (i + 1) _ (by omega)) ?_
  rw [show y - ((i + 1 : Nat) : Int) = y - (i : Int) - 1 by omega]
theorem ev_impl_Process_behind (n : Int) (l : List Int) (s u h b : Int) (x : S94) (y m : Int) (hl : l.length ≤ 5) (hh : 0 ≤ h ∧ h ≤ 9) (hb : 0 ≤ b ∧ b ≤ 9) (hm : 1 ≤ m ∧ m ≤ 6) (hy : (l.length : Int) - 11 ≤ y ∧ y ≤ 10) : Ev (fun k => impl_Process_behind.f k n l s u h b m y x.f0 x.f1 x.f2 x.f3 x.f4 x.f5 x.f6 x.f7 x.f8 x.f9 x.f10 x.f11 x.f12 x.f13 x.f14 x.f15 x.f16 x.f17 x.f18 x.f19 x.f20) (aftV l h b (cellsL x) y m) := by
 unfold impl_Process_behind.f aftV
 refine ev_eq (ev_impl_Process_behind_l0 n l s u h b x y m hl hh hb hm hy l.length 0 0 (by omega)) ?_
 rw [List.drop_zero, show y - ((0 : Nat) : Int) = y by omega]

theorem impl_Process_floor_f (n : Int) (l : List Int) (s u h b : Int) : impl_Process_floor.f n l s u h b = some (floorV l) := rfl

theorem ev_impl_Process_least_l0 (n : Int) (l : List Int) (s u h b : Int) (z : S94) (x m : Int) (hl : l.length ≤ 5) (hh : 0 ≤ h ∧ h ≤ 9) (hb : 0 ≤ b ∧ b ≤ 9) (hm : 1 ≤ m ∧ m ≤ 6) (hx : -10 ≤ x ∧ x ≤ 10) (d : Nat) : ∀ (y : Int) (r : Int × Int), y + d = 11 → mx x (floorV l) ≤ y → Ev (fun k => impl_Process_least.l0 k m x r.1 r.2 y n l s u h b z.f0 z.f1 z.f2 z.f3 z.f4 z.f5 z.f6 z.f7 z.f8 z.f9 z.f10 z.f11 z.f12 z.f13 z.f14 z.f15 z.f16 z.f17 z.f18 z.f19 z.f20) ((fwdV (lvCost l s u h b (cellsL z) m x) d y r).2, (fwdV (lvCost l s u h b (cellsL z) m x) d y r).1) := by
 have hf := floorV_eq hl
 have hlo : (l.length : Int) - 11 ≤ mx x (floorV l) ∧ x ≤ mx x (floorV l) ∧ -10 ≤ mx x (floorV l) := by unfold mx; omega
 induction d with
 | zero =>
  intro y r hy hy2
  refine ev_succ ?_
  have h1 : ¬ y ≤ 10 := by omega
  simp only [impl_Process_least.l0, h1, ↓reduceIte, fwdV]
  exact Ev.now _
 | succ d ih =>
  intro y r hy hy2
  refine ev_succ ?_
  have h1 : y ≤ 10 := by omega
  have e5 := impl_Process_order_f n l s u h b x y (by omega)
  simp only [impl_Process_least.l0, h1, ↓reduceIte, e5, Option.bind_some]
  refine Ev.bind (ev_impl_Process_whole n l s u h b m (by omega) (by omega)) ?_
  refine Ev.bind (ev_impl_Process_behind n l s u h b z y m hl hh hb hm (by omega)) ?_
  rw [show wrap64 (y + 1) = y + 1 from w64 (by omega) (by omega)]
  rw [fwdV]
  refine ev_ite (fun h3 => ?_) (fun h3 => ?_)
  ·have h3' : lvCost l s u h b (cellsL z) m x y < r.2 := h3
   rw [if_pos h3']
   exact ih (y + 1) (y, lvCost l s u h b (cellsL z) m x y) (by omega) (by omega)
  ·have h3' : ¬ lvCost l s u h b (cellsL z) m x y < r.2 := h3
   rw [if_neg h3']
   exact ih (y + 1) r (by omega) (by omega)
theorem ev_impl_Process_least (n : Int) (l : List Int) (s u h b : Int) (z : S94) (x m : Int) (hl : 1 ≤ l.length ∧ l.length ≤ 5) (hh : 0 ≤ h ∧ h ≤ 9) (hb : 0 ≤ b ∧ b ≤ 9) (hm : 1 ≤ m ∧ m ≤ 6) (hx : -10 ≤ x ∧ x ≤ 10) : Ev (fun k => impl_Process_least.f k n l s u h b m x z.f0 z.f1 z.f2 z.f3 z.f4 z.f5 z.f6 z.f7 z.f8 z.f9 z.f10 z.f11 z.f12 z.f13 z.f14 z.f15 z.f16 z.f17 z.f18 z.f19 z.f20) ((bestV l s u h b (cellsL z) m x).2, (bestV l s u h b (cellsL z) m x).1) := by
 have hf := floorV_eq hl.2
 have hlo : mx x (floorV l) ≤ 10 ∧ (l.length : Int) - 11 ≤ mx x (floorV l) ∧ x ≤ mx x (floorV l) ∧ -10 ≤ mx x (floorV l) := by unfold mx; omega
 have e5 := impl_Process_order_f n l s u h b x (mx x (floorV l)) hlo.2.2.1
 unfold impl_Process_least.f
 simp only [impl_Process_floor_f, Option.bind_some, e5]
 refine Ev.bind (ev_impl_Process_whole n l s u h b m (by omega) (by omega)) ?_
 refine Ev.bind (ev_impl_Process_behind n l s u h b z _ m hl.2 hh hb hm (by omega)) ?_
 rw [show wrap64 (mx x (floorV l) + 1) = mx x (floorV l) + 1 from w64 (by omega) (by omega)]
 refine ev_eq (ev_impl_Process_least_l0 n l s u h b z x m hl.2 hh hb hm hx (10 - mx x (floorV l)).toNat (mx x (floorV l) + 1) (mx x (floorV l), lvCost l s u h b (cellsL z) m x (mx x (floorV l))) (by omega) (by omega)) ?_
 rw [fwdV_best _ hlo.1]
 rfl

def mkL (c : Nat → Int) : S94 := ⟨c 0, c 1, c 2, c 3, c 4, c 5, c 6, c 7, c 8, c 9, c 10, c 11, c 12, c 13, c 14, c 15, c 16, c 17, c 18, c 19, c 20⟩
theorem cellsL_mk {c : Nat → Int} {R : List Int} (hR : R.length = 21) (h : ∀ q, q < 21 → c q = rd R (q : Int)) : cellsL (mkL c) = R := by
 refine List.ext_getElem (by rw [hR]; rfl) (fun i h1 h2 => ?_)
 have h3 := h i (by omega)
 rw [rd_nat h2] at h3
 rw [← h3]
 have hi : i < 21 := by omega
 match i, hi with
 | 0, _ => rfl
 | 1, _ => rfl
 | 2, _ => rfl
 | 3, _ => rfl
 | 4, _ => rfl
 | 5, _ => rfl
 | 6, _ => rfl
 | 7, _ => rfl
 | 8, _ => rfl
 | 9, _ => rfl
 | 10, _ => rfl
 | 11, _ => rfl
 | 12, _ => rfl
 | 13, _ => rfl
 | 14, _ => rfl
 | 15, _ => rfl
 | 16, _ => rfl
 | 17, _ => rfl
 | 18, _ => rfl
 | 19, _ => rfl
 | 20, _ => rfl
 | i + 21, h => exact absurd h (by omega)

theorem impl_IsWorthProof_l1_at (k : Nat) (L : List S94) (n : Int) (l : List Int) (s u h b : Int) (m : Int) (i : Nat) (hi : i < 21) : impl_IsWorthProof.l1 (k + 1) L L m (i : Int) n l s u h b = if rd (cellsL (rd_T94 L m)) (i : Int) > 0 then some (false, true) else impl_IsWorthProof.l1 k L L m ((i + 1 : Nat) : Int) n l s u h b := by
 have c1 : (i : Int) < 21 := by omega
 have hw : wrap64 ((i : Int) + 1) = ((i + 1 : Nat) : Int) := wpA i (by omega)
 simp only [impl_IsWorthProof.l1, c1, ↓reduceIte, hw]
 clear hw c1
 match i, hi with
 | 0, _ => rfl
 | 1, _ => rfl
 | 2, _ => rfl
 | 3, _ => rfl
 | 4, _ => rfl
 | 5, _ => rfl
 | 6, _ => rfl
 | 7, _ => rfl
 | 8, _ => rfl
 | 9, _ => rfl
 | 10, _ => rfl
 | 11, _ => rfl
 | 12, _ => rfl
 | 13, _ => rfl
 | 14, _ => rfl
 | 15, _ => rfl
 | 16, _ => rfl
 | 17, _ => rfl
 | 18, _ => rfl
 | 19, _ => rfl
 | 20, _ => rfl
 | j + 21, hh => exact absurd hh (by omega)
theorem ev_impl_IsWorthProof_l3 (n : Int) (l : List Int) (s u h b : Int) (hp : procB n l s u h b = true) (T : List (List Int)) (hT : tabB n T = true) (L : List S94) (hL : L.length = T.length) (hc : ∀ q : Nat, q < T.length → cellsL (rd_T94 L (q : Int)) = rd_L1 T (q : Int)) (t : Nat) (ht : (t : Int) < n) {v : Bool × Bool} (hK : Ev (fun k => impl_IsWorthProof.l2 k L n ((t + 1 : Nat) : Int) n l s u h b) v) (d : Nat) : ∀ i : Nat, i + d = 21 → Ev (fun k => impl_IsWorthProof.l3 k L (t : Int) ((i : Int) - 10) n (t : Int) n l s u h b) (if underF l s u h b n T t d i = true then v else (false, true)) := by
 have hq := procB_spec hp
 have hs := tabB_spec hT
 have h1 := hs.2 t (by omega)
 have h2 := hs.2 (t + 1) (by omega)
 have ht5 : t ≤ 5 := by omega
 induction d with
 | zero =>
  intro i hi
  refine ev_succ ?_
  have c1 : ¬ (i : Int) - 10 ≤ 10 := by omega
  simp only [impl_IsWorthProof.l3, c1, wpA t (by omega), ↓reduceIte, underF]
  exact hK
 | succ d ih =>
  intro i hi
  refine ev_succ ?_
  have c1 : (i : Int) - 10 ≤ 10 := by omega
  have c2 : (0 : Int) ≤ ((t + 1 : Nat) : Int) := by omega
  have c3 : ((t + 1 : Nat) : Int) < (L.length : Int) := by omega
  have c4 : (0 : Int) ≤ (t : Int) := by omega
  have c5 : (t : Int) < (L.length : Int) := by omega
  have ea := impl_levels_at_f (rd_T94 L (t : Int)) ((i : Int) - 10) (by omega)
  rw [hc t (by omega), show (i : Int) - 10 + 10 = (i : Int) by omega] at ea
  have d1 : 1 ≤ n - (t : Int) ∧ n - (t : Int) ≤ 6 := by omega
  have d2 : -10 ≤ (i : Int) - 10 ∧ (i : Int) - 10 ≤ 10 := by omega
  have d3 : i + 1 + d = 21 := by omega
  have d4 : 0 ≤ h ∧ h ≤ 9 := by omega
  have d5 : 0 ≤ b ∧ b ≤ 9 := by omega
  have d6 := hc (t + 1) (by omega)
  have d7 : -100 ≤ n - (t : Int) ∧ n - (t : Int) ≤ 100 := by omega
  have d8 : i ≤ 100 := by omega
  have d9 : t ≤ 100 := by omega
  have e1 := wpA t d9
  have e2 := wpB (n - (t : Int)) d7
  have e4 := wpD i d8
  simp only [impl_IsWorthProof.l3, c1, e1, e2, c2, c3, ↓reduceIte]
  refine Ev.bind (ev_impl_Process_least n l s u h b (rd_T94 L ((t + 1 : Nat) : Int)) _ _ hq.2.1 d4 d5 d1 d2) ?_
  simp only [c4, c5, e4, ea, ↓reduceIte, Option.bind_some, d6]
  clear e1 e2 e4 ea d6
  rw [underF]
  by_cases g : rd (rd_L1 T (t : Int)) (i : Int) > (bestV l s u h b (rd_L1 T ((t + 1 : Nat) : Int)) (n - (t : Int)) ((i : Int) - 10)).2
  ·rw [if_pos g]
   exact ev_yes g (Ev.now _)
  ·rw [if_neg g]
   exact ev_no g (ih (i + 1) d3)
theorem ev_impl_IsWorthProof_l2 (n : Int) (l : List Int) (s u h b : Int) (hp : procB n l s u h b = true) (T : List (List Int)) (hT : tabB n T = true) (L : List S94) (hL : L.length = T.length) (hc : ∀ q : Nat, q < T.length → cellsL (rd_T94 L (q : Int)) = rd_L1 T (q : Int)) (d : Nat) : ∀ t : Nat, (t : Int) + d = n → Ev (fun k => impl_IsWorthProof.l2 k L n (t : Int) n l s u h b) (allUnder l s u h b n T d t, true) := by
 have hq := procB_spec hp
 induction d with
 | zero =>
  intro t ht
  refine ev_succ ?_
  have c1 : ¬ (t : Int) < n := by omega
  simp only [impl_IsWorthProof.l2, c1, ↓reduceIte]
  exact Ev.now _
 | succ d ih =>
  intro t ht
  refine ev_succ ?_
  have c1 : (t : Int) < n := by omega
  simp only [impl_IsWorthProof.l2, c1, ↓reduceIte]
  refine ev_eq (ev_impl_IsWorthProof_l3 n l s u h b hp T hT L hL hc t c1 (ih (t + 1) (by omega)) 21 0 rfl) ?_
  rw [allUnder]
  by_cases g : underF l s u h b n T t 21 0 = true
  ·rw [if_pos g, if_pos g]
  ·rw [if_neg g, if_neg g]
theorem ev_impl_IsWorthProof_l1 (n : Int) (l : List Int) (s u h b : Int) (hp : procB n l s u h b = true) (T : List (List Int)) (hT : tabB n T = true) (L : List S94) (hL : L.length = T.length) (hc : ∀ q : Nat, q < T.length → cellsL (rd_T94 L (q : Int)) = rd_L1 T (q : Int)) (d : Nat) : ∀ j : Nat, j + d = 21 → Ev (fun k => impl_IsWorthProof.l1 k L L n (j : Int) n l s u h b) (nonB ((rd_L1 T n).drop j) && allUnder l s u h b n T n.toNat 0, true) := by
 have hq := procB_spec hp
 have hs := tabB_spec hT
 have hN := hs.2 n.toNat (by omega)
 have hcN := hc n.toNat (by omega)
 rw [show ((n.toNat : Nat) : Int) = n by omega] at hN hcN
 induction d with
 | zero =>
  intro j hj
  refine ev_succ ?_
  have c2 : ¬ (j : Int) < 21 := by omega
  simp only [impl_IsWorthProof.l1, c2, ↓reduceIte]
  rw [List.drop_eq_nil_of_le (by omega)]
  exact ev_impl_IsWorthProof_l2 n l s u h b hp T hT L hL hc n.toNat 0 (by omega)
 | succ d ih =>
  intro j hj
  refine ev_succ ?_
  have hj' : j < (rd_L1 T n).length := by omega
  simp only [impl_IsWorthProof_l1_at _ L n l s u h b n j (by omega), hcN, rd_nat hj']
  rw [drop_cons hj']
  show Ev _ (((!decide ((rd_L1 T n)[j] > 0)) && nonB ((rd_L1 T n).drop (j + 1))) && _, true)
  by_cases g : (rd_L1 T n)[j] > 0
  ·refine ev_yes g ?_
   simp only [decide_eq_true g, Bool.not_true, Bool.false_and]
   exact Ev.now _
  ·refine ev_no g ?_
   simp only [decide_eq_false g, Bool.not_false, Bool.true_and]
   exact ih (j + 1) (by omega)
theorem ev_impl_IsWorthProof_l0 (n : Int) (l : List Int) (s u h b : Int) (hp : procB n l s u h b = true) (T : List (List Int)) (hTn : (T.length : Int) = n + 1) (hr : ∀ r ∈ T, r.length ≤ 9223372036854775807) (d : Nat) : ∀ (i : Nat) (L : List S94), i + d = T.length → L.length = T.length → (∀ q : Nat, q < i → cellsL (rd_T94 L (q : Int)) = rd_L1 T (q : Int)) → (T.take i).all rowW = true → Ev (fun k => impl_IsWorthProof.l0 k L T (T.length : Int) (i : Int) n l s u h b) (if (T.drop i).all rowW = true then (proofV l s u h b n T, true) else (false, true)) := by
 have hq := procB_spec hp
 induction d with
 | zero =>
  intro i L hi hL hc ha
  refine ev_succ ?_
  have c1 : ¬ (i : Int) < (T.length : Int) := by omega
  have c2 : (0 : Int) ≤ n := by omega
  have c3 : n < (L.length : Int) := by omega
  simp only [impl_IsWorthProof.l0, c1, c2, c3, ↓reduceIte]
  rw [List.drop_eq_nil_of_le (by omega), if_pos (show ([] : List (List Int)).all rowW = true from rfl)]
  rw [List.take_of_length_le (by omega)] at ha
  have hT : tabB n T = true := by unfold tabB; rw [ha, Bool.true_and, beq_iff_eq]; exact hTn
  unfold proofV
  simpa using ev_impl_IsWorthProof_l1 n l s u h b hp T hT L hL (fun q hq => hc q (by omega)) 21 0 rfl
 | succ d ih =>
  intro i L hi hL hc ha
  refine ev_succ ?_
  have hi' : i < T.length := by omega
  have c1 : (i : Int) < (T.length : Int) := by omega
  have c2 : (0 : Int) ≤ (i : Int) := by omega
  have c3 : (i : Int) < (L.length : Int) := by omega
  simp only [impl_IsWorthProof.l0, c1, c2, c3, ↓reduceIte, w64_nat hi' (show T.length ≤ 9223372036854775807 by omega)]
  rw [drop_cons hi', List.all_cons]
  have hR := rdL_at hi'
  have no : rowW T[i] = false → Ev (fun _ => some (false, true)) (if (rowW T[i] && (T.drop (i + 1)).all rowW) = true then (proofV l s u h b n T, true) else (false, true)) := fun g => by rw [g]; exact Ev.now _
  refine ev_ite (fun g1 => ?_) (fun g1 => no ?_)
  ·refine Ev.bind (ev_impl_allWithin _ _ _ (by rw [hR]; exact hr _ (List.getElem_mem hi'))) ?_
   refine ev_ite (fun g2 => ?_) (fun g2 => no ?_)
   ·have hrow : rowW T[i] = true := by
     unfold rowW
     rw [Bool.and_eq_true, beq_iff_eq, ← hR]
     exact ⟨g2, g1⟩
    rw [hrow, Bool.true_and]
    refine ih (i + 1) _ (by omega) (by rw [List.length_set]; exact hL) (fun q hq => ?_) ?_
    ·unfold rd_T94
     rw [Int.toNat_natCast, Int.toNat_natCast, List.getD_eq_getElem?_getD, List.getElem?_set]
     by_cases e : i = q
     ·subst e
      rw [if_pos rfl, if_pos (by omega)]
      exact cellsL_mk (c := fun z => rd (rd_L1 T (i : Int)) (z : Int)) (by omega) (fun z _ => rfl)
     ·rw [if_neg e]
      have := hc q (by omega)
      unfold rd_T94 at this
      rw [Int.toNat_natCast, List.getD_eq_getElem?_getD] at this
      exact this
    ·rw [List.take_succ_eq_append_getElem hi', List.all_append, ha, Bool.true_and]
     simp [hrow]
   ·unfold rowW
    rw [← hR]
    simp [g2]
  ·unfold rowW
   rw [← hR]
   have : (((rd_L1 T (i : Int)).length : Int) == 21) = false := beq_eq_false_iff_ne.mpr g1
   rw [this, Bool.and_false]
theorem ev_impl_IsWorthProof (n : Int) (l : List Int) (s u h b : Int) (T : List (List Int)) (hl : l.length ≤ 1048576) (hT : T.length ≤ 1048576) (hr : ∀ r ∈ T, r.length ≤ 9223372036854775807) : Ev (fun k => impl_IsWorthProof.f k n l s u h b T) (isWorthV n l s u h b T) := by
 unfold impl_IsWorthProof.f
 refine Ev.bind (ev_impl_IsProcess n l s u h b (by omega)) ?_
 unfold isWorthV
 by_cases hp : procB n l s u h b = true
 ·rw [if_pos hp]
  refine ev_yes hp ?_
  have hq := procB_spec hp
  simp only [wpB (n + 1) (by omega)]
  refine ev_ite (fun g => ?_) (fun g => ?_)
  ·have c1 : 0 ≤ n + 1 := by omega
   have c2 : (n + 1).toNat ≤ 1675446289944 := by omega
   simp only [c1, c2, ↓reduceIte]
   refine ev_eq (ev_impl_IsWorthProof_l0 n l s u h b hp T g hr T.length 0 _ (by omega) (by rw [List.length_replicate]; omega) (fun q hq => by omega) (by simp)) ?_
   rw [List.drop_zero]
   unfold tabB
   rw [beq_iff_eq.mpr g, Bool.and_true]
  ·rw [if_neg (fun ht => g (tabB_spec ht).1)]
   exact Ev.now _
 ·rw [if_neg hp]
  exact ev_no hp (Ev.now _)

theorem FnExactIsWorthProof (a0_0 : Int) (l0_1 : List (Int)) (a0_2 : Int) (a0_3 : Int) (a0_4 : Int) (a0_5 : Int) (l1 : List (List (Int))) (w0_0 : (Lit.int .i64 a0_0).wf = true) (h0_1 : l0_1.length ≤ 9223372036854775807) (w0_1 : ∀ y ∈ l0_1, (Lit.int .i64 y).wf = true) (w0_2 : (Lit.int .i64 a0_2).wf = true) (w0_3 : (Lit.int .i64 a0_3).wf = true) (w0_4 : (Lit.int .i64 a0_4).wf = true) (w0_5 : (Lit.int .i64 a0_5).wf = true) (h1 : l1.length ≤ 9223372036854775807) (w1 : ∀ y ∈ l1, (y.length ≤ 9223372036854775807 ∧ ∀ z ∈ y, (Lit.int .i64 z).wf = true)) : ∃ k, laws_FnExactIsWorthProof.f k a0_0 l0_1 a0_2 a0_3 a0_4 a0_5 l1 = some true := by
 refine Ev.rounds ?_
 have hrow : ∀ i, i < l1.length → (rd_L1 l1 (i : Int)).length ≤ 9223372036854775807 := fun i hi => (w1 _ (by rw [rdL_at hi]; exact List.getElem_mem _)).1
 unfold laws_FnExactIsWorthProof.f
 by_cases hn : l0_1.length ≤ 1048576
 ·simp only [laws_szProcess_le a0_0 l0_1 a0_2 a0_3 a0_4 a0_5 hn, Option.bind_some]
  refine ev_ite (fun h => Ev.now _) (fun h0 => ?_)
  refine Ev.bind (ev_laws_szIntSS l1 _ h1 hrow (by omega) (by omega)) ?_
  refine ev_ite (fun h => Ev.now _) (fun h => ?_)
  have hz := szV_spec (by omega) (by omega) h
  have hs := ev_spec_IsWorthProof a0_0 l0_1 a0_2 a0_3 a0_4 a0_5 l1 hn hz.1 (fun r hr => (w1 r hr).1)
  have hi := ev_impl_IsWorthProof a0_0 l0_1 a0_2 a0_3 a0_4 a0_5 l1 hn hz.1 (fun r hr => (w1 r hr).1)
  generalize isWorthV a0_0 l0_1 a0_2 a0_3 a0_4 a0_5 l1 = v at hs hi
  obtain ⟨v, b⟩ := v
  clear h h0 hrow
  repeat first
   | exact Ev.now _
   | (refine Ev.bind ht ?_; try dsimp only)
   | (refine Ev.bind hs ?_; try dsimp only)
   | (refine Ev.bind hi ?_; try dsimp only)
   | (refine Ev.bind (ev_laws_toIntS _ (by first | assumption | omega)) ?_; try dsimp only)
   | (refine Ev.bind (ev_laws_toProcess _ _ _ _ _ _ (by first | assumption | omega)) ?_; try dsimp only)
   | (refine Ev.bind (ev_laws_eqIntS_self _ (by first | assumption | omega)) ?_; try dsimp only)
   | (refine Ev.bind (ev_laws_eqProcess_self _ _ _ _ _ _ (by first | assumption | omega)) ?_; try dsimp only)
   | (refine Ev.bind (ev_laws_eqIntSS_self _ (by first | assumption | omega)) ?_; try dsimp only)
   | (refine Ev.bind (ev_laws_toIntSS _ (by first | assumption | omega)) ?_; try dsimp only)
   | (refine ev_ite (fun h => absurd h (by omega)) (fun _ => ?_))
   | (refine ev_ite (fun _ => ?_) (fun h => absurd (by omega) h))
   | (simp only [bne_self_eq_false, Bool.false_eq_true, ↓reduceIte])
   | (refine ev_succ ?_; simp only [laws_FnExactIsWorthProof.j0])
 ·simp only [laws_szProcess_gt a0_0 l0_1 a0_2 a0_3 a0_4 a0_5 h0_1 (by omega), Option.bind_some]
  exact Ev.now _

end Go.Proofs.Ytmekmkhdhakohaa.Pure
