/- The pure side of FnExactStockByAge: what the program's text computes and what the reference's text computes are the same value, for every argument. No condition. -/
import Derived.Test.YtgkjnhajomjhcaaPFnExactStockByAgex9
namespace Go.Proofs.Ytgkjnhajomjhcaa.Pure
open Go.RowKit Go.Proofs.Ytgkjnhajomjhcaa.PFnExactStockByAge Go.Proofs.YtgkjnhajomjhcaaW.PrintWords Go.Proofs.YtgkjnhajomjhcaaW.PrintLast
set_option linter.unusedVariables false
set_option linter.unusedSimpArgs false

theorem ev_succ {α : Type} {g : Nat → Option α} {r : α} (h : Ev (fun k => g (k + 1)) r) : Ev g r := Ev.step (fun _ => rfl) h
theorem ev_pure {α : Type} {x : Option α} {r : α} (h : x = some r) : Ev (fun _ => x) r := ⟨0, fun _ _ => h⟩
theorem ev_eq {α : Type} {g : Nat → Option α} {r r' : α} (h : Ev g r) (e : r = r') : Ev g r' := e ▸ h
theorem ev_ite {α : Type} {c : Prop} [Decidable c] {g f : Nat → Option α} {r : α} (h1 : c → Ev g r) (h2 : ¬ c → Ev f r) : Ev (fun k => if c then g k else f k) r := by
  by_cases h : c
  · simp only [h, if_true]; exact h1 h
  · simp only [h, if_false]; exact h2 h
theorem w64 {x : Int} (h : -9223372036854775808 ≤ x) (h' : x ≤ 9223372036854775807) : wrap64 x = x := by unfold wrap64; omega
theorem w64_zero : wrap64 0 = 0 := w64 (by omega) (by omega)
theorem w64_idem (x : Int) : wrap64 (wrap64 x) = wrap64 x := by unfold wrap64; omega
theorem w64_add_l (x y : Int) : wrap64 (wrap64 x + y) = wrap64 (x + y) := by unfold wrap64; omega
theorem w64_add_r (x y : Int) : wrap64 (x + wrap64 y) = wrap64 (x + y) := by unfold wrap64; omega
theorem w64_sub_l (x y : Int) : wrap64 (wrap64 x - y) = wrap64 (x - y) := by unfold wrap64; omega
theorem w64_sub_r (x y : Int) : wrap64 (x - wrap64 y) = wrap64 (x - y) := by unfold wrap64; omega
theorem w64_shift (x k : Int) : wrap64 (x + 18446744073709551616 * k) = wrap64 x := by unfold wrap64; omega
theorem w64_ex (x : Int) : ∃ k, wrap64 x = x + 18446744073709551616 * k := by
  unfold wrap64
  exact ⟨-((x + 9223372036854775808) / 18446744073709551616), by omega⟩
theorem w64_mul_l (x y : Int) : wrap64 (wrap64 x * y) = wrap64 (x * y) := by
  obtain ⟨k, hk⟩ := w64_ex x
  rw [hk, Int.add_mul, Int.mul_assoc, w64_shift]
theorem w64_mul_r (x y : Int) : wrap64 (x * wrap64 y) = wrap64 (x * y) := by
  rw [Int.mul_comm, w64_mul_l, Int.mul_comm]
theorem w64_neg (x : Int) : wrap64 (-wrap64 x) = wrap64 (-x) := by unfold wrap64; omega
theorem w64_range (x : Int) : -9223372036854775808 ≤ wrap64 x ∧ wrap64 x ≤ 9223372036854775807 := by unfold wrap64; omega
theorem w64_nat {i n : Nat} (h : i < n) (hn : n ≤ 9223372036854775807) : wrap64 ((i : Int) + 1) = ((i + 1 : Nat) : Int) := by rw [w64 (by omega) (by omega)]; rfl
theorem wf_range {x : Int} (h : (Lit.int .i64 x).wf = true) : -9223372036854775808 ≤ x ∧ x ≤ 9223372036854775807 := by
  simp [Lit.wf, IntKind.min, IntKind.max, IntKind.signed, IntKind.bits] at h
  omega
theorem rd_nat {l : List Int} {i : Nat} (h : i < l.length) : rd l (i : Int) = l[i] := by
  unfold rd
  simp [List.getD_eq_getElem?_getD, h]
def allB (l : List Int) (a b : Int) : Bool := l.all fun x => decide (a ≤ x ∧ x ≤ b)
def inB (x a b : Int) : Bool := decide (a ≤ x ∧ x ≤ b)
theorem allB_mem {l : List Int} {a b : Int} (h : allB l a b = true) : ∀ x ∈ l, a ≤ x ∧ x ≤ b := by
  intro x hx
  have := List.all_eq_true.1 h x hx
  simpa using this
theorem inB_iff {x a b : Int} : inB x a b = true ↔ a ≤ x ∧ x ≤ b := by unfold inB; simp
theorem sum_le {l : List Int} {b : Int} (hb : ∀ x ∈ l, x ≤ b) : l.sum ≤ l.length * b := by
  induction l with
  | nil => simp
  | cons x l ih =>
    have h1 := hb x (by simp)
    have h2 := ih (fun y hy => hb y (by simp [hy]))
    rw [List.sum_cons, List.length_cons]
    have : ((l.length + 1 : Nat) : Int) * b = l.length * b + b := by rw [Int.natCast_add, Int.add_mul]; simp
    rw [this]; omega
theorem le_sum {l : List Int} {b : Int} (hb : ∀ x ∈ l, b ≤ x) : l.length * b ≤ l.sum := by
  induction l with
  | nil => simp
  | cons x l ih =>
    have h1 := hb x (by simp)
    have h2 := ih (fun y hy => hb y (by simp [hy]))
    rw [List.sum_cons, List.length_cons]
    have : ((l.length + 1 : Nat) : Int) * b = l.length * b + b := by rw [Int.natCast_add, Int.add_mul]; simp
    rw [this]; omega
theorem drop_cons {α : Type} {l : List α} {i : Nat} (h : i < l.length) : l.drop i = l[i] :: l.drop (i + 1) := List.drop_eq_getElem_cons h

theorem laws_szIntS_le (l : List Int) (hl : l.length ≤ 1048576) : laws_szIntS.f l 1048576 = some (1048576 - (l.length : Int)) := by
  unfold laws_szIntS.f
  rw [w64 (by omega) (by omega), if_neg (by omega)]
theorem laws_szIntS_gt (l : List Int) (h : l.length ≤ 9223372036854775807) (hl : 1048576 < l.length) : laws_szIntS.f l 1048576 = some (-1) := by
  unfold laws_szIntS.f
  rw [w64 (by omega) (by omega), if_pos (by omega)]
theorem laws_szIntS_f (l : List Int) (t : Int) (h : l.length ≤ 9223372036854775807) (h0 : 0 ≤ t) (h1 : t ≤ 1048576) : laws_szIntS.f l t = some (if t - (l.length : Int) < 0 then -1 else t - (l.length : Int)) := by
  unfold laws_szIntS.f
  rw [w64 (by omega) (by omega)]
  by_cases hc : t - (l.length : Int) < 0
  · rw [if_pos hc, if_pos hc]
  · rw [if_neg hc, if_neg hc]

theorem laws_szShelf_f (a : Int) (s n : List Int) (c e : Int) (hs : s.length ≤ 9223372036854775807) (hn : n.length ≤ 9223372036854775807) : laws_szShelf.f a s n c e 1048576 = some (if 1048576 - (s.length : Int) < 0 then -1 else if 1048576 - (s.length : Int) - (n.length : Int) < 0 then -1 else 1048576 - (s.length : Int) - (n.length : Int)) := by
  unfold laws_szShelf.f
  rw [laws_szIntS_f s 1048576 hs (by omega) (by omega), Option.bind_some]
  by_cases h : 1048576 - (s.length : Int) < 0
  · simp only [h, ↓reduceIte, show ((-1 : Int) < 0) = True from by simp]
  · simp only [h, ↓reduceIte, laws_szIntS_f n _ hn (by omega : 0 ≤ 1048576 - (s.length : Int)) (by omega), Option.bind_some]
    by_cases h2 : 1048576 - (s.length : Int) - (n.length : Int) < 0
    · simp only [h2, ↓reduceIte, show ((-1 : Int) < 0) = True from by simp]
    · simp only [h2, ↓reduceIte]

def allFrom (g : Nat → Bool) : Nat → Nat → Bool
  | 0, _ => true
  | d + 1, i => g i && allFrom g d (i + 1)
theorem allFrom_iff (g : Nat → Bool) (d : Nat) : ∀ i, allFrom g d i = true ↔ ∀ j, i ≤ j → j < i + d → g j = true := by
  induction d with
  | zero => intro i; exact ⟨fun _ j h1 h2 => by omega, fun _ => rfl⟩
  | succ d ih =>
    intro i
    rw [allFrom, Bool.and_eq_true, ih (i + 1)]
    constructor
    · rintro ⟨h1, h2⟩ j h3 h4
      by_cases he : j = i
      · subst he; exact h1
      · exact h2 j (by omega) (by omega)
    · intro h
      exact ⟨h i (by omega) (by omega), fun j h1 h2 => h j (by omega) (by omega)⟩
theorem allFrom_congr {g g' : Nat → Bool} (d : Nat) : ∀ i, (∀ j, i ≤ j → j < i + d → g j = g' j) → allFrom g d i = allFrom g' d i := by
  induction d with
  | zero => intro i _; rfl
  | succ d ih =>
    intro i h
    rw [allFrom, allFrom, h i (by omega) (by omega), ih (i + 1) (fun j h1 h2 => h j (by omega) (by omega))]
def mapFrom {α : Type} (g : Nat → α) : Nat → Nat → List α
  | 0, _ => []
  | d + 1, i => g i :: mapFrom g d (i + 1)
theorem mapFrom_length {α : Type} (g : Nat → α) (d : Nat) : ∀ i, (mapFrom g d i).length = d := by
  induction d with
  | zero => intro i; rfl
  | succ d ih => intro i; rw [mapFrom, List.length_cons, ih]
theorem mapFrom_get {α : Type} (g : Nat → α) (d : Nat) : ∀ (i j : Nat) (h : j < (mapFrom g d i).length), (mapFrom g d i)[j] = g (i + j) := by
  induction d with
  | zero => intro i j h; simp [mapFrom] at h
  | succ d ih =>
    intro i j h
    cases j with
    | zero => rfl
    | succ j =>
      show (mapFrom g d (i + 1))[j]'_ = _
      rw [ih]
      congr 1
      omega
theorem mapFrom_congr {α : Type} {g g' : Nat → α} (d : Nat) : ∀ i, (∀ j, i ≤ j → j < i + d → g j = g' j) → mapFrom g d i = mapFrom g' d i := by
  induction d with
  | zero => intro i _; rfl
  | succ d ih =>
    intro i h
    rw [mapFrom, mapFrom, h i (by omega) (by omega), ih (i + 1) (fun j h1 h2 => h j (by omega) (by omega))]

theorem rdL_mem {m : List (List Int)} {i : Nat} (h : i < m.length) : rd_L1 m (i : Int) ∈ m := by
  unfold rd_L1
  simp [List.getD_eq_getElem?_getD, h]
theorem rdL_nat {m : List (List Int)} {i : Nat} (h : i < m.length) : rd_L1 m (i : Int) = m[i] := by
  unfold rd_L1
  simp [List.getD_eq_getElem?_getD, h]
def shelfB (a : Int) (s n : List Int) (c d : Int) : Bool := inB a 1 8 && (decide (n.length ≤ 8 ∧ s.length = n.length) && (allB s 0 20 && (allB n 0 20 && (inB c 0 20 && inB d 0 20))))
theorem shelfB_spec {a : Int} {s n : List Int} {c d : Int} (h : shelfB a s n c d = true) : (1 ≤ a ∧ a ≤ 8) ∧ n.length ≤ 8 ∧ s.length = n.length := by
  unfold shelfB at h
  rw [Bool.and_eq_true, Bool.and_eq_true, inB_iff, decide_eq_true_eq] at h
  exact ⟨h.1, h.2.1⟩
def useB (a : Int) (row : List Int) (i j : Nat) : Bool := !decide (rd row (j : Int) > 0) || decide ((j : Int) ≤ (i : Int) ∧ (i : Int) < (j : Int) + a)
def rowOk (n : List Int) (m : List (List Int)) (i : Nat) : Bool := decide ((rd_L1 m (i : Int)).length = n.length) && (allB (rd_L1 m (i : Int)) 0 20 && !decide (wrap64 (rd_L1 m (i : Int)).sum > rd n (i : Int)))
def rowB (a : Int) (n : List Int) (m : List (List Int)) (i : Nat) : Bool := rowOk n m i && allFrom (useB a (rd_L1 m (i : Int)) i) n.length 0
theorem rowOk_length {n : List Int} {m : List (List Int)} {i : Nat} (h : rowOk n m i = true) : (rd_L1 m (i : Int)).length = n.length := by
  unfold rowOk at h
  rw [Bool.and_eq_true, decide_eq_true_eq] at h
  exact h.1
theorem rowB_length {a : Int} {n : List Int} {m : List (List Int)} {i : Nat} (h : rowB a n m i = true) : (rd_L1 m (i : Int)).length = n.length := by
  unfold rowB at h
  rw [Bool.and_eq_true] at h
  exact rowOk_length h.1
def colFrom (m : List (List Int)) (j : Nat) : Nat → Nat → Int
  | 0, _ => 0
  | d + 1, i => rd (rd_L1 m (i : Int)) (j : Int) + colFrom m j d (i + 1)
def colV (m : List (List Int)) (j : Nat) : Int := wrap64 (colFrom m j m.length 0)
def colsB (s : List Int) (m : List (List Int)) (n : Nat) : Bool := allFrom (fun j => !decide (colV m j > rd s (j : Int))) n 0
def issueB (a : Int) (s n : List Int) (m : List (List Int)) : Bool := allFrom (rowB a n m) (min m.length n.length) 0 && (decide (m.length = n.length) && colsB s m n.length)
theorem issueB_spec {a : Int} {s n : List Int} {m : List (List Int)} (h : issueB a s n m = true) : m.length = n.length ∧ ∀ i, i < m.length → (rd_L1 m (i : Int)).length = m.length := by
  unfold issueB at h
  rw [Bool.and_eq_true, Bool.and_eq_true, decide_eq_true_eq, allFrom_iff] at h
  refine ⟨h.2.1, fun i hi => ?_⟩
  rw [rowB_length (h.1 i (by omega) (by omega)), h.2.1]
def lostV (n : List Int) (m : List (List Int)) : List Int := mapFrom (fun i => wrap64 (rd n (i : Int) - wrap64 (rd_L1 m (i : Int)).sum)) m.length 0
def wastedV (s : List Int) (m : List (List Int)) : List Int := mapFrom (fun j => wrap64 (rd s (j : Int) - colV m j)) m.length 0
def bothB (a : Int) (s n : List Int) (c d : Int) (m : List (List Int)) : Bool := shelfB a s n c d && issueB a s n m
theorem bothB_spec {a : Int} {s n : List Int} {c d : Int} {m : List (List Int)} (h : bothB a s n c d m = true) : s.length = m.length ∧ n.length = m.length ∧ m.length ≤ 8 ∧ ∀ i, i < m.length → (rd_L1 m (i : Int)).length = m.length := by
  unfold bothB at h
  rw [Bool.and_eq_true] at h
  have h1 := shelfB_spec h.1
  have h2 := issueB_spec h.2
  exact ⟨by omega, by omega, by omega, h2.2⟩
def shelfCostV (a : Int) (s n : List Int) (c d : Int) (m : List (List Int)) : Int × Bool := if bothB a s n c d m = true then (wrap64 (wrap64 (d * wrap64 (lostV n m).sum) + wrap64 (c * wrap64 (wastedV s m).sum)), true) else (0, false)
def lostNeedsV (a : Int) (s n : List Int) (c e : Int) (m : List (List Int)) : List Int × Bool := if bothB a s n c e m = true then (lostV n m, true) else ([], false)
def wastedUnitsV (a : Int) (s n : List Int) (c e : Int) (m : List (List Int)) : List Int × Bool := if bothB a s n c e m = true then (wastedV s m, true) else ([], false)
theorem lostNeedsV_length {a : Int} {s n : List Int} {c e : Int} {m : List (List Int)} : (lostNeedsV a s n c e m).1.length ≤ 8 := by
  unfold lostNeedsV
  by_cases h : bothB a s n c e m = true
  · rw [if_pos h]
    obtain ⟨h1, h2, h3, h4⟩ := bothB_spec h
    simp only [lostV, mapFrom_length]
    omega
  · rw [if_neg h]
    simp
theorem wastedUnitsV_length {a : Int} {s n : List Int} {c e : Int} {m : List (List Int)} : (wastedUnitsV a s n c e m).1.length ≤ 8 := by
  unfold wastedUnitsV
  by_cases h : bothB a s n c e m = true
  · rw [if_pos h]
    obtain ⟨h1, h2, h3, h4⟩ := bothB_spec h
    simp only [wastedV, mapFrom_length]
    omega
  · rw [if_neg h]
    simp

def szFrom (m : List (List Int)) : Nat → Nat → Int → Int
  | 0, _, t => t
  | d + 1, i, t => if t - ((rd_L1 m (i : Int)).length : Int) < 0 then -1 else szFrom m d (i + 1) (t - ((rd_L1 m (i : Int)).length : Int))
theorem szFrom_spec (m : List (List Int)) (d : Nat) : ∀ (i : Nat) (t : Int), 0 ≤ t → ¬ szFrom m d i t < 0 → ∀ j, i ≤ j → j < i + d → ((rd_L1 m (j : Int)).length : Int) ≤ t := by
  induction d with
  | zero => intro i t _ _ j h1 h2; omega
  | succ d ih =>
    intro i t ht h j h1 h2
    rw [szFrom] at h
    by_cases hc : t - ((rd_L1 m (i : Int)).length : Int) < 0
    · rw [if_pos hc] at h; omega
    · rw [if_neg hc] at h
      by_cases he : j = i
      · subst he; omega
      · have := ih (i + 1) _ (by omega) h j (by omega) (by omega)
        omega
theorem ev_laws_szIntSS_l0 (m : List (List Int)) (hm : m.length ≤ 9223372036854775807) (hrow : ∀ i, i < m.length → (rd_L1 m (i : Int)).length ≤ 9223372036854775807) (d : Nat) : ∀ (i : Nat) (t : Int), i + d = m.length → 0 ≤ t → t ≤ 1048576 → Ev (fun k => laws_szIntSS.l0 k m t (i : Int)) (szFrom m d i t) := by
  induction d with
  | zero =>
    intro i t hi h0 h1
    refine ev_succ ?_
    have h2 : ¬ (i : Int) < (m.length : Int) := by omega
    simp only [laws_szIntSS.l0, h2, ↓reduceIte, szFrom]
    exact Ev.now _
  | succ d ih =>
    intro i t hi h0 h1
    refine ev_succ ?_
    have hi' : i < m.length := by omega
    have h2 : (i : Int) < (m.length : Int) := by omega
    have h3 : (0 : Int) ≤ (i : Int) := by omega
    simp only [laws_szIntSS.l0, h2, h3, ↓reduceIte, laws_szIntS_f _ t (hrow i hi') h0 h1, Option.bind_some, szFrom, w64_nat hi' hm]
    by_cases hc : t - ((rd_L1 m (i : Int)).length : Int) < 0
    · simp only [hc, ↓reduceIte, show ((-1 : Int) < 0) = True from by simp]
      exact Ev.now _
    · simp only [hc, ↓reduceIte]
      exact ih (i + 1) _ (by omega) (by omega) (by omega)
def szV (m : List (List Int)) (t : Int) : Int := if t - (m.length : Int) < 0 then -1 else szFrom m m.length 0 (t - (m.length : Int))
theorem ev_laws_szIntSS (m : List (List Int)) (t : Int) (hm : m.length ≤ 9223372036854775807) (hrow : ∀ i, i < m.length → (rd_L1 m (i : Int)).length ≤ 9223372036854775807) (h0 : 0 ≤ t) (h1 : t ≤ 1048576) : Ev (fun k => laws_szIntSS.f k m t) (szV m t) := by
  unfold laws_szIntSS.f szV
  rw [w64 (by omega) (by omega)]
  refine ev_ite (fun h => ?_) (fun h => ?_)
  · rw [if_pos h]; exact Ev.now _
  · rw [if_neg h]; exact ev_laws_szIntSS_l0 m hm hrow m.length 0 _ (by omega) (by omega) (by omega)
theorem szV_spec {m : List (List Int)} {t : Int} (h0 : 0 ≤ t) (h1 : t ≤ 1048576) (h : ¬ szV m t < 0) : m.length ≤ 1048576 ∧ ∀ i, i < m.length → (rd_L1 m (i : Int)).length ≤ 1048576 := by
  unfold szV at h
  by_cases hc : t - (m.length : Int) < 0
  · rw [if_pos hc] at h; omega
  · rw [if_neg hc] at h
    refine ⟨by omega, fun i hi => ?_⟩
    have := szFrom_spec m m.length 0 _ (by omega) h i (by omega) (by omega)
    omega

theorem ev_laws_toIntS_l0 (l : List Int) (hl : l.length ≤ 9223372036854775807) (d : Nat) : ∀ (i : Nat) (o : List Int), i + d = l.length → o.length = l.length → Ev (fun k => laws_toIntS.l0 k l o (i : Int)) (o.take i ++ l.drop i) := by
  induction d with
  | zero =>
    intro i o hi ho
    refine ev_succ ?_
    have h1 : ¬ (i : Int) < (l.length : Int) := by omega
    simp only [laws_toIntS.l0, h1, ↓reduceIte]
    rw [List.drop_eq_nil_of_le (by omega), List.take_of_length_le (by omega), List.append_nil]
    exact Ev.now _
  | succ d ih =>
    intro i o hi ho
    refine ev_succ ?_
    have h1 : (i : Int) < (l.length : Int) := by omega
    have h2 : (i : Int) < (o.length : Int) := by omega
    have h0 : (0 : Int) ≤ (i : Int) := by omega
    have hi' : i < l.length := by omega
    simp only [laws_toIntS.l0, h1, h2, h0, ↓reduceIte, rd_nat hi', w64_nat hi' hl, Int.toNat_natCast]
    refine ev_eq (ih (i + 1) _ (by omega) (by simp [ho])) ?_
    rw [drop_cons hi', List.take_add_one]
    simp [ho, hi', List.take_set_of_le (Nat.le_refl i)]
theorem ev_laws_toIntS (l : List Int) (hl : l.length ≤ 1048576) : Ev (fun k => laws_toIntS.f k l) l := by
  unfold laws_toIntS.f
  have h0 : (0 : Int) ≤ (l.length : Int) := by omega
  have h1 : ((l.length : Int) : Int).toNat ≤ 35184372088832 := by omega
  simp only [h0, h1, ↓reduceIte]
  simpa using ev_laws_toIntS_l0 l (by omega) l.length 0 (List.replicate ((l.length : Int) : Int).toNat 0) (by omega) (by simp)

theorem ev_laws_toShelf (a : Int) (s n : List Int) (c e : Int) (h : s.length ≤ 1048576 ∧ n.length ≤ 1048576) : Ev (fun k => laws_toShelf.f k a s n c e) (a, s, n, c, e) := by
  unfold laws_toShelf.f
  refine Ev.bind (ev_laws_toIntS s h.1) ?_
  refine Ev.bind (ev_laws_toIntS n h.2) ?_
  exact Ev.now _

theorem ev_laws_toIntSS_l0 (m : List (List Int)) (h : m.length ≤ 1048576 ∧ ∀ i, i < m.length → (rd_L1 m (i : Int)).length ≤ 1048576) (d : Nat) : ∀ (i : Nat) (o : List (List Int)), i + d = m.length → o.length = m.length → Ev (fun k => laws_toIntSS.l0 k m o (i : Int)) (o.take i ++ m.drop i) := by
  induction d with
  | zero =>
    intro i o hi ho
    refine ev_succ ?_
    have h1 : ¬ (i : Int) < (m.length : Int) := by omega
    simp only [laws_toIntSS.l0, h1, ↓reduceIte]
    rw [List.drop_eq_nil_of_le (by omega), List.take_of_length_le (by omega), List.append_nil]
    exact Ev.now _
  | succ d ih =>
    intro i o hi ho
    refine ev_succ ?_
    have h1 : (i : Int) < (m.length : Int) := by omega
    have h2 : (i : Int) < (o.length : Int) := by omega
    have h0 : (0 : Int) ≤ (i : Int) := by omega
    have hi' : i < m.length := by omega
    simp only [laws_toIntSS.l0, h1, h2, h0, ↓reduceIte, w64_nat hi' (by omega : m.length ≤ 9223372036854775807), Int.toNat_natCast]
    refine Ev.bind (ev_laws_toIntS _ (h.2 i hi')) ?_
    refine ev_eq (ih (i + 1) _ (by omega) (by simp [ho])) ?_
    rw [drop_cons hi', List.take_add_one, rdL_nat hi']
    simp [ho, hi', List.take_set_of_le (Nat.le_refl i)]
theorem ev_laws_toIntSS (m : List (List Int)) (h : m.length ≤ 1048576 ∧ ∀ i, i < m.length → (rd_L1 m (i : Int)).length ≤ 1048576) : Ev (fun k => laws_toIntSS.f k m) m := by
  unfold laws_toIntSS.f
  have h0 : (0 : Int) ≤ (m.length : Int) := by omega
  have h1 : ((m.length : Int) : Int).toNat ≤ 11728124029610 := by have := h.1; omega
  simp only [h0, h1, ↓reduceIte]
  simpa using ev_laws_toIntSS_l0 m h m.length 0 (List.replicate ((m.length : Int) : Int).toNat []) (by omega) (by simp)

theorem ev_laws_eqIntS_l0 (l m : List Int) (hl : l.length ≤ 9223372036854775807) (he : l.length = m.length) (d : Nat) : ∀ (i : Nat), i + d = l.length → Ev (fun k => laws_eqIntS.l0 k l m (i : Int)) (decide (l.drop i = m.drop i)) := by
  induction d with
  | zero =>
    intro i hi
    refine ev_succ ?_
    have h1 : ¬ (i : Int) < (l.length : Int) := by omega
    simp only [laws_eqIntS.l0, h1, ↓reduceIte]
    rw [List.drop_eq_nil_of_le (by omega), List.drop_eq_nil_of_le (by omega)]
    exact Ev.now _
  | succ d ih =>
    intro i hi
    refine ev_succ ?_
    have h1 : (i : Int) < (l.length : Int) := by omega
    have h2 : (i : Int) < (m.length : Int) := by omega
    have h0 : (0 : Int) ≤ (i : Int) := by omega
    have hi' : i < l.length := by omega
    have hm' : i < m.length := by omega
    simp only [laws_eqIntS.l0, h1, h2, h0, ↓reduceIte, rd_nat hi', rd_nat hm', w64_nat hi' hl]
    refine ev_ite (fun h => ?_) (fun h => ?_)
    · refine ev_eq (ih (i + 1) (by omega)) ?_
      rw [drop_cons hi', drop_cons hm', decide_eq_decide, h, List.cons.injEq]
      exact (and_iff_right rfl).symm
    · refine ev_eq (Ev.now _) ?_
      rw [drop_cons hi', drop_cons hm']
      symm
      rw [decide_eq_false_iff_not, List.cons.injEq]
      exact fun hc => h hc.1
theorem ev_laws_eqIntS (l m : List Int) (hl : l.length ≤ 9223372036854775807) : Ev (fun k => laws_eqIntS.f k l m) (decide (l = m)) := by
  unfold laws_eqIntS.f
  refine ev_ite (fun h => ?_) (fun h => ?_)
  · simpa using ev_laws_eqIntS_l0 l m hl (by omega) l.length 0 (by omega)
  · refine ev_eq (Ev.now _) ?_
    symm
    rw [decide_eq_false_iff_not]
    rintro rfl
    exact h rfl
theorem ev_laws_eqIntS_self (l : List Int) (hl : l.length ≤ 9223372036854775807) : Ev (fun k => laws_eqIntS.f k l l) true := by
  simpa using ev_laws_eqIntS l l hl

theorem ev_laws_eqShelf_self (a : Int) (s n : List Int) (c e : Int) (h : s.length ≤ 1048576 ∧ n.length ≤ 1048576) : Ev (fun k => laws_eqShelf.f k a s n c e a s n c e) true := by
  unfold laws_eqShelf.f
  simp only [↓reduceIte]
  refine Ev.bind (ev_laws_eqIntS_self s (by omega)) ?_
  simp only [↓reduceIte]
  refine Ev.bind (ev_laws_eqIntS_self n (by omega)) ?_
  simp only [↓reduceIte]
  exact Ev.now _

theorem ev_laws_eqIntSS_l0_self (m : List (List Int)) (h : m.length ≤ 1048576 ∧ ∀ i, i < m.length → (rd_L1 m (i : Int)).length ≤ 1048576) (d : Nat) : ∀ (i : Nat), i + d = m.length → Ev (fun k => laws_eqIntSS.l0 k m m (i : Int)) true := by
  induction d with
  | zero =>
    intro i hi
    refine ev_succ ?_
    have h1 : ¬ (i : Int) < (m.length : Int) := by omega
    simp only [laws_eqIntSS.l0, h1, ↓reduceIte]
    exact Ev.now _
  | succ d ih =>
    intro i hi
    refine ev_succ ?_
    have h1 : (i : Int) < (m.length : Int) := by omega
    have h0 : (0 : Int) ≤ (i : Int) := by omega
    have hi' : i < m.length := by omega
    simp only [laws_eqIntSS.l0, h1, h0, ↓reduceIte, w64_nat hi' (by omega : m.length ≤ 9223372036854775807)]
    refine Ev.bind (ev_laws_eqIntS_self _ (by have := h.2 i hi'; omega)) ?_
    simp only [↓reduceIte]
    exact ih (i + 1) (by omega)
theorem ev_laws_eqIntSS_self (m : List (List Int)) (h : m.length ≤ 1048576 ∧ ∀ i, i < m.length → (rd_L1 m (i : Int)).length ≤ 1048576) : Ev (fun k => laws_eqIntSS.f k m m) true := by
  unfold laws_eqIntSS.f
  simp only [↓reduceIte]
  exact ev_laws_eqIntSS_l0_self m h m.length 0 (by omega)

def marked (m : Int) : Nat → List Int
  | 0 => []
  | n + 1 => m :: marked (m + 1) n
theorem marked_length (m : Int) (n : Nat) : (marked m n).length = n := by
  induction n generalizing m with
  | zero => rfl
  | succ n ih => simp [marked, ih]
theorem marked_get (m : Int) (n i : Nat) (h : i < (marked m n).length) : (marked m n)[i] = m + i := by
  induction n generalizing m i with
  | zero => simp [marked] at h
  | succ n ih =>
    cases i with
    | zero => simp [marked]
    | succ i =>
      simp only [marked, List.getElem_cons_succ]
      rw [ih]
      omega
theorem ev_laws_markIntS_l0 (l0 : List Int) (hl : l0.length ≤ 4611686018427387904) (m0 : Int) (h0 : 0 ≤ m0) (h1 : m0 ≤ 1000000000) (d : Nat) : ∀ (i : Nat) (l : List Int), i + d = l.length → l.length = l0.length → Ev (fun k => laws_markIntS.l0 k l (m0 + (i : Int)) (i : Int)) (m0 + (l.length : Int), l.take i ++ marked (m0 + i) d) := by
  induction d with
  | zero =>
    intro i l hi hle
    refine ev_succ ?_
    have h1 : ¬ (i : Int) < (l.length : Int) := by omega
    simp only [laws_markIntS.l0, h1, ↓reduceIte]
    rw [List.take_of_length_le (by omega)]
    have : i = l.length := by omega
    subst this
    simp only [marked, List.append_nil]
    exact Ev.now _
  | succ d ih =>
    intro i l hi hle
    refine ev_succ ?_
    have h1' : (i : Int) < (l.length : Int) := by omega
    have h0' : (0 : Int) ≤ (i : Int) := by omega
    have hi' : i < l.length := by omega
    have e1 : wrap64 (m0 + (i : Int) + 1) = m0 + ((i + 1 : Nat) : Int) := by rw [w64 (by omega) (by omega)]; omega
    simp only [laws_markIntS.l0, h1', h0', ↓reduceIte, w64_nat hi' (by omega : l.length ≤ 9223372036854775807), Int.toNat_natCast, e1]
    refine ev_eq (ih (i + 1) (l.set i (m0 + (i : Int))) (by simp; omega) (by simp [hle])) ?_
    rw [List.length_set]
    congr 1
    rw [List.take_add_one]
    simp only [List.getElem?_set_self hi', List.take_set_of_le (Nat.le_refl i)]
    simp only [Option.toList_some, List.append_assoc, List.singleton_append, marked]
    congr 3
    omega
theorem ev_laws_markIntS (l : List Int) (m : Int) (hl : l.length ≤ 4611686018427387904) (h0 : 0 ≤ m) (h1 : m ≤ 1000000000) : Ev (fun k => laws_markIntS.f k l m) (m + (l.length : Int), marked m l.length) := by
  unfold laws_markIntS.f
  simpa using ev_laws_markIntS_l0 l hl m h0 h1 l.length 0 l (by omega) rfl

theorem ev_laws_markShelf (a : Int) (s n : List Int) (c e : Int) (x : Int) (h : s.length ≤ 1048576 ∧ n.length ≤ 1048576) (h0 : 0 ≤ x) (h1 : x ≤ 1000000) : Ev (fun k => laws_markShelf.f k a s n c e x) (x + (s.length : Int) + (n.length : Int), marked x s.length, marked (x + (s.length : Int)) n.length) := by
  unfold laws_markShelf.f
  refine Ev.bind (ev_laws_markIntS s x (by omega) h0 (by omega)) ?_
  refine Ev.bind (ev_laws_markIntS n _ (by omega) (by dsimp only; omega) (by dsimp only; omega)) ?_
  exact Ev.now _

def lens : List (List Int) → Nat
  | [] => 0
  | r :: m => r.length + lens m
def markSS : List (List Int) → Int → List (List Int)
  | [], _ => []
  | r :: m, x => marked x r.length :: markSS m (x + (r.length : Int))
theorem markSS_length (m : List (List Int)) : ∀ x, (markSS m x).length = m.length := by
  induction m with
  | nil => intro x; rfl
  | cons r m ih => intro x; simp [markSS, ih]
theorem lens_mem {m : List (List Int)} : ∀ r ∈ m, r.length ≤ lens m := by
  induction m with
  | nil => intro r h; cases h
  | cons a m ih =>
    intro r h
    rcases List.mem_cons.1 h with rfl | h
    · simp [lens]
    · have := ih r h; simp only [lens]; omega
theorem ev_laws_markIntSS_l0 (S : List (List Int)) : ∀ (P : List (List Int)) (x : Int), (P ++ S).length ≤ 4611686018427387904 → 0 ≤ x → x + (lens S : Int) ≤ 1000000000 → Ev (fun k => laws_markIntSS.l0 k (P ++ S) x (P.length : Int)) (x + (lens S : Int), P ++ markSS S x) := by
  induction S with
  | nil =>
    intro P x hP h0 h1
    refine ev_succ ?_
    have h2 : ¬ (P.length : Int) < ((P ++ ([] : List (List Int))).length : Int) := by simp
    simp only [laws_markIntSS.l0, h2, ↓reduceIte, lens, markSS]
    exact ev_eq (Ev.now _) (by simp)
  | cons r S ih =>
    intro P x hP h0 h1
    simp only [lens] at h1
    have hl : (P ++ r :: S).length = P.length + S.length + 1 := by simp; omega
    refine ev_succ ?_
    have h2 : (P.length : Int) < ((P ++ r :: S).length : Int) := by omega
    have h3 : (0 : Int) ≤ (P.length : Int) := by omega
    have e1 : (P ++ r :: S).getD P.length [] = r := by simp [List.getD_eq_getElem?_getD]
    have e2 : ∀ v, (P ++ r :: S).set P.length v = (P ++ [v]) ++ S := by intro v; simp
    have e3 : wrap64 ((P.length : Int) + 1) = (((P.length + 1 : Nat)) : Int) := w64_nat (n := (P ++ r :: S).length) (by omega) (by omega)
    simp only [laws_markIntSS.l0, h2, h3, ↓reduceIte, Int.toNat_natCast, e1, e3, e2]
    refine Ev.bind (ev_laws_markIntS r x (by omega) h0 (by omega)) ?_
    dsimp only
    refine ev_eq (show Ev (fun k => laws_markIntSS.l0 k ((P ++ [marked x r.length]) ++ S) (x + (r.length : Int)) ((P.length + 1 : Nat) : Int)) _ from ?_) rfl
    have hh := ih (P ++ [marked x r.length]) (x + (r.length : Int)) (by simp at hP ⊢; omega) (by omega) (by omega)
    rw [List.length_append, List.length_singleton] at hh
    refine ev_eq hh ?_
    simp only [lens, markSS, Prod.mk.injEq, List.append_assoc, List.singleton_append, and_true]
    omega
theorem ev_laws_markIntSS (m : List (List Int)) (x : Int) (hm : m.length ≤ 4611686018427387904) (h0 : 0 ≤ x) (h1 : x + (lens m : Int) ≤ 1000000000) : Ev (fun k => laws_markIntSS.f k m x) (x + (lens m : Int), markSS m x) := by
  unfold laws_markIntSS.f
  exact ev_laws_markIntSS_l0 m [] x hm h0 h1
theorem szFrom_lens (m : List (List Int)) (d : Nat) : ∀ (i : Nat) (t : Int), i + d = m.length → 0 ≤ t → ¬ szFrom m d i t < 0 → (lens (m.drop i) : Int) ≤ t := by
  induction d with
  | zero => intro i t hi ht _; rw [List.drop_eq_nil_of_le (by omega)]; simpa [lens] using ht
  | succ d ih =>
    intro i t hi ht h
    have hi' : i < m.length := by omega
    rw [szFrom, rdL_nat hi'] at h
    rw [drop_cons hi', lens]
    by_cases hc : t - ((m[i]).length : Int) < 0
    · rw [if_pos hc] at h; omega
    · rw [if_neg hc] at h
      have := ih (i + 1) _ (by omega) (by omega) h
      omega
theorem szV_lens {m : List (List Int)} {t : Int} (h0 : 0 ≤ t) (h1 : t ≤ 1048576) (h : ¬ szV m t < 0) : (lens m : Int) ≤ 1048576 := by
  unfold szV at h
  by_cases hc : t - (m.length : Int) < 0
  · rw [if_pos hc] at h; omega
  · rw [if_neg hc] at h
    have := szFrom_lens m m.length 0 _ (by omega) (by omega) h
    rw [List.drop_zero] at this
    omega

theorem ev_laws_heldIntS_l0 (m0 : Int) (n : Nat) (hn : n ≤ 4611686018427387904) (h0 : 0 ≤ m0) (h1 : m0 ≤ 1000000000) (d : Nat) : ∀ (i : Nat), i + d = n → Ev (fun k => laws_heldIntS.l0 k (marked m0 n) (m0 + (i : Int)) (i : Int)) (m0 + (n : Int)) := by
  induction d with
  | zero =>
    intro i hi
    refine ev_succ ?_
    have h1 : ¬ (i : Int) < ((marked m0 n).length : Int) := by rw [marked_length]; omega
    simp only [laws_heldIntS.l0, h1, ↓reduceIte]
    have : i = n := by omega
    subst this
    exact Ev.now _
  | succ d ih =>
    intro i hi
    refine ev_succ ?_
    have h1' : (i : Int) < ((marked m0 n).length : Int) := by rw [marked_length]; omega
    have h0' : (0 : Int) ≤ (i : Int) := by omega
    have hi' : i < (marked m0 n).length := by rw [marked_length]; omega
    have e1 : wrap64 (m0 + (i : Int) + 1) = m0 + ((i + 1 : Nat) : Int) := by rw [w64 (by omega) (by omega)]; omega
    have e2 : wrap64 ((i : Int) + 1) = ((i + 1 : Nat) : Int) := w64_nat (n := n) (by omega) (by omega)
    simp only [laws_heldIntS.l0, h1', h0', ↓reduceIte, rd_nat hi', marked_get, e1, e2]
    exact ih (i + 1) (by omega)
theorem ev_laws_heldIntS (m : Int) (n : Nat) (hn : n ≤ 4611686018427387904) (h0 : 0 ≤ m) (h1 : m ≤ 1000000000) : Ev (fun k => laws_heldIntS.f k (marked m n) m) (m + (n : Int)) := by
  unfold laws_heldIntS.f
  simpa using ev_laws_heldIntS_l0 m n hn h0 h1 n 0 (by omega)

theorem spec_l1In_f (a b c : Int) : spec_l1In.f a b c = some (inB a b c) := by
  unfold spec_l1In.f inB
  by_cases h : a ≥ b
  · rw [if_pos h]; congr 1; rw [decide_eq_decide]; omega
  · rw [if_neg h]; congr 1; symm; rw [decide_eq_false_iff_not]; omega

theorem ev_spec_l2Row_l0 (n b : Int) (l : List Int) (hl : l.length ≤ 9223372036854775807) (d : Nat) : ∀ i : Nat, i + d = l.length → Ev (fun k => spec_l2Row.l0 k l n b (i : Int)) (allB (l.drop i) 0 b && ((l.length : Int) == n)) := by
  induction d with
  | zero =>
    intro i hi
    refine ev_succ ?_
    have h1 : ¬ (i : Int) < (l.length : Int) := by omega
    simp only [spec_l2Row.l0, h1, ↓reduceIte]
    rw [List.drop_eq_nil_of_le (by omega)]
    exact Ev.now _
  | succ d ih =>
    intro i hi
    refine ev_succ ?_
    have h1 : (i : Int) < (l.length : Int) := by omega
    have h0 : (0 : Int) ≤ (i : Int) := by omega
    have hi' : i < l.length := by omega
    simp only [spec_l2Row.l0, h1, h0, ↓reduceIte, spec_l1In_f, Option.bind_some, rd_nat hi', w64_nat hi' hl]
    rw [drop_cons hi']
    show Ev _ ((inB l[i] 0 b && allB (l.drop (i + 1)) 0 b) && _)
    cases inB l[i] 0 b with
    | true => simpa using ih (i + 1) (by omega)
    | false => simpa using Ev.now false
theorem ev_spec_l2Row (l : List Int) (n b : Int) (hl : l.length ≤ 9223372036854775807) : Ev (fun k => spec_l2Row.f k l n b) (allB l 0 b && ((l.length : Int) == n)) := by
  unfold spec_l2Row.f
  simpa using ev_spec_l2Row_l0 n b l hl l.length 0 (by omega)

theorem spec_l5Charges_f (a b : Int) : spec_l5Charges.f a b = some (inB a 0 20 && inB b 0 20) := by
  unfold spec_l5Charges.f
  simp only [spec_l1In_f, Option.bind_some]
  cases inB a 0 20 <;> rfl

theorem ev_spec_l9Good_j0 (x : Bool) (a : Int) (s n : List Int) (c d : Int) (hs : s.length ≤ 9223372036854775807) (hn : n.length ≤ 9223372036854775807) : Ev (fun k => spec_l9Good.j0 k x a s n c d) (!x && (decide (s.length = n.length) && (allB s 0 20 && (allB n 0 20 && (inB c 0 20 && inB d 0 20))))) := by
  refine ev_succ ?_
  cases x with
  | true => simp only [spec_l9Good.j0, ↓reduceIte]; exact Ev.now _
  | false =>
    simp only [spec_l9Good.j0, Bool.false_eq_true, ↓reduceIte, spec_l5Charges_f, Option.bind_some]
    refine Ev.bind (ev_spec_l2Row n _ 20 hn) ?_
    refine ev_ite (fun h => ?_) (fun h => ?_)
    · refine Ev.bind (ev_spec_l2Row s _ 20 hs) ?_
      have h1 : allB n 0 20 = true := by simpa using h
      refine ev_ite (fun h2 => ?_) (fun h2 => ?_)
      · refine ev_eq (Ev.now _) ?_
        rw [Bool.and_eq_true, beq_iff_eq] at h2
        have h3 : s.length = n.length := by omega
        simp [h1, h2.1, h3]
      · refine ev_eq (Ev.now _) ?_
        symm
        rw [← Bool.not_eq_true]
        intro hc
        refine h2 ?_
        simp only [Bool.not_false, Bool.true_and, Bool.and_eq_true, decide_eq_true_eq] at hc
        rw [Bool.and_eq_true, beq_iff_eq]
        exact ⟨hc.2.1, by omega⟩
    · refine ev_eq (Ev.now _) ?_
      have h1 : allB n 0 20 = false := by simpa using h
      simp [h1]
theorem ev_spec_l9Good (a : Int) (s n : List Int) (c d : Int) (hs : s.length ≤ 9223372036854775807) (hn : n.length ≤ 9223372036854775807) : Ev (fun k => spec_l9Good.f k a s n c d) (shelfB a s n c d) := by
  unfold spec_l9Good.f shelfB
  simp only [spec_l1In_f, Option.bind_some]
  cases inB a 1 8 with
  | false => exact ev_eq (ev_spec_l9Good_j0 true a s n c d hs hn) rfl
  | true =>
    refine ev_eq (ev_spec_l9Good_j0 (decide ((n.length : Int) > 8)) a s n c d hs hn) ?_
    by_cases h : n.length ≤ 8
    · have h1 : ¬ (n.length : Int) > 8 := by omega
      simp [h, h1]
    · have h1 : (n.length : Int) > 8 := by omega
      simp [h, h1]

theorem ev_spec_l2Sum_l0 (l : List Int) (hl : l.length ≤ 9223372036854775807) (d : Nat) : ∀ (i : Nat) (s : Int), i + d = l.length → wrap64 s = s → Ev (fun k => spec_l2Sum.l0 k l s (i : Int)) (wrap64 (s + (l.drop i).sum)) := by
  induction d with
  | zero =>
    intro i s hi hs
    refine ev_succ ?_
    have h1 : ¬ (i : Int) < (l.length : Int) := by omega
    simp only [spec_l2Sum.l0, h1, ↓reduceIte]
    rw [List.drop_eq_nil_of_le (by omega)]
    simp only [List.sum_nil, Int.add_zero, hs]
    exact Ev.now _
  | succ d ih =>
    intro i s hi hs
    refine ev_succ ?_
    have h1 : (i : Int) < (l.length : Int) := by omega
    have h0 : (0 : Int) ≤ (i : Int) := by omega
    have hi' : i < l.length := by omega
    simp only [spec_l2Sum.l0, h1, h0, ↓reduceIte, rd_nat hi', w64_nat hi' hl]
    refine ev_eq (ih (i + 1) _ (by omega) (w64_idem _)) ?_
    rw [drop_cons hi', List.sum_cons, w64_add_l, Int.add_assoc]
theorem ev_spec_l2Sum (l : List Int) (hl : l.length ≤ 9223372036854775807) : Ev (fun k => spec_l2Sum.f k l) (wrap64 l.sum) := by
  unfold spec_l2Sum.f
  simpa using ev_spec_l2Sum_l0 l hl l.length 0 0 (by omega) w64_zero

theorem ev_spec_l9Column_l0 (m : List (List Int)) (j : Nat) (hm : m.length ≤ 8) (hr : ∀ i, i < m.length → j < (rd_L1 m (i : Int)).length) (d : Nat) : ∀ (i : Nat) (s : Int), i + d = m.length → wrap64 s = s → Ev (fun k => spec_l9Column.l0 k m (j : Int) s (i : Int)) (wrap64 (s + colFrom m j d i)) := by
  induction d with
  | zero =>
    intro i s hi hs
    refine ev_succ ?_
    have h1 : ¬ (i : Int) < (m.length : Int) := by omega
    simp only [spec_l9Column.l0, h1, ↓reduceIte, colFrom, Int.add_zero, hs]
    exact Ev.now _
  | succ d ih =>
    intro i s hi hs
    refine ev_succ ?_
    have hi' : i < m.length := by omega
    have h1 : (i : Int) < (m.length : Int) := by omega
    have h0 : (0 : Int) ≤ (i : Int) := by omega
    have h2 : (0 : Int) ≤ (j : Int) := by omega
    have h3 : (j : Int) < ((rd_L1 m (i : Int)).length : Int) := by have := hr i hi'; omega
    simp only [spec_l9Column.l0, h1, h0, h2, h3, ↓reduceIte, w64_nat hi' (by omega : m.length ≤ 9223372036854775807)]
    refine ev_eq (ih (i + 1) _ (by omega) (w64_idem _)) ?_
    rw [w64_add_l, Int.add_assoc, colFrom]
theorem ev_spec_l9Column (m : List (List Int)) (j : Nat) (hm : m.length ≤ 8) (hr : ∀ i, i < m.length → j < (rd_L1 m (i : Int)).length) : Ev (fun k => spec_l9Column.f k m (j : Int)) (colV m j) := by
  unfold spec_l9Column.f colV
  refine ev_eq (ev_spec_l9Column_l0 m j hm hr m.length 0 0 (by omega) w64_zero) ?_
  rw [Int.zero_add]

theorem spec_l9Usable_f (a : Int) (s n : List Int) (c e : Int) (i j : Nat) (ha : 1 ≤ a ∧ a ≤ 8) (hj : j ≤ 8) : spec_l9Usable.f a s n c e (j : Int) (i : Int) = some (decide ((j : Int) ≤ (i : Int) ∧ (i : Int) < (j : Int) + a)) := by
  unfold spec_l9Usable.f
  rw [w64 (by omega) (by omega)]
  by_cases h : (j : Int) ≤ (i : Int)
  · rw [if_pos h]; simp [h]
  · rw [if_neg h]; simp [h]
theorem ev_spec_l9Issue_l2 (a : Int) (s n : List Int) (c e : Int) (m : List (List Int)) (hm : m.length ≤ 8) (hl : s.length = n.length) (hr : ∀ i, i < m.length → (rd_L1 m (i : Int)).length = n.length) (hn : n.length ≤ 8) (d : Nat) : ∀ j : Nat, j + d = n.length → Ev (fun k => spec_l9Issue.l2 k m (n.length : Int) (j : Int) a s n c e) (allFrom (fun j => !decide (colV m j > rd s (j : Int))) d j) := by
  induction d with
  | zero =>
    intro j hj
    refine ev_succ ?_
    have h1 : ¬ (j : Int) < (n.length : Int) := by omega
    simp only [spec_l9Issue.l2, h1, ↓reduceIte]
    exact Ev.now _
  | succ d ih =>
    intro j hj
    refine ev_succ ?_
    have hj' : j < n.length := by omega
    have h1 : (j : Int) < (n.length : Int) := by omega
    have h0 : (0 : Int) ≤ (j : Int) := by omega
    have h2 : (j : Int) < (s.length : Int) := by omega
    simp only [spec_l9Issue.l2, h1, h0, h2, ↓reduceIte, w64_nat hj' (by omega : n.length ≤ 9223372036854775807)]
    refine Ev.bind (ev_spec_l9Column m j hm (fun i hi => by have := hr i hi; omega)) ?_
    rw [allFrom]
    refine ev_ite (fun h => ?_) (fun h => ?_)
    · refine ev_eq (Ev.now _) ?_
      simp [h]
    · refine ev_eq (ih (j + 1) (by omega)) ?_
      simp [h]
theorem ev_spec_l9Issue_rows (a : Int) (s n : List Int) (c e : Int) (m : List (List Int)) (ha : 1 ≤ a ∧ a ≤ 8) (hl : s.length = n.length) (hn : n.length ≤ 8) (hrow : ∀ i, i < m.length → (rd_L1 m (i : Int)).length ≤ 9223372036854775807) (d : Nat) : ∀ i : Nat, i + d = min m.length n.length → (∀ t, t < i → (rd_L1 m (t : Int)).length = n.length) → Ev (fun k => spec_l9Issue.l0 k m (n.length : Int) (i : Int) a s n c e) (allFrom (rowB a n m) d i && (decide (m.length = n.length) && colsB s m n.length)) := by
  induction d with
  | zero =>
    intro i hi hpre
    have he : Ev (fun k => spec_l9Issue.j1 k m (n.length : Int) (i : Int) false a s n c e) (allFrom (rowB a n m) 0 i && (decide (m.length = n.length) && colsB s m n.length)) := by
      refine ev_succ ?_
      simp only [spec_l9Issue.j1, Bool.false_eq_true, ↓reduceIte, allFrom, Bool.true_and]
      refine ev_ite (fun h => ?_) (fun h => ?_)
      · have h' : m.length = n.length := by omega
        refine ev_eq (ev_spec_l9Issue_l2 a s n c e m (by omega) hl (fun t ht => hpre t (by omega)) hn n.length 0 (by omega)) ?_
        simp [h', colsB]
      · have h' : ¬ m.length = n.length := by omega
        refine ev_eq (Ev.now _) ?_
        simp [h']
    refine ev_succ ?_
    simp only [spec_l9Issue.l0]
    refine ev_ite (fun h => ?_) (fun h => ?_)
    · have h1 : ¬ (i : Int) < (n.length : Int) := by omega
      simp only [h1, decide_false]
      exact he
    · exact he
  | succ d ih =>
    intro i hi hpre
    have hi' : i < m.length := by omega
    have hin : i < n.length := by omega
    have h1 : (i : Int) < (m.length : Int) := by omega
    have h2 : (i : Int) < (n.length : Int) := by omega
    have h0 : (0 : Int) ≤ (i : Int) := by omega
    have hl1 : ∀ dd : Nat, ∀ j : Nat, rowOk n m i = true → j + dd = n.length → Ev (fun k => spec_l9Issue.l1 k m (n.length : Int) (i : Int) (j : Int) a s n c e) (allFrom (useB a (rd_L1 m (i : Int)) i) dd j && (allFrom (rowB a n m) d (i + 1) && (decide (m.length = n.length) && colsB s m n.length))) := by
      intro dd
      induction dd with
      | zero =>
        intro j hok hj
        refine ev_succ ?_
        have h3 : ¬ (j : Int) < (n.length : Int) := by omega
        simp only [spec_l9Issue.l1, h3, ↓reduceIte, w64_nat hin (by omega : n.length ≤ 9223372036854775807), allFrom, Bool.true_and]
        refine ih (i + 1) (by omega) (fun t ht => ?_)
        by_cases htt : t = i
        · subst htt; exact rowOk_length hok
        · exact hpre t (by omega)
      | succ dd ihd =>
        intro j hok hj
        refine ev_succ ?_
        have hrl := rowOk_length hok
        have hj' : j < n.length := by omega
        have h3 : (j : Int) < (n.length : Int) := by omega
        have h4 : (0 : Int) ≤ (j : Int) := by omega
        have h5 : (j : Int) < ((rd_L1 m (i : Int)).length : Int) := by omega
        simp only [spec_l9Issue.l1, h0, h1, h3, h4, h5, ↓reduceIte, w64_nat hj' (by omega : n.length ≤ 9223372036854775807), spec_l9Usable_f a s n c e i j ha (by omega), Option.bind_some]
        rw [allFrom, useB]
        have hih := ihd (j + 1) hok (by omega)
        refine ev_ite (fun h => ?_) (fun h => ?_)
        · refine ev_ite (fun h6 => ?_) (fun h6 => ?_)
          · refine ev_eq hih ?_
            simp only [h6, Bool.or_true, Bool.true_and]
          · refine ev_eq (Ev.now _) ?_
            simp only [h, h6, decide_true, Bool.not_true, Bool.or_self, Bool.false_and]
        · refine ev_eq hih ?_
          simp only [h, decide_false, Bool.not_false, Bool.true_or, Bool.true_and]
    have hj2 : ∀ x : Bool, (x = !rowOk n m i) → Ev (fun k => spec_l9Issue.j2 k m (n.length : Int) (i : Int) x a s n c e) (allFrom (rowB a n m) (d + 1) i && (decide (m.length = n.length) && colsB s m n.length)) := by
      intro x hx
      refine ev_succ ?_
      rw [allFrom, rowB]
      cases hok : rowOk n m i with
      | false =>
        rw [hok] at hx
        subst hx
        simp only [spec_l9Issue.j2, Bool.not_false, ↓reduceIte, Bool.false_and]
        exact Ev.now _
      | true =>
        rw [hok] at hx
        subst hx
        simp only [spec_l9Issue.j2, Bool.not_true, Bool.false_eq_true, ↓reduceIte, Bool.true_and]
        refine ev_eq (hl1 n.length 0 hok (by omega)) ?_
        simp only [Bool.and_assoc]
    refine ev_succ ?_
    simp only [spec_l9Issue.l0, h1, h2, ↓reduceIte, decide_true]
    refine ev_succ ?_
    simp only [spec_l9Issue.j1, h0, h1, h2, ↓reduceIte]
    refine Ev.bind (ev_spec_l2Row _ _ 20 (hrow i hi')) ?_
    refine ev_ite (fun h => ?_) (fun h => ?_)
    · refine Ev.bind (ev_spec_l2Sum _ (hrow i hi')) ?_
      refine hj2 _ ?_
      rw [Bool.and_eq_true, beq_iff_eq] at h
      have h3 : (rd_L1 m (i : Int)).length = n.length := by omega
      simp only [rowOk, h3, h.1, decide_true, Bool.true_and, Bool.not_not]
    · refine hj2 _ ?_
      symm
      rw [Bool.not_eq_true']
      rw [← Bool.not_eq_true]
      intro hc
      refine h ?_
      simp only [rowOk, Bool.and_eq_true, decide_eq_true_eq] at hc
      rw [Bool.and_eq_true, beq_iff_eq]
      exact ⟨hc.2.1, by omega⟩
theorem ev_spec_l9Issue (a : Int) (s n : List Int) (c e : Int) (m : List (List Int)) (hv : shelfB a s n c e = true) (hrow : ∀ i, i < m.length → (rd_L1 m (i : Int)).length ≤ 9223372036854775807) : Ev (fun k => spec_l9Issue.f k a s n c e m) (issueB a s n m) := by
  have h := shelfB_spec hv
  unfold spec_l9Issue.f issueB
  exact ev_spec_l9Issue_rows a s n c e m h.1 h.2.2 h.2.1 hrow _ 0 (by omega) (fun t ht => absurd ht (by omega))

theorem ev_spec_l9Two (a : Int) (s n : List Int) (c e : Int) (m : List (List Int)) (hs : s.length ≤ 9223372036854775807) (hn : n.length ≤ 9223372036854775807) (hrow : ∀ i, i < m.length → (rd_L1 m (i : Int)).length ≤ 9223372036854775807) : Ev (fun k => spec_l9Two.f k a s n c e m) (bothB a s n c e m) := by
  unfold spec_l9Two.f bothB
  refine Ev.bind (ev_spec_l9Good a s n c e hs hn) ?_
  cases hv : shelfB a s n c e with
  | false => simp only [Bool.false_eq_true, ↓reduceIte, Bool.false_and]; exact Ev.now _
  | true =>
    simp only [↓reduceIte, Bool.true_and]
    exact Ev.bind (ev_spec_l9Issue a s n c e m hv hrow) (Ev.now _)

def stockAt (s : List Int) (m : List (List Int)) (t g : Nat) : Int := if t < g then 0 else wrap64 (rd s ((t - g : Nat) : Int) - wrap64 (colFrom m (t - g) (t + 1) 0))
def stockAgeV (a : Int) (s n : List Int) (c e : Int) (m : List (List Int)) (t : Int) : List Int × Bool := if (bothB a s n c e m && inB t 0 ((m.length : Int) - 1)) = true then (mapFrom (stockAt s m t.toNat) (a - 1).toNat 0, true) else ([], false)
theorem stockAgeV_length {a : Int} {s n : List Int} {c e : Int} {m : List (List Int)} {t : Int} : (stockAgeV a s n c e m t).1.length ≤ 8 := by
  unfold stockAgeV
  by_cases h : (bothB a s n c e m && inB t 0 ((m.length : Int) - 1)) = true
  · rw [if_pos h]
    rw [Bool.and_eq_true] at h
    have h1 := h.1
    unfold bothB at h1
    rw [Bool.and_eq_true] at h1
    have := shelfB_spec h1.1
    simp only [mapFrom_length]
    omega
  · rw [if_neg h]
    simp

def addFrom (row : List Int) : Nat → Nat → List Int → List Int
  | 0, _, o => o
  | d + 1, j, o => addFrom row d (j + 1) (o.set j (wrap64 (rd o (j : Int) + rd row (j : Int))))
theorem addFrom_length (row : List Int) (d : Nat) : ∀ (j : Nat) (o : List Int), (addFrom row d j o).length = o.length := by
  induction d with
  | zero => intro j o; rfl
  | succ d ih => intro j o; rw [addFrom, ih, List.length_set]
theorem rd_set_same {o : List Int} {j : Nat} {v : Int} (h : j < o.length) : rd (o.set j v) (j : Int) = v := by
  rw [rd_nat (by simpa using h)]
  simp
theorem rd_set_ne {o : List Int} {j t : Nat} {v : Int} (h : j ≠ t) (ht : t < o.length) : rd (o.set j v) (t : Int) = rd o (t : Int) := by
  rw [rd_nat (by simpa using ht), rd_nat ht, List.getElem_set_ne h]
theorem addFrom_rd (row : List Int) (t : Nat) (d : Nat) : ∀ (j : Nat) (o : List Int), j + d ≤ o.length → t < o.length → rd (addFrom row d j o) (t : Int) = if j ≤ t ∧ t < j + d then wrap64 (rd o (t : Int) + rd row (t : Int)) else rd o (t : Int) := by
  induction d with
  | zero =>
    intro j o hj ht
    rw [if_neg (by omega)]
    rfl
  | succ d ih =>
    intro j o hj ht
    rw [addFrom, ih (j + 1) _ (by rw [List.length_set]; omega) (by rw [List.length_set]; omega)]
    by_cases he : j = t
    · subst he
      rw [if_neg (by omega), if_pos (by omega), rd_set_same ht]
    · rw [rd_set_ne he ht]
      by_cases h1 : j ≤ t ∧ t < j + (d + 1)
      · rw [if_pos h1, if_pos (by omega)]
      · rw [if_neg h1, if_neg (by omega)]
def usedFrom (m : List (List Int)) : Nat → Nat → List Int → List Int
  | 0, _, o => o
  | d + 1, i, o => usedFrom m d (i + 1) (addFrom (rd_L1 m (i : Int)) o.length 0 o)
theorem usedFrom_length (m : List (List Int)) (d : Nat) : ∀ (i : Nat) (o : List Int), (usedFrom m d i o).length = o.length := by
  induction d with
  | zero => intro i o; rfl
  | succ d ih => intro i o; rw [usedFrom, ih, addFrom_length]
theorem usedFrom_rd (m : List (List Int)) (t : Nat) (d : Nat) : ∀ (i : Nat) (o : List Int), t < o.length → wrap64 (rd o (t : Int)) = rd o (t : Int) → rd (usedFrom m d i o) (t : Int) = wrap64 (rd o (t : Int) + colFrom m t d i) := by
  induction d with
  | zero =>
    intro i o ht hw
    rw [colFrom, Int.add_zero, hw]
    rfl
  | succ d ih =>
    intro i o ht hw
    have e : rd (addFrom (rd_L1 m (i : Int)) o.length 0 o) (t : Int) = wrap64 (rd o (t : Int) + rd (rd_L1 m (i : Int)) (t : Int)) := by
      rw [addFrom_rd _ t _ 0 o (by omega) ht, if_pos (by omega)]
    rw [usedFrom, ih (i + 1) _ (by rw [addFrom_length]; exact ht) (by rw [e, w64_idem]), e, colFrom, w64_add_l, Int.add_assoc]
def usedV (m : List (List Int)) : List Int := usedFrom m m.length 0 (List.replicate m.length 0)
theorem usedV_length (m : List (List Int)) : (usedV m).length = m.length := by rw [usedV, usedFrom_length, List.length_replicate]
theorem usedV_rd (m : List (List Int)) {t : Nat} (h : t < m.length) : rd (usedV m) (t : Int) = colV m t := by
  have e : rd (List.replicate m.length 0) (t : Int) = 0 := by
    rw [rd_nat (by simpa using h)]
    simp
  rw [usedV, usedFrom_rd m t _ 0 _ (by simpa using h) (by rw [e]; exact w64_zero), e, Int.zero_add, colV]
theorem rdL_take {m : List (List Int)} {n i : Nat} (h : i < n) : rd_L1 (m.take n) (i : Int) = rd_L1 m (i : Int) := by
  unfold rd_L1
  simp [List.getD_eq_getElem?_getD, List.getElem?_take, h]
theorem colFrom_take (m : List (List Int)) (j n : Nat) (d : Nat) : ∀ i, i + d ≤ n → colFrom (m.take n) j d i = colFrom m j d i := by
  induction d with
  | zero => intro i _; rfl
  | succ d ih => intro i h; rw [colFrom, colFrom, rdL_take (by omega), ih (i + 1) (by omega)]

theorem ev_spec_StockByAge_l0 (a : Int) (s n : List Int) (c e : Int) (m : List (List Int)) (ha : 1 ≤ a ∧ a ≤ 8) (hm : m.length ≤ 8) (hs : s.length = m.length) (hrow : ∀ i, i < m.length → (rd_L1 m (i : Int)).length = m.length) (t : Nat) (ht : t < m.length) (d : Nat) : ∀ (i : Nat) (o : List Int), i + d = (a - 1).toNat → o.length = i → Ev (fun k => spec_StockByAge.l0 k m (t : Int) o (i : Int) a s n c e) (o ++ mapFrom (stockAt s m t) d i, true) := by
  have ea : wrap64 (a - 1) = a - 1 := w64 (by omega) (by omega)
  induction d with
  | zero =>
    intro i o hi ho
    refine ev_succ ?_
    have h1 : ¬ (i : Int) < a - 1 := by omega
    simp only [spec_StockByAge.l0, ea, h1, ↓reduceIte, mapFrom, List.append_nil]
    exact Ev.now _
  | succ d ih =>
    intro i o hi ho
    refine ev_succ ?_
    have h1 : (i : Int) < a - 1 := by omega
    have h8 : i < 8 := by omega
    have h3 : o.length < 17592186044416 := by omega
    have ht8 : t < 8 := by omega
    have e3 : wrap64 ((i : Int) + 1) = ((i + 1 : Nat) : Int) := w64_nat h8 (by decide)
    have e2 : wrap64 ((t : Int) + 1) = ((t + 1 : Nat) : Int) := w64_nat ht8 (by decide)
    have e1 : wrap64 ((t : Int) - (i : Int)) = (t : Int) - (i : Int) := by
      clear ih e3 hi ho ha
      exact w64 (by omega) (by omega)
    simp only [spec_StockByAge.l0, ea, h1, e1, e2, e3, h3, ↓reduceIte]
    clear e1 e2 e3
    by_cases hc : t < i
    · have h4 : (t : Int) - (i : Int) < 0 := by omega
      simp only [h4, ↓reduceIte]
      refine ev_eq (ih (i + 1) _ (by omega) (by simp [ho])) ?_
      rw [mapFrom, List.append_assoc, stockAt, if_pos hc]
      rfl
    · have h4 : ¬ (t : Int) - (i : Int) < 0 := by omega
      have h5 : (0 : Int) ≤ (t : Int) - (i : Int) := by omega
      have h6 : (t : Int) - (i : Int) < (s.length : Int) := by omega
      have h7 : (0 : Int) ≤ ((t + 1 : Nat) : Int) := by omega
      have h8 : ((t + 1 : Nat) : Int) ≤ (m.length : Int) := by omega
      have e4 : (t : Int) - (i : Int) = ((t - i : Nat) : Int) := by omega
      simp only [h4, h5, h6, h7, h8, ↓reduceIte, Int.toNat_natCast]
      rw [e4]
      have hl : (m.take (t + 1)).length = t + 1 := by rw [List.length_take]; omega
      refine Ev.bind (ev_spec_l9Column (m.take (t + 1)) (t - i) (by omega) (fun q hq => by rw [rdL_take (by omega), hrow q (by omega)]; omega)) ?_
      refine ev_eq (ih (i + 1) _ (by omega) (by simp [ho])) ?_
      rw [mapFrom, List.append_assoc, stockAt, if_neg hc, colV, hl, colFrom_take m (t - i) (t + 1) (t + 1) 0 (by omega)]
      rfl
theorem ev_spec_StockByAge_j0_no (a : Int) (s n : List Int) (c e : Int) (m : List (List Int)) (t : Int) : Ev (fun k => spec_StockByAge.j0 k m t [] true a s n c e) ([], false) := by
  refine ev_succ ?_
  simp only [spec_StockByAge.j0, ↓reduceIte]
  exact Ev.now _
theorem ev_spec_StockByAge (a : Int) (s n : List Int) (c e : Int) (m : List (List Int)) (t : Int) (hs : s.length ≤ 9223372036854775807) (hn : n.length ≤ 9223372036854775807) (hrow : ∀ i, i < m.length → (rd_L1 m (i : Int)).length ≤ 9223372036854775807) : Ev (fun k => spec_StockByAge.f k a s n c e m t) (stockAgeV a s n c e m t) := by
  unfold spec_StockByAge.f stockAgeV
  simp only [Option.bind_some, spec_l1In_f]
  refine Ev.bind (ev_spec_l9Two a s n c e m hs hn hrow) ?_
  refine ev_ite (fun h => ?_) (fun h => ?_)
  · obtain ⟨h1, h2, h3, h4⟩ := bothB_spec h
    have ha : 1 ≤ a ∧ a ≤ 8 := by
      have h5 := h
      unfold bothB at h5
      rw [Bool.and_eq_true] at h5
      exact (shelfB_spec h5.1).1
    rw [w64 (x := (m.length : Int) - 1) (by omega) (by omega), h, Bool.true_and]
    cases hi : inB t 0 ((m.length : Int) - 1) with
    | true =>
      obtain ⟨t0, t1⟩ := inB_iff.1 hi
      rw [if_pos rfl]
      refine ev_succ ?_
      simp only [spec_StockByAge.j0, Bool.not_true, Bool.false_eq_true, ↓reduceIte]
      have et : t = ((t.toNat : Nat) : Int) := by omega
      generalize t.toNat = q at et
      subst et
      exact ev_spec_StockByAge_l0 a s n c e m ha h3 h1 h4 q (by omega) (a - 1).toNat 0 [] (by omega) rfl
    | false => exact ev_spec_StockByAge_j0_no _ _ _ _ _ _ _
  · rw [Bool.not_eq_true] at h
    rw [h, Bool.false_and]
    exact ev_spec_StockByAge_j0_no _ _ _ _ _ _ _

theorem impl_within_f (a b c : Int) : impl_within.f a b c = some (inB a b c) := by
  unfold impl_within.f inB
  by_cases h : a ≥ b
  · rw [if_pos h]; congr 1; rw [decide_eq_decide]; omega
  · rw [if_neg h]; congr 1; symm; rw [decide_eq_false_iff_not]; omega

theorem impl_isLife_f (a : Int) : impl_isLife.f a = some (inB a 1 8) := by
  unfold impl_isLife.f
  simp only [impl_within_f, Option.bind_some]

theorem ev_impl_allWithin_l0 (a b : Int) (l : List Int) (hl : l.length ≤ 9223372036854775807) (d : Nat) : ∀ i : Nat, i + d = l.length → Ev (fun k => impl_allWithin.l0 k a b l (l.length : Int) (i : Int)) (allB (l.drop i) a b) := by
  induction d with
  | zero =>
    intro i hi
    refine ev_succ ?_
    have h1 : ¬ (i : Int) < (l.length : Int) := by omega
    simp only [impl_allWithin.l0, h1, ↓reduceIte]
    rw [List.drop_eq_nil_of_le (by omega)]
    exact Ev.now _
  | succ d ih =>
    intro i hi
    refine ev_succ ?_
    have h1 : (i : Int) < (l.length : Int) := by omega
    have h0 : (0 : Int) ≤ (i : Int) := by omega
    have hi' : i < l.length := by omega
    simp only [impl_allWithin.l0, h1, h0, ↓reduceIte, impl_within_f, Option.bind_some, rd_nat hi', w64_nat hi' hl]
    rw [drop_cons hi']
    show Ev _ (inB l[i] a b && allB (l.drop (i + 1)) a b)
    cases inB l[i] a b with
    | true => simpa using ih (i + 1) (by omega)
    | false => simpa using Ev.now false
theorem ev_impl_allWithin (l : List Int) (a b : Int) (hl : l.length ≤ 9223372036854775807) : Ev (fun k => impl_allWithin.f k l a b) (allB l a b) := by
  unfold impl_allWithin.f
  simpa using ev_impl_allWithin_l0 a b l hl l.length 0 (by omega)

theorem ev_impl_areCharges (l : List Int) (hl : l.length ≤ 9223372036854775807) : Ev (fun k => impl_areCharges.f k l) (allB l 0 20) := by
  unfold impl_areCharges.f
  exact Ev.bind (ev_impl_allWithin l 0 20 hl) (Ev.now _)

theorem allB_two (c d a b : Int) : allB [c, d] a b = (inB c a b && inB d a b) := by
  unfold allB inB
  simp only [List.all_cons, List.all_nil, Bool.and_true]
theorem ev_impl_IsShelf (a : Int) (s n : List Int) (c d : Int) (hs : s.length ≤ 9223372036854775807) (hn : n.length ≤ 9223372036854775807) : Ev (fun k => impl_IsShelf.f k a s n c d) (shelfB a s n c d) := by
  unfold impl_IsShelf.f shelfB
  simp only [impl_isLife_f, Option.bind_some]
  cases inB a 1 8 with
  | false => simp only [Bool.false_eq_true, ↓reduceIte, Bool.false_and]; exact Ev.now _
  | true =>
    simp only [↓reduceIte, Bool.true_and]
    refine ev_ite (fun h => ?_) (fun h => ?_)
    · refine ev_ite (fun h2 => ?_) (fun h2 => ?_)
      · have h3 : n.length ≤ 8 ∧ s.length = n.length := by omega
        simp only [h3, decide_true, Bool.true_and, and_self]
        refine Ev.bind (ev_impl_allWithin s 0 20 hs) ?_
        cases allB s 0 20 with
        | false => simp only [Bool.false_eq_true, ↓reduceIte, Bool.false_and]; exact Ev.now _
        | true =>
          simp only [↓reduceIte, Bool.true_and]
          refine Ev.bind (ev_impl_allWithin n 0 20 hn) ?_
          cases allB n 0 20 with
          | false => simp only [Bool.false_eq_true, ↓reduceIte, Bool.false_and]; exact Ev.now _
          | true =>
            simp only [↓reduceIte, Bool.true_and]
            refine Ev.bind (ev_impl_areCharges [c, d] (by simp)) ?_
            rw [allB_two]
            exact Ev.now _
      · have h3 : ¬ (n.length ≤ 8 ∧ s.length = n.length) := by omega
        refine ev_eq (Ev.now _) ?_
        simp only [h3, decide_false, Bool.false_and]
    · have h3 : ¬ (n.length ≤ 8 ∧ s.length = n.length) := by omega
      refine ev_eq (Ev.now _) ?_
      simp only [h3, decide_false, Bool.false_and]

theorem ev_impl_total_l0 (l : List Int) (hl : l.length ≤ 9223372036854775807) (d : Nat) : ∀ (i : Nat) (s : Int), i + d = l.length → wrap64 s = s → Ev (fun k => impl_total.l0 k s l (l.length : Int) (i : Int)) (wrap64 (s + (l.drop i).sum)) := by
  induction d with
  | zero =>
    intro i s hi hs
    refine ev_succ ?_
    have h1 : ¬ (i : Int) < (l.length : Int) := by omega
    simp only [impl_total.l0, h1, ↓reduceIte]
    rw [List.drop_eq_nil_of_le (by omega)]
    simp only [List.sum_nil, Int.add_zero, hs]
    exact Ev.now _
  | succ d ih =>
    intro i s hi hs
    refine ev_succ ?_
    have h1 : (i : Int) < (l.length : Int) := by omega
    have h0 : (0 : Int) ≤ (i : Int) := by omega
    have hi' : i < l.length := by omega
    simp only [impl_total.l0, h1, h0, ↓reduceIte, rd_nat hi', w64_nat hi' hl]
    refine ev_eq (ih (i + 1) _ (by omega) (w64_idem _)) ?_
    rw [drop_cons hi', List.sum_cons, w64_add_l, Int.add_assoc]
theorem ev_impl_total (l : List Int) (hl : l.length ≤ 9223372036854775807) : Ev (fun k => impl_total.f k l) (wrap64 l.sum) := by
  unfold impl_total.f
  simpa using ev_impl_total_l0 l hl l.length 0 0 (by omega) w64_zero

theorem ev_impl_used_l0 (m : List (List Int)) (M : Nat) (hM : M ≤ 8) (hm : m.length ≤ 8) (hr : ∀ i, i < m.length → (rd_L1 m (i : Int)).length = M) (d : Nat) : ∀ (i : Nat) (o : List Int), i + d = m.length → o.length = M → Ev (fun k => impl_used.l0 k o m (m.length : Int) (i : Int)) (usedFrom m d i o) := by
  induction d with
  | zero =>
    intro i o hi ho
    refine ev_succ ?_
    have h1 : ¬ (i : Int) < (m.length : Int) := by omega
    simp only [impl_used.l0, h1, ↓reduceIte, usedFrom]
    exact Ev.now _
  | succ d ih =>
    intro i o hi ho
    refine ev_succ ?_
    have hi' : i < m.length := by omega
    have h1 : (i : Int) < (m.length : Int) := by omega
    have h0 : (0 : Int) ≤ (i : Int) := by omega
    have hrl := hr i hi'
    have hin : ∀ dd : Nat, ∀ (j : Nat) (q : List Int), j + dd = M → q.length = M → Ev (fun k => impl_used.l1 k q m (m.length : Int) (i : Int) (rd_L1 m (i : Int)) ((rd_L1 m (i : Int)).length : Int) (j : Int)) (usedFrom m d (i + 1) (addFrom (rd_L1 m (i : Int)) dd j q)) := by
      intro dd
      induction dd with
      | zero =>
        intro j q hj hq
        refine ev_succ ?_
        have h2 : ¬ (j : Int) < ((rd_L1 m (i : Int)).length : Int) := by omega
        simp only [impl_used.l1, h2, ↓reduceIte, w64_nat hi' (by omega : m.length ≤ 9223372036854775807), addFrom]
        exact ih (i + 1) q (by omega) hq
      | succ dd ihd =>
        intro j q hj hq
        refine ev_succ ?_
        have hj' : j < (rd_L1 m (i : Int)).length := by omega
        have h2 : (j : Int) < ((rd_L1 m (i : Int)).length : Int) := by omega
        have h3 : (0 : Int) ≤ (j : Int) := by omega
        have h4 : (j : Int) < (q.length : Int) := by omega
        simp only [impl_used.l1, h2, h3, h4, ↓reduceIte, w64_nat hj' (by omega : (rd_L1 m (i : Int)).length ≤ 9223372036854775807), Int.toNat_natCast, addFrom]
        exact ihd (j + 1) _ (by omega) (by rw [List.length_set]; exact hq)
    simp only [impl_used.l0, h1, h0, ↓reduceIte, usedFrom]
    refine ev_eq (hin M 0 o (by omega) ho) ?_
    rw [ho]
theorem ev_impl_used (m : List (List Int)) (hm : m.length ≤ 8) (hr : ∀ i, i < m.length → (rd_L1 m (i : Int)).length = m.length) : Ev (fun k => impl_used.f k m (m.length : Int)) (usedV m) := by
  unfold impl_used.f usedV
  have h0 : (0 : Int) ≤ (m.length : Int) := by omega
  have h1 : m.length ≤ 35184372088832 := by omega
  have h2 : (m.length : Int) ≤ (m.length : Int) := by omega
  simp only [Int.toNat_natCast, h0, h1, h2, ↓reduceIte, List.take_length, Option.bind_some]
  exact ev_impl_used_l0 m m.length hm hm hr m.length 0 (List.replicate m.length 0) (by omega) (by simp)
theorem ev_impl_used_to (m : List (List Int)) (hm : m.length ≤ 8) (hr : ∀ i, i < m.length → (rd_L1 m (i : Int)).length = m.length) (n : Nat) (hn : n ≤ m.length) : Ev (fun k => impl_used.f k m (n : Int)) (usedFrom (m.take n) n 0 (List.replicate m.length 0)) := by
  unfold impl_used.f
  have h0 : (0 : Int) ≤ (m.length : Int) := by omega
  have h1 : m.length ≤ 35184372088832 := by omega
  have h2 : (n : Int) ≤ (m.length : Int) := by omega
  have h3 : (0 : Int) ≤ (n : Int) := by omega
  have h4 : (m.take n).length = n := by rw [List.length_take]; omega
  simp only [Int.toNat_natCast, h0, h1, h2, h3, ↓reduceIte, Option.bind_some]
  exact ev_impl_used_l0 (m.take n) m.length hm (by omega) (fun i hi => by rw [rdL_take (by omega)]; exact hr i (by omega)) n 0 (List.replicate m.length 0) (by omega) (by simp)
theorem usedTo_rd (m : List (List Int)) {n t : Nat} (h : t < m.length) : rd (usedFrom (m.take n) n 0 (List.replicate m.length 0)) (t : Int) = wrap64 (colFrom m t n 0) := by
  have e : rd (List.replicate m.length 0) (t : Int) = 0 := by
    rw [rd_nat (by simpa using h)]
    simp
  rw [usedFrom_rd _ t _ 0 _ (by simpa using h) (by rw [e]; exact w64_zero), e, Int.zero_add, colFrom_take m t n n 0 (by omega)]

theorem impl_Shelf_can_f (a : Int) (s n : List Int) (c e : Int) (i j : Nat) (ha : 1 ≤ a ∧ a ≤ 8) (hj : j ≤ 8) : impl_Shelf_can.f a s n c e (j : Int) (i : Int) = some (decide ((j : Int) ≤ (i : Int) ∧ (i : Int) < (j : Int) + a)) := by
  unfold impl_Shelf_can.f
  rw [w64 (x := (j : Int) + a) (by omega) (by omega), w64 (by omega) (by omega)]
  simp only [impl_within_f, Option.bind_some, inB]
  congr 1
  rw [decide_eq_decide]
  omega
theorem ev_impl_Shelf_isIssue_l2 (a : Int) (s n : List Int) (c e : Int) (u : List Int) (hu : u.length ≤ 8) (hl : s.length = u.length) (d : Nat) : ∀ j : Nat, j + d = u.length → Ev (fun k => impl_Shelf_isIssue.l2 k u (u.length : Int) (j : Int) a s n c e) (allFrom (fun j => !decide (rd u (j : Int) > rd s (j : Int))) d j) := by
  induction d with
  | zero =>
    intro j hj
    refine ev_succ ?_
    have h1 : ¬ (j : Int) < (u.length : Int) := by omega
    simp only [impl_Shelf_isIssue.l2, h1, ↓reduceIte]
    exact Ev.now _
  | succ d ih =>
    intro j hj
    refine ev_succ ?_
    have hj' : j < u.length := by omega
    have h1 : (j : Int) < (u.length : Int) := by omega
    have h0 : (0 : Int) ≤ (j : Int) := by omega
    have h2 : (j : Int) < (s.length : Int) := by omega
    simp only [impl_Shelf_isIssue.l2, h1, h0, h2, ↓reduceIte, w64_nat hj' (by omega : u.length ≤ 9223372036854775807)]
    rw [allFrom]
    refine ev_ite (fun h => ?_) (fun h => ?_)
    · refine ev_eq (Ev.now _) ?_
      simp [h]
    · refine ev_eq (ih (j + 1) (by omega)) ?_
      simp [h]
theorem ev_impl_Shelf_isIssue_rows (a : Int) (s n : List Int) (c e : Int) (m : List (List Int)) (ha : 1 ≤ a ∧ a ≤ 8) (hl : s.length = n.length) (hn : n.length ≤ 8) (he : m.length = n.length) (hrow : ∀ i, i < m.length → (rd_L1 m (i : Int)).length ≤ 9223372036854775807) (d : Nat) : ∀ i : Nat, i + d = m.length → (∀ t, t < i → (rd_L1 m (t : Int)).length = n.length) → Ev (fun k => impl_Shelf_isIssue.l0 k m m (m.length : Int) (i : Int) a s n c e) (allFrom (rowB a n m) d i && colsB s m n.length) := by
  induction d with
  | zero =>
    intro i hi hpre
    refine ev_succ ?_
    have h1 : ¬ (i : Int) < (m.length : Int) := by omega
    simp only [impl_Shelf_isIssue.l0, h1, ↓reduceIte]
    refine Ev.bind (ev_impl_used m (by omega) (fun t ht => by rw [hpre t (by omega), he])) ?_
    refine ev_eq (ev_impl_Shelf_isIssue_l2 a s n c e (usedV m) (by rw [usedV_length]; omega) (by rw [usedV_length]; omega) (usedV m).length 0 (by omega)) ?_
    rw [allFrom, Bool.true_and, colsB, usedV_length, he]
    refine allFrom_congr _ _ (fun j h2 h3 => ?_)
    rw [usedV_rd m (by omega)]
  | succ d ih =>
    intro i hi hpre
    have hi' : i < m.length := by omega
    have h1 : (i : Int) < (m.length : Int) := by omega
    have h2 : (i : Int) < (n.length : Int) := by omega
    have h0 : (0 : Int) ≤ (i : Int) := by omega
    have hl1 : ∀ dd : Nat, ∀ j : Nat, rowOk n m i = true → j + dd = n.length → Ev (fun k => impl_Shelf_isIssue.l1 k m (i : Int) m (m.length : Int) (i : Int) (rd_L1 m (i : Int)) ((rd_L1 m (i : Int)).length : Int) (j : Int) a s n c e) (allFrom (useB a (rd_L1 m (i : Int)) i) dd j && (allFrom (rowB a n m) d (i + 1) && colsB s m n.length)) := by
      intro dd
      induction dd with
      | zero =>
        intro j hok hj
        refine ev_succ ?_
        have hrl := rowOk_length hok
        have h3 : ¬ (j : Int) < ((rd_L1 m (i : Int)).length : Int) := by omega
        simp only [impl_Shelf_isIssue.l1, h3, ↓reduceIte, w64_nat hi' (by omega : m.length ≤ 9223372036854775807), allFrom, Bool.true_and]
        refine ih (i + 1) (by omega) (fun t ht => ?_)
        by_cases htt : t = i
        · subst htt; exact hrl
        · exact hpre t (by omega)
      | succ dd ihd =>
        intro j hok hj
        refine ev_succ ?_
        have hrl := rowOk_length hok
        have hj' : j < n.length := by omega
        have hj'' : j < (rd_L1 m (i : Int)).length := by omega
        have h4 : (0 : Int) ≤ (j : Int) := by omega
        have h5 : (j : Int) < ((rd_L1 m (i : Int)).length : Int) := by omega
        simp only [impl_Shelf_isIssue.l1, h4, h5, ↓reduceIte, w64_nat hj'' (by omega : (rd_L1 m (i : Int)).length ≤ 9223372036854775807), impl_Shelf_can_f a s n c e i j ha (by omega), Option.bind_some]
        rw [allFrom, useB]
        have hih := ihd (j + 1) hok (by omega)
        refine ev_ite (fun h => ?_) (fun h => ?_)
        · refine ev_ite (fun h6 => ?_) (fun h6 => ?_)
          · refine ev_eq hih ?_
            simp only [h6, Bool.or_true, Bool.true_and]
          · refine ev_eq (Ev.now _) ?_
            simp only [h, h6, decide_true, Bool.not_true, Bool.or_self, Bool.false_and]
        · refine ev_eq hih ?_
          simp only [h, decide_false, Bool.not_false, Bool.true_or, Bool.true_and]
    have hj1 : ∀ x : Bool, (x = !rowOk n m i) → Ev (fun k => impl_Shelf_isIssue.j1 k m (i : Int) (rd_L1 m (i : Int)) m (m.length : Int) (i : Int) x a s n c e) (allFrom (rowB a n m) (d + 1) i && colsB s m n.length) := by
      intro x hx
      refine ev_succ ?_
      rw [allFrom, rowB]
      cases hok : rowOk n m i with
      | false =>
        rw [hok] at hx
        subst hx
        simp only [impl_Shelf_isIssue.j1, Bool.not_false, ↓reduceIte, Bool.false_and]
        exact Ev.now _
      | true =>
        rw [hok] at hx
        subst hx
        simp only [impl_Shelf_isIssue.j1, Bool.not_true, Bool.false_eq_true, ↓reduceIte, Bool.true_and]
        refine ev_eq (hl1 n.length 0 hok (by omega)) ?_
        simp only [Bool.and_assoc]
    refine ev_succ ?_
    simp only [impl_Shelf_isIssue.l0, h1, h0, ↓reduceIte]
    refine ev_ite (fun h => ?_) (fun h => ?_)
    · have h3 : (rd_L1 m (i : Int)).length = n.length := by omega
      refine Ev.bind (ev_impl_allWithin _ 0 20 (hrow i hi')) ?_
      refine ev_ite (fun h4 => ?_) (fun h4 => ?_)
      · refine Ev.bind (ev_impl_total _ (hrow i hi')) ?_
        simp only [h2, ↓reduceIte]
        refine hj1 _ ?_
        simp only [rowOk, h3, h4, decide_true, Bool.true_and, Bool.not_not]
      · refine hj1 _ ?_
        have h5 : allB (rd_L1 m (i : Int)) 0 20 = false := by simpa using h4
        simp only [rowOk, h5, Bool.false_and, Bool.and_false, Bool.not_false]
    · refine hj1 _ ?_
      have h3 : ¬ (rd_L1 m (i : Int)).length = n.length := by omega
      simp only [rowOk, h3, decide_false, Bool.false_and, Bool.not_false]
theorem ev_impl_Shelf_isIssue (a : Int) (s n : List Int) (c e : Int) (m : List (List Int)) (hv : shelfB a s n c e = true) (hrow : ∀ i, i < m.length → (rd_L1 m (i : Int)).length ≤ 9223372036854775807) : Ev (fun k => impl_Shelf_isIssue.f k a s n c e m) (issueB a s n m) := by
  have h := shelfB_spec hv
  unfold impl_Shelf_isIssue.f issueB
  refine ev_ite (fun h1 => ?_) (fun h1 => ?_)
  · have h2 : m.length = n.length := by omega
    refine ev_eq (ev_impl_Shelf_isIssue_rows a s n c e m h.1 h.2.2 h.2.1 h2 hrow m.length 0 (by omega) (fun t ht => absurd ht (by omega))) ?_
    rw [← h2, Nat.min_self, decide_eq_true rfl, Bool.true_and]
  · have h2 : ¬ m.length = n.length := by omega
    refine ev_eq (Ev.now _) ?_
    simp only [h2, decide_false, Bool.false_and, Bool.and_false]

theorem ev_impl_isIssued (a : Int) (s n : List Int) (c e : Int) (m : List (List Int)) (hs : s.length ≤ 9223372036854775807) (hn : n.length ≤ 9223372036854775807) (hrow : ∀ i, i < m.length → (rd_L1 m (i : Int)).length ≤ 9223372036854775807) : Ev (fun k => impl_isIssued.f k a s n c e m) (bothB a s n c e m) := by
  unfold impl_isIssued.f bothB
  refine Ev.bind (ev_impl_IsShelf a s n c e hs hn) ?_
  cases hv : shelfB a s n c e with
  | false => simp only [Bool.false_eq_true, ↓reduceIte, Bool.false_and]; exact Ev.now _
  | true =>
    simp only [↓reduceIte, Bool.true_and]
    exact Ev.bind (ev_impl_Shelf_isIssue a s n c e m hv hrow) (Ev.now _)

theorem ev_impl_StockByAge_l0 (a : Int) (s n : List Int) (c e : Int) (m : List (List Int)) (ha : 1 ≤ a ∧ a ≤ 8) (hm : m.length ≤ 8) (hs : s.length = m.length) (u : List Int) (hu : u.length = m.length) (t : Nat) (ht : t < m.length) (hv : ∀ j, j < m.length → rd u (j : Int) = wrap64 (colFrom m j (t + 1) 0)) (d : Nat) : ∀ (i : Nat) (o : List Int), i + d = (a - 1).toNat → o.length = i → Ev (fun k => impl_StockByAge.l0 k (t : Int) o u (wrap64 (a - 1)) (i : Int) a s n c e) (o ++ mapFrom (stockAt s m t) d i, true) := by
  have ea : wrap64 (a - 1) = a - 1 := w64 (by omega) (by omega)
  induction d with
  | zero =>
    intro i o hi ho
    refine ev_succ ?_
    have h1 : ¬ (i : Int) < a - 1 := by omega
    simp only [impl_StockByAge.l0, ea, h1, ↓reduceIte, mapFrom, List.append_nil]
    exact Ev.now _
  | succ d ih =>
    intro i o hi ho
    refine ev_succ ?_
    have h1 : (i : Int) < a - 1 := by omega
    have h8 : i < 8 := by omega
    have h3 : o.length < 17592186044416 := by omega
    have ht8 : t < 8 := by omega
    have e3 : wrap64 ((i : Int) + 1) = ((i + 1 : Nat) : Int) := w64_nat h8 (by decide)
    have e1 : wrap64 ((t : Int) - (i : Int)) = (t : Int) - (i : Int) := by
      clear ih e3 hi ho ha
      exact w64 (by omega) (by omega)
    rw [ea] at ih
    simp only [impl_StockByAge.l0, ea, h1, e1, e3, h3, ↓reduceIte]
    clear e1 e3
    by_cases hc : t < i
    · have h4 : ¬ (t : Int) - (i : Int) ≥ 0 := by omega
      simp only [h4, ↓reduceIte]
      refine ev_eq (ih (i + 1) _ (by omega) (by simp [ho])) ?_
      rw [mapFrom, List.append_assoc, stockAt, if_pos hc]
      rfl
    · have h4 : (t : Int) - (i : Int) ≥ 0 := by omega
      have h5 : (0 : Int) ≤ (t : Int) - (i : Int) := by omega
      have h6 : (t : Int) - (i : Int) < (s.length : Int) := by omega
      have h7 : (t : Int) - (i : Int) < (u.length : Int) := by omega
      have e4 : (t : Int) - (i : Int) = ((t - i : Nat) : Int) := by omega
      simp only [h4, h5, h6, h7, ↓reduceIte]
      rw [e4, hv _ (by omega)]
      refine ev_eq (ih (i + 1) _ (by omega) (by simp [ho])) ?_
      rw [mapFrom, List.append_assoc, stockAt, if_neg hc]
      rfl
theorem ev_impl_StockByAge_j0_no (a : Int) (s n : List Int) (c e : Int) (m : List (List Int)) (t : Int) : Ev (fun k => impl_StockByAge.j0 k m t true a s n c e) ([], false) := by
  refine ev_succ ?_
  simp only [impl_StockByAge.j0, ↓reduceIte]
  exact Ev.now _
theorem ev_impl_StockByAge (a : Int) (s n : List Int) (c e : Int) (m : List (List Int)) (t : Int) (hs : s.length ≤ 9223372036854775807) (hn : n.length ≤ 9223372036854775807) (hrow : ∀ i, i < m.length → (rd_L1 m (i : Int)).length ≤ 9223372036854775807) : Ev (fun k => impl_StockByAge.f k a s n c e m t) (stockAgeV a s n c e m t) := by
  unfold impl_StockByAge.f stockAgeV
  simp only [Option.bind_some, impl_within_f]
  refine Ev.bind (ev_impl_isIssued a s n c e m hs hn hrow) ?_
  refine ev_ite (fun h => ?_) (fun h => ?_)
  · obtain ⟨h1, h2, h3, h4⟩ := bothB_spec h
    have ha : 1 ≤ a ∧ a ≤ 8 := by
      have h5 := h
      unfold bothB at h5
      rw [Bool.and_eq_true] at h5
      exact (shelfB_spec h5.1).1
    rw [w64 (x := (n.length : Int) - 1) (by omega) (by omega), h, Bool.true_and, h2]
    cases hi : inB t 0 ((m.length : Int) - 1) with
    | true =>
      obtain ⟨t0, t1⟩ := inB_iff.1 hi
      rw [if_pos rfl]
      refine ev_succ ?_
      simp only [impl_StockByAge.j0, Bool.not_true, Bool.false_eq_true, ↓reduceIte]
      have et : t = ((t.toNat : Nat) : Int) := by omega
      generalize t.toNat = q at et
      subst et
      have e2 : wrap64 ((q : Int) + 1) = ((q + 1 : Nat) : Int) := w64_nat (n := m.length) (by omega) (by omega)
      rw [e2]
      refine Ev.bind (ev_impl_used_to m h3 h4 (q + 1) (by omega)) ?_
      exact ev_impl_StockByAge_l0 a s n c e m ha h3 h1 _ (by rw [usedFrom_length, List.length_replicate]) q (by omega) (fun j hj => usedTo_rd m hj) (a - 1).toNat 0 [] (by omega) rfl
    | false => exact ev_impl_StockByAge_j0_no _ _ _ _ _ _ _
  · rw [Bool.not_eq_true] at h
    rw [h, Bool.false_and]
    exact ev_impl_StockByAge_j0_no _ _ _ _ _ _ _

theorem FnExactStockByAge (a0_0 : Int) (l0_1 : List (Int)) (l0_2 : List (Int)) (a0_3 : Int) (a0_4 : Int) (l1 : List (List (Int))) (a2 : Int) (w0_0 : (Lit.int .i64 a0_0).wf = true) (h0_1 : l0_1.length ≤ 9223372036854775807) (w0_1 : ∀ y ∈ l0_1, (Lit.int .i64 y).wf = true) (h0_2 : l0_2.length ≤ 9223372036854775807) (w0_2 : ∀ y ∈ l0_2, (Lit.int .i64 y).wf = true) (w0_3 : (Lit.int .i64 a0_3).wf = true) (w0_4 : (Lit.int .i64 a0_4).wf = true) (h1 : l1.length ≤ 9223372036854775807) (w1 : ∀ y ∈ l1, (y.length ≤ 9223372036854775807 ∧ ∀ z ∈ y, (Lit.int .i64 z).wf = true)) (w2 : (Lit.int .i64 a2).wf = true) : ∃ k, laws_FnExactStockByAge.f k a0_0 l0_1 l0_2 a0_3 a0_4 l1 a2 = some true := by
  refine Ev.rounds ?_
  have hrow : ∀ i, i < l1.length → (rd_L1 l1 (i : Int)).length ≤ 9223372036854775807 := fun i hi => (w1 _ (rdL_mem hi)).1
  unfold laws_FnExactStockByAge.f
  simp only [laws_szShelf_f a0_0 l0_1 l0_2 a0_3 a0_4 h0_1 h0_2, Option.bind_some]
  by_cases g1 : 1048576 - (l0_1.length : Int) < 0
  · simp only [if_pos g1, show ((-1 : Int) < 0) = True from by simp, if_true]
    exact Ev.now _
  by_cases g2 : 1048576 - (l0_1.length : Int) - (l0_2.length : Int) < 0
  · simp only [if_neg g1, if_pos g2, show ((-1 : Int) < 0) = True from by simp, if_true]
    exact Ev.now _
  simp only [if_neg g1, if_neg g2]
  refine Ev.bind (ev_laws_szIntSS l1 _ h1 hrow (by omega) (by omega)) ?_
  refine ev_ite (fun h => Ev.now _) (fun h => ?_)
  have hz := szV_spec (by omega) (by omega) h
  have hlm := szV_lens (by omega) (by omega) h
  have hl1 : l1.length ≤ 1048576 := hz.1
  have hv := stockAgeV_length (a := a0_0) (s := l0_1) (n := l0_2) (c := a0_3) (e := a0_4) (m := l1) (t := a2)
  have hsn : l0_1.length ≤ 1048576 ∧ l0_2.length ≤ 1048576 := by omega
  have hs := ev_spec_StockByAge a0_0 l0_1 l0_2 a0_3 a0_4 l1 a2 h0_1 h0_2 hrow
  have hi := ev_impl_StockByAge a0_0 l0_1 l0_2 a0_3 a0_4 l1 a2 h0_1 h0_2 hrow
  generalize stockAgeV a0_0 l0_1 l0_2 a0_3 a0_4 l1 a2 = v at hs hi hv
  obtain ⟨v, b⟩ := v
  dsimp only at hv
  repeat first
    | exact Ev.now _
    | (refine Ev.bind ht ?_; try dsimp only)
    | (refine Ev.bind hs ?_; try dsimp only)
    | (refine Ev.bind hi ?_; try dsimp only)
    | (refine Ev.bind (ev_laws_toIntS _ (by first | assumption | omega)) ?_; try dsimp only)
    | (refine Ev.bind (ev_laws_toShelf _ _ _ _ _ (by first | assumption | omega)) ?_; try dsimp only)
    | (refine Ev.bind (ev_laws_toIntSS _ (by first | assumption | omega)) ?_; try dsimp only)
    | (refine Ev.bind (ev_laws_eqIntS_self _ (by first | assumption | omega)) ?_; try dsimp only)
    | (refine Ev.bind (ev_laws_eqShelf_self _ _ _ _ _ (by first | assumption | omega)) ?_; try dsimp only)
    | (refine Ev.bind (ev_laws_eqIntSS_self _ (by first | assumption | omega)) ?_; try dsimp only)
    | (refine Ev.bind (ev_laws_markIntS _ _ (by first | assumption | omega) (by first | assumption | omega) (by first | assumption | omega)) ?_; try dsimp only)
    | (refine Ev.bind (ev_laws_markShelf _ _ _ _ _ _ (by first | assumption | omega) (by first | assumption | omega) (by first | assumption | omega)) ?_; try dsimp only)
    | (refine Ev.bind (ev_laws_markIntSS _ _ (by first | assumption | omega) (by first | assumption | omega) (by first | assumption | omega)) ?_; try dsimp only)
    | (refine Ev.bind (ev_laws_heldIntS _ _ (by first | assumption | omega) (by first | assumption | omega) (by first | assumption | omega)) ?_; try dsimp only)
    | (refine ev_ite (fun h => absurd h (by omega)) (fun _ => ?_))
    | (refine ev_ite (fun _ => ?_) (fun h => absurd (by omega) h))
    | (simp only [bne_self_eq_false, Bool.false_eq_true, ↓reduceIte])
    | (refine ev_succ ?_; simp only [laws_FnExactStockByAge.j0])
    | (refine ev_succ ?_; simp only [laws_FnExactStockByAge.j1])
    | (refine ev_succ ?_; simp only [laws_FnExactStockByAge.j2])

end Go.Proofs.Ytgkjnhajomjhcaa.Pure
