/- The pure side of FnProfits: what the program's text computes and what the reference's text computes are the same value, for every argument. No condition. -/
import Derived.Test.YtiniocecpgjikaaPFnProfitsx16
namespace Go.Proofs.Ytiniocecpgjikaa.Pure
open Go.RowKit Go.Proofs.Ytiniocecpgjikaa.PFnProfits Go.Proofs.YtiniocecpgjikaaW.PrintWords Go.Proofs.YtiniocecpgjikaaW.PrintLast
set_option linter.unusedVariables false
set_option linter.unusedSimpArgs false

theorem ev_succ {α : Type} {g : Nat → Option α} {r : α} (h : Ev (fun k => g (k + 1)) r) : Ev g r := Ev.step (fun _ => rfl) h
theorem ev_pure {α : Type} {x : Option α} {r : α} (h : x = some r) : Ev (fun _ => x) r := ⟨0, fun _ _ => h⟩
theorem ev_eq {α : Type} {g : Nat → Option α} {r r' : α} (h : Ev g r) (e : r = r') : Ev g r' := e ▸ h
theorem ev_ite {α : Type} {c : Prop} [Decidable c] {g f : Nat → Option α} {r : α} (h1 : c → Ev g r) (h2 : ¬ c → Ev f r) : Ev (fun k => if c then g k else f k) r := by
 by_cases h : c
 ·simp only [h, if_true]; exact h1 h
 ·simp only [h, if_false]; exact h2 h
theorem w64 {x : Int} (h : -9223372036854775808 ≤ x) (h' : x ≤ 9223372036854775807) : wrap64 x = x := by unfold wrap64; omega
theorem w64_zero : wrap64 0 = 0 := w64 (by omega) (by omega)
theorem w64_idem (x : Int) : wrap64 (wrap64 x) = wrap64 x := by unfold wrap64; omega
theorem w64_add_l (x y : Int) : wrap64 (wrap64 x + y) = wrap64 (x + y) := by unfold wrap64; omega
theorem w64_add_r (x y : Int) : wrap64 (x + wrap64 y) = wrap64 (x + y) := by unfold wrap64; omega
theorem w64_sub_l (x y : Int) : wrap64 (wrap64 x - y) = wrap64 (x - y) := by unfold wrap64; omega
theorem w64_sub_r (x y : Int) : wrap64 (x - wrap64 y) = wrap64 (x - y) := by unfold wrap64; omega
theorem w64_shift (x k : Int) : wrap64 (x + 18446744073709551616 * k) = wrap64 x := by unfold wrap64; omega
theorem w64_ex (x : Int) : ∃ k, wrap64 x = x + 18446744073709551616 * k := by
 unfold wrap64
 exact ⟨-((x + 9223372036854775808) / 18446744073709551616), by omega⟩
theorem w64_mul_l (x y : Int) : wrap64 (wrap64 x * y) = wrap64 (x * y) := by
 obtain ⟨k, hk⟩ := w64_ex x
 rw [hk, Int.add_mul, Int.mul_assoc, w64_shift]
theorem w64_mul_r (x y : Int) : wrap64 (x * wrap64 y) = wrap64 (x * y) := by
 rw [Int.mul_comm, w64_mul_l, Int.mul_comm]
theorem w64_neg (x : Int) : wrap64 (-wrap64 x) = wrap64 (-x) := by unfold wrap64; omega
theorem w64_range (x : Int) : -9223372036854775808 ≤ wrap64 x ∧ wrap64 x ≤ 9223372036854775807 := by unfold wrap64; omega
theorem w64_nat {i n : Nat} (h : i < n) (hn : n ≤ 9223372036854775807) : wrap64 ((i : Int) + 1) = ((i + 1 : Nat) : Int) := by rw [w64 (by omega) (by omega)]; rfl
theorem wf_range {x : Int} (h : (Lit.int .i64 x).wf = true) : -9223372036854775808 ≤ x ∧ x ≤ 9223372036854775807 := by
 simp [Lit.wf, IntKind.min, IntKind.max, IntKind.signed, IntKind.bits] at h
 omega
theorem rd_nat {l : List Int} {i : Nat} (h : i < l.length) : rd l (i : Int) = l[i] := by
 unfold rd
 simp [List.getD_eq_getElem?_getD, h]
def allB (l : List Int) (a b : Int) : Bool := l.all fun x => decide (a ≤ x ∧ x ≤ b)
def inB (x a b : Int) : Bool := decide (a ≤ x ∧ x ≤ b)
theorem allB_mem {l : List Int} {a b : Int} (h : allB l a b = true) : ∀ x ∈ l, a ≤ x ∧ x ≤ b := by
 intro x hx
 have := List.all_eq_true.1 h x hx
 simpa using this
theorem inB_iff {x a b : Int} : inB x a b = true ↔ a ≤ x ∧ x ≤ b := by unfold inB; simp
theorem sum_le {l : List Int} {b : Int} (hb : ∀ x ∈ l, x ≤ b) : l.sum ≤ l.length * b := by
 induction l with
 | nil => simp
 | cons x l ih =>
  have h1 := hb x (by simp)
  have h2 := ih (fun y hy => hb y (by simp [hy]))
  rw [List.sum_cons, List.length_cons]
  have : ((l.length + 1 : Nat) : Int) * b = l.length * b + b := by rw [Int.natCast_add, Int.add_mul]; simp
  rw [this]; omega
theorem le_sum {l : List Int} {b : Int} (hb : ∀ x ∈ l, b ≤ x) : l.length * b ≤ l.sum := by
 induction l with
 | nil => simp
 | cons x l ih =>
  have h1 := hb x (by simp)
  have h2 := ih (fun y hy => hb y (by simp [hy]))
  rw [List.sum_cons, List.length_cons]
  have : ((l.length + 1 : Nat) : Int) * b = l.length * b + b := by rw [Int.natCast_add, Int.add_mul]; simp
  rw [this]; omega
theorem drop_cons {α : Type} {l : List α} {i : Nat} (h : i < l.length) : l.drop i = l[i] :: l.drop (i + 1) := List.drop_eq_getElem_cons h
theorem ev_yes {α : Type} {c : Prop} [Decidable c] {g f : Nat → Option α} {r : α} (h : c) (hg : Ev g r) : Ev (fun k => if c then g k else f k) r := ev_ite (fun _ => hg) (fun hn => absurd h hn)
theorem ev_no {α : Type} {c : Prop} [Decidable c] {g f : Nat → Option α} {r : α} (h : ¬ c) (hf : Ev f r) : Ev (fun k => if c then g k else f k) r := ev_ite (fun hn => absurd hn h) (fun _ => hf)

theorem spec_l1In_f (a b c : Int) : spec_l1In.f a b c = some (inB a b c) := by
 unfold spec_l1In.f inB
 by_cases h : a ≥ b
 ·rw [if_pos h]; congr 1; rw [decide_eq_decide]; omega
 ·rw [if_neg h]; congr 1; symm; rw [decide_eq_false_iff_not]; omega

theorem ev_spec_l2Sum_l0 (l : List Int) (hl : l.length ≤ 9223372036854775807) (d : Nat) : ∀ (i : Nat) (s : Int), i + d = l.length → wrap64 s = s → Ev (fun k => spec_l2Sum.l0 k l s (i : Int)) (wrap64 (s + (l.drop i).sum)) := by
 induction d with
 | zero =>
  intro i s hi hs
  refine ev_succ ?_
  have h1 : ¬ (i : Int) < (l.length : Int) := by omega
  simp only [spec_l2Sum.l0, h1, ↓reduceIte]
  rw [List.drop_eq_nil_of_le (by omega)]
  simp only [List.sum_nil, Int.add_zero, hs]
  exact Ev.now _
 | succ d ih =>
  intro i s hi hs
  refine ev_succ ?_
  have h1 : (i : Int) < (l.length : Int) := by omega
  have h0 : (0 : Int) ≤ (i : Int) := by omega
  have hi' : i < l.length := by omega
  simp only [spec_l2Sum.l0, h1, h0, ↓reduceIte, rd_nat hi', w64_nat hi' hl]
  refine ev_eq (ih (i + 1) _ (by omega) (w64_idem _)) ?_
  rw [drop_cons hi', List.sum_cons, w64_add_l, Int.add_assoc]
theorem ev_spec_l2Sum (l : List Int) (hl : l.length ≤ 9223372036854775807) : Ev (fun k => spec_l2Sum.f k l) (wrap64 l.sum) := by
 unfold spec_l2Sum.f
 simpa using ev_spec_l2Sum_l0 l hl l.length 0 0 (by omega) w64_zero

theorem ev_spec_l2Row_l0 (n b : Int) (l : List Int) (hl : l.length ≤ 9223372036854775807) (d : Nat) : ∀ i : Nat, i + d = l.length → Ev (fun k => spec_l2Row.l0 k l n b (i : Int)) (allB (l.drop i) 0 b && ((l.length : Int) == n)) := by
 induction d with
 | zero =>
  intro i hi
  refine ev_succ ?_
  have h1 : ¬ (i : Int) < (l.length : Int) := by omega
  simp only [spec_l2Row.l0, h1, ↓reduceIte]
  rw [List.drop_eq_nil_of_le (by omega)]
  exact Ev.now _
 | succ d ih =>
  intro i hi
  refine ev_succ ?_
  have h1 : (i : Int) < (l.length : Int) := by omega
  have h0 : (0 : Int) ≤ (i : Int) := by omega
  have hi' : i < l.length := by omega
  simp only [spec_l2Row.l0, h1, h0, ↓reduceIte, spec_l1In_f, Option.bind_some, rd_nat hi', w64_nat hi' hl]
  rw [drop_cons hi']
  show Ev _ ((inB l[i] 0 b && allB (l.drop (i + 1)) 0 b) && _)
  cases inB l[i] 0 b with
  | true => simpa using ih (i + 1) (by omega)
  | false => simpa using Ev.now false
theorem ev_spec_l2Row (l : List Int) (n b : Int) (hl : l.length ≤ 9223372036854775807) : Ev (fun k => spec_l2Row.f k l n b) (allB l 0 b && ((l.length : Int) == n)) := by
 unfold spec_l2Row.f
 simpa using ev_spec_l2Row_l0 n b l hl l.length 0 (by omega)

def marketB (l : List Int) (p m f : Int) : Bool := inB (l.length : Int) 1 9 && (allB l 0 4 && (decide (wrap64 l.sum > 0) && (inB p 1 99 && (inB m 0 p && inB f 0 m))))
theorem marketB_mem {l : List Int} {p m f : Int} (h : marketB l p m f = true) : 1 ≤ l.length ∧ l.length ≤ 9 ∧ (∀ x ∈ l, 0 ≤ x ∧ x ≤ 4) ∧ (0 < l.sum ∧ l.sum ≤ 36) ∧ (1 ≤ p ∧ p ≤ 99) ∧ (0 ≤ m ∧ m ≤ p) ∧ (0 ≤ f ∧ f ≤ m) := by
 unfold marketB at h
 simp only [Bool.and_eq_true, inB_iff, decide_eq_true_eq] at h
 obtain ⟨h1, h2, h3, h4, h5, h6⟩ := h
 have hm := allB_mem h2
 have s1 := sum_le (b := 4) (fun y hy => (hm y hy).2)
 have s2 := le_sum (b := 0) (fun y hy => (hm y hy).1)
 rw [w64 (by omega) (by omega)] at h3
 exact ⟨by omega, by omega, hm, by omega, h4, h5, h6⟩
def contractB (a b c : Int) : Bool := inB a 0 99 && (inB b 0 99 && inB c 0 100)
theorem contractB_mem {a b c : Int} (h : contractB a b c = true) : (0 ≤ a ∧ a ≤ 99) ∧ (0 ≤ b ∧ b ≤ 99) ∧ 0 ≤ c ∧ c ≤ 100 := by
 unfold contractB at h
 simpa only [Bool.and_eq_true, inB_iff] using h

theorem ev_spec_l10Market (l : List Int) (p m f : Int) (hl : l.length ≤ 9223372036854775807) : Ev (fun k => spec_l10Market.f k l p m f) (marketB l p m f) := by
 unfold spec_l10Market.f marketB
 simp only [spec_l1In_f, Option.bind_some]
 refine ev_ite (fun h1 => ?_) (fun h1 => ?_)
 ·refine Ev.bind (ev_spec_l2Row l _ 4 hl) ?_
  simp only [beq_self_eq_true, Bool.and_true]
  refine ev_ite (fun h2 => ?_) (fun h2 => ?_)
  ·refine Ev.bind (ev_spec_l2Sum l hl) ?_
   refine ev_ite (fun h3 => ?_) (fun h3 => ?_)
   ·refine ev_eq (ev_pure (x := _) (r := inB p 1 99 && (inB m 0 p && inB f 0 m)) ?_) ?_
    ·cases inB p 1 99 <;> cases inB m 0 p <;> rfl
    ·simp [h1, h2, h3]
   ·exact ev_eq (Ev.now _) (by simp [h3])
  ·exact ev_eq (Ev.now _) (by simp [h2])
 ·exact ev_eq (Ev.now _) (by simp [h1])

theorem spec_l1Least_f (a b : Int) : spec_l1Least.f a b = some (mn a b) := by
 unfold spec_l1Least.f mn
 by_cases h : a < b
 ·rw [if_pos h, if_neg (by omega)]
 ·by_cases h2 : b < a
  ·rw [if_neg h, if_pos h2]
  ·rw [if_neg h, if_neg h2]; congr 1; omega

def sFrom (q : Int) : List Int → Nat → Int
 | [], _ => 0
 | x :: t, i => x * mn q (i : Int) + sFrom q t (i + 1)
def salesS (l : List Int) (q : Int) : Int := sFrom q l 0
def sellerP (l : List Int) (p m f a b c q : Int) : Int := c * p * salesS l q + 100 * ((f + b) * (l.sum * q - salesS l q) - a * (l.sum * q))
def makerP (l : List Int) (p m f a b c q : Int) : Int := (100 - c) * p * salesS l q + 100 * ((a - m) * (l.sum * q) - b * (l.sum * q - salesS l q))
def jointP (l : List Int) (p m f q : Int) : Int := 100 * (p * salesS l q + f * (l.sum * q - salesS l q) - m * (l.sum * q))

theorem ev_spec_l10Sales_l0 (l : List Int) (p m f q : Int) (hl : l.length ≤ 9223372036854775807) (d : Nat) : ∀ (i : Nat) (s : Int), i + d = l.length → wrap64 s = s → Ev (fun k => spec_l10Sales.l0 k q s (i : Int) l p m f) (wrap64 (s + sFrom q (l.drop i) i)) := by
 induction d with
 | zero =>
  intro i s hi hs
  refine ev_succ ?_
  have h1 : ¬ (i : Int) < (l.length : Int) := by omega
  simp only [spec_l10Sales.l0, h1, ↓reduceIte]
  rw [List.drop_eq_nil_of_le (by omega)]
  simp only [sFrom, Int.add_zero, hs]
  exact Ev.now _
 | succ d ih =>
  intro i s hi hs
  refine ev_succ ?_
  have h1 : (i : Int) < (l.length : Int) := by omega
  have h0 : (0 : Int) ≤ (i : Int) := by omega
  have hi' : i < l.length := by omega
  simp only [spec_l10Sales.l0, h1, h0, ↓reduceIte, spec_l1Least_f, Option.bind_some, rd_nat hi', w64_nat hi' hl, w64_add_r]
  refine ev_eq (ih (i + 1) _ (by omega) (w64_idem _)) ?_
  rw [drop_cons hi', sFrom, w64_add_l, Int.add_assoc]
theorem ev_spec_l10Sales (l : List Int) (p m f q : Int) (hl : l.length ≤ 9223372036854775807) : Ev (fun k => spec_l10Sales.f k l p m f q) (wrap64 (salesS l q)) := by
 unfold spec_l10Sales.f
 simpa [salesS] using ev_spec_l10Sales_l0 l p m f q hl l.length 0 0 (by omega) w64_zero

theorem ev_spec_l10Seller (l : List Int) (p m f a b c q : Int) (hl : l.length ≤ 9223372036854775807) : Ev (fun k => spec_l10Seller.f k l p m f a b c q) (wrap64 (sellerP l p m f a b c q)) := by
 unfold spec_l10Seller.f sellerP
 refine Ev.bind (ev_spec_l10Sales l p m f q hl) ?_
 refine Ev.bind (ev_spec_l2Sum l hl) ?_
 refine ev_eq (Ev.now _) ?_
 simp only [w64_mul_l, w64_mul_r, w64_add_l, w64_add_r, w64_sub_l, w64_sub_r]

def mostV (g : Int → Int) : Nat → Int → Int → Int
 | 0, best, _ => best
 | d + 1, best, q => if g q > g best then mostV g d q (q + 1) else mostV g d best (q + 1)
def bestV (l : List Int) (p m f : Int) : Int := mostV (fun q => wrap64 (jointP l p m f q)) 8 0 1
def soldV (l : List Int) (p m f a b c : Int) : Int := mostV (fun q => wrap64 (sellerP l p m f a b c q)) 8 0 1

theorem ev_spec_l10Sold_loop (l : List Int) (p m f a b c : Int) (hl : l.length ≤ 9223372036854775807) (d : Nat) : ∀ (q : Nat) (best : Int), q + d = 9 → Ev (fun k => spec_l10Sold.l0 k best (q : Int) l p m f a b c) (mostV (fun q => wrap64 (sellerP l p m f a b c q)) d best (q : Int)) := by
 induction d with
 | zero =>
  intro q best hq
  refine ev_succ ?_
  have h1 : ¬ (q : Int) ≤ 8 := by omega
  simp only [spec_l10Sold.l0, h1, ↓reduceIte]
  exact Ev.now _
 | succ d ih =>
  intro q best hq
  refine ev_succ ?_
  have h1 : (q : Int) ≤ 8 := by omega
  simp only [spec_l10Sold.l0, h1, ↓reduceIte, w64_nat (show q < 9 by omega) (by omega)]
  refine Ev.bind (ev_spec_l10Seller l p m f a b c (q : Int) hl) ?_
  refine Ev.bind (ev_spec_l10Seller l p m f a b c best hl) ?_
  rw [mostV]
  have e : ((q + 1 : Nat) : Int) = (q : Int) + 1 := by omega
  rw [← e]
  refine ev_ite (fun h => ?_) (fun h => ?_)
  ·rw [if_pos h]; exact ih (q + 1) _ (by omega)
  ·rw [if_neg h]; exact ih (q + 1) _ (by omega)
theorem ev_spec_l10Sold (l : List Int) (p m f a b c : Int) (hl : l.length ≤ 9223372036854775807) : Ev (fun k => spec_l10Sold.f k l p m f a b c) (soldV l p m f a b c) := by
 unfold spec_l10Sold.f soldV
 exact ev_spec_l10Sold_loop l p m f a b c hl 8 1 0 (by omega)

theorem ev_spec_l10Maker (l : List Int) (p m f a b c q : Int) (hl : l.length ≤ 9223372036854775807) : Ev (fun k => spec_l10Maker.f k l p m f a b c q) (wrap64 (makerP l p m f a b c q)) := by
 unfold spec_l10Maker.f makerP
 refine Ev.bind (ev_spec_l10Sales l p m f q hl) ?_
 refine Ev.bind (ev_spec_l2Sum l hl) ?_
 refine ev_eq (Ev.now _) ?_
 simp only [w64_mul_l, w64_mul_r, w64_add_l, w64_add_r, w64_sub_l, w64_sub_r]

theorem rdA2_nat {l : List S67} {i : Nat} (h : i < l.length) : rd_T67 l (i : Int) = l[i] := by
 unfold rd_T67
 simp [List.getD_eq_getElem?_getD, h]

def allFrom (g : Nat → Bool) : Nat → Nat → Bool
 | 0, _ => true
 | d + 1, i => g i && allFrom g d (i + 1)
theorem allFrom_iff (g : Nat → Bool) (d : Nat) : ∀ i, allFrom g d i = true ↔ ∀ j, i ≤ j → j < i + d → g j = true := by
 induction d with
 | zero => intro i; exact ⟨fun _ j h1 h2 => by omega, fun _ => rfl⟩
 | succ d ih =>
  intro i
  rw [allFrom, Bool.and_eq_true, ih (i + 1)]
  constructor
  ·rintro ⟨h1, h2⟩ j h3 h4
   by_cases he : j = i
   ·subst he; exact h1
   ·exact h2 j (by omega) (by omega)
  ·intro h
   exact ⟨h i (by omega) (by omega), fun j h1 h2 => h j (by omega) (by omega)⟩
theorem allFrom_congr {g g' : Nat → Bool} (d : Nat) : ∀ i, (∀ j, i ≤ j → j < i + d → g j = g' j) → allFrom g d i = allFrom g' d i := by
 induction d with
 | zero => intro i _; rfl
 | succ d ih =>
  intro i h
  rw [allFrom, allFrom, h i (by omega) (by omega), ih (i + 1) (fun j h1 h2 => h j (by omega) (by omega))]
def mapFrom {α : Type} (g : Nat → α) : Nat → Nat → List α
 | 0, _ => []
 | d + 1, i => g i :: mapFrom g d (i + 1)
theorem mapFrom_length {α : Type} (g : Nat → α) (d : Nat) : ∀ i, (mapFrom g d i).length = d := by
 induction d with
 | zero => intro i; rfl
 | succ d ih => intro i; rw [mapFrom, List.length_cons, ih]
theorem mapFrom_get {α : Type} (g : Nat → α) (d : Nat) : ∀ (i j : Nat) (h : j < (mapFrom g d i).length), (mapFrom g d i)[j] = g (i + j) := by
 induction d with
 | zero => intro i j h; simp [mapFrom] at h
 | succ d ih =>
  intro i j h
  cases j with
  | zero => rfl
  | succ j =>
   show (mapFrom g d (i + 1))[j]'_ = _
   rw [ih]
   congr 1
   omega
theorem mapFrom_congr {α : Type} {g g' : Nat → α} (d : Nat) : ∀ i, (∀ j, i ≤ j → j < i + d → g j = g' j) → mapFrom g d i = mapFrom g' d i := by
 induction d with
 | zero => intro i _; rfl
 | succ d ih =>
  intro i h
  rw [mapFrom, mapFrom, h i (by omega) (by omega), ih (i + 1) (fun j h1 h2 => h j (by omega) (by omega))]

def plainAt (l : List Int) (p m f : Int) (pay : Nat) : S67 := ⟨soldV l p m f (pay : Int) 0 100, wrap64 (makerP l p m f (pay : Int) 0 100 (soldV l p m f (pay : Int) 0 100))⟩
def plainsV (l : List Int) (p m f : Int) : List S67 := mapFrom (plainAt l p m f) (p + 1 - m).toNat m.toNat
def plainV (l : List Int) (p m f : Int) : List S67 × Bool := if marketB l p m f = true then (plainsV l p m f, true) else ([], false)
theorem plainV_length (l : List Int) (p m f : Int) : (plainV l p m f).1.length ≤ 100 := by
 unfold plainV
 by_cases h : marketB l p m f = true
 ·rw [if_pos h]
  have := marketB_mem h
  simp only [plainsV, mapFrom_length]
  omega
 ·rw [if_neg h]; simp
def bestA2 (L : List S67) : Nat → Nat → Nat → Nat
 | 0, _, b => b
 | d + 1, i, b => if (rd_T67 L (i : Int)).f1 > (rd_T67 L (b : Int)).f1 then bestA2 L d (i + 1) i else bestA2 L d (i + 1) b
def bestPlainV (l : List Int) (p m f : Int) : Int × Bool := if marketB l p m f = true then (wrap64 (m + (bestA2 (plainsV l p m f) ((plainsV l p m f).length - 1) 1 0 : Nat)), true) else (0, false)

theorem ev_spec_l10Plains_l0 (l : List Int) (p m f : Int) (hl : l.length ≤ 9223372036854775807) (hp : p ≤ 99) (d : Nat) : ∀ (j : Nat) (o : List S67), (j : Int) + d = p + 1 → o.length + d ≤ 1000 → Ev (fun k => spec_l10Plains.l0 k o (j : Int) l p m f) (o ++ mapFrom (plainAt l p m f) d j) := by
 induction d with
 | zero =>
  intro j o hj ho
  refine ev_succ ?_
  have h1 : ¬ (j : Int) ≤ p := by omega
  simp only [spec_l10Plains.l0, h1, ↓reduceIte, mapFrom, List.append_nil]
  exact Ev.now _
 | succ d ih =>
  intro j o hj ho
  refine ev_succ ?_
  have h1 : (j : Int) ≤ p := by omega
  have h4 : o.length < 8796093022208 := by omega
  have e1 : wrap64 ((j : Int) + 1) = ((j + 1 : Nat) : Int) := by rw [w64 (by omega) (by omega)]; omega
  simp only [spec_l10Plains.l0, h1, h4, e1, ↓reduceIte]
  simp only [spec_l10Plain.f, Option.bind_some]
  refine Ev.bind (ev_spec_l10Sold l p m f (j : Int) 0 100 hl) ?_
  refine Ev.bind (ev_spec_l10Maker l p m f (j : Int) 0 100 _ hl) ?_
  refine ev_eq (ih (j + 1) _ (by omega) (by simp; omega)) ?_
  rw [mapFrom, List.append_assoc]
  rfl
theorem ev_spec_l10Plains (l : List Int) (p m f : Int) (hl : l.length ≤ 9223372036854775807) (h : marketB l p m f = true) : Ev (fun k => spec_l10Plains.f k l p m f) (plainsV l p m f) := by
 unfold spec_l10Plains.f plainsV
 have hm := marketB_mem h
 have e : m = ((m.toNat : Nat) : Int) := by omega
 have := ev_spec_l10Plains_l0 l p m f hl (by omega) (p + 1 - m).toNat m.toNat [] (by omega) (by simp; omega)
 rw [← e] at this
 exact this

theorem ev_spec_BestPlain_l0 (l : List Int) (p m f : Int) (L : List S67) (hL : L.length ≤ 100) (d : Nat) : ∀ (i b : Nat), i + d = L.length → b < L.length → Ev (fun k => spec_BestPlain.l0 k L (b : Int) (i : Int) l p m f) (wrap64 (m + (bestA2 L d i b : Nat)), true) := by
 induction d with
 | zero =>
  intro i b hi hb
  refine ev_succ ?_
  have h1 : ¬ (i : Int) < (L.length : Int) := by omega
  simp only [spec_BestPlain.l0, h1, ↓reduceIte, bestA2]
  exact Ev.now _
 | succ d ih =>
  intro i b hi hb
  refine ev_succ ?_
  have h1 : (i : Int) < (L.length : Int) := by omega
  have h0 : (0 : Int) ≤ (i : Int) := by omega
  have h2 : (0 : Int) ≤ (b : Int) := by omega
  have h3 : (b : Int) < (L.length : Int) := by omega
  simp only [spec_BestPlain.l0, h0, h1, h2, h3, ↓reduceIte, bestA2, w64_nat (show i < L.length by omega) (by omega : L.length ≤ 9223372036854775807)]
  refine ev_ite (fun h => ?_) (fun h => ?_)
  ·rw [if_pos h]; exact ih (i + 1) i (by omega) (by omega)
  ·rw [if_neg h]; exact ih (i + 1) b (by omega) hb
theorem ev_spec_BestPlain (l : List Int) (p m f : Int) (hl : l.length ≤ 9223372036854775807) : Ev (fun k => spec_BestPlain.f k l p m f) (bestPlainV l p m f) := by
 unfold spec_BestPlain.f bestPlainV
 refine Ev.bind (ev_spec_l10Market l p m f hl) ?_
 refine ev_ite (fun h => ?_) (fun h => ?_)
 ·rw [if_pos h]
  refine Ev.bind (ev_spec_l10Plains l p m f hl h) ?_
  have hm := marketB_mem h
  have hL : 0 < (plainsV l p m f).length := by simp only [plainsV, mapFrom_length]; omega
  have hL2 : (plainsV l p m f).length ≤ 100 := by simp only [plainsV, mapFrom_length]; omega
  generalize plainsV l p m f = L at hL hL2
  exact ev_spec_BestPlain_l0 l p m f L hL2 (L.length - 1) 1 0 (by omega) (by omega)
 ·rw [if_neg h]; exact Ev.now _

theorem impl_within_f (a b c : Int) : impl_within.f a b c = some (inB a b c) := by
 unfold impl_within.f inB
 by_cases h : a ≥ b
 ·rw [if_pos h]; congr 1; rw [decide_eq_decide]; omega
 ·rw [if_neg h]; congr 1; symm; rw [decide_eq_false_iff_not]; omega

theorem ev_impl_allWithin_l0 (a b : Int) (l : List Int) (hl : l.length ≤ 9223372036854775807) (d : Nat) : ∀ i : Nat, i + d = l.length → Ev (fun k => impl_allWithin.l0 k a b l (l.length : Int) (i : Int)) (allB (l.drop i) a b) := by
 induction d with
 | zero =>
  intro i hi
  refine ev_succ ?_
  have h1 : ¬ (i : Int) < (l.length : Int) := by omega
  simp only [impl_allWithin.l0, h1, ↓reduceIte]
  rw [List.drop_eq_nil_of_le (by omega)]
  exact Ev.now _
 | succ d ih =>
  intro i hi
  refine ev_succ ?_
  have h1 : (i : Int) < (l.length : Int) := by omega
  have h0 : (0 : Int) ≤ (i : Int) := by omega
  have hi' : i < l.length := by omega
  simp only [impl_allWithin.l0, h1, h0, ↓reduceIte, impl_within_f, Option.bind_some, rd_nat hi', w64_nat hi' hl]
  rw [drop_cons hi']
  show Ev _ (inB l[i] a b && allB (l.drop (i + 1)) a b)
  cases inB l[i] a b with
  | true => simpa using ih (i + 1) (by omega)
  | false => simpa using Ev.now false
theorem ev_impl_allWithin (l : List Int) (a b : Int) (hl : l.length ≤ 9223372036854775807) : Ev (fun k => impl_allWithin.f k l a b) (allB l a b) := by
 unfold impl_allWithin.f
 simpa using ev_impl_allWithin_l0 a b l hl l.length 0 (by omega)

theorem ev_impl_total_l0 (l : List Int) (hl : l.length ≤ 9223372036854775807) (d : Nat) : ∀ (i : Nat) (s : Int), i + d = l.length → wrap64 s = s → Ev (fun k => impl_total.l0 k s l (l.length : Int) (i : Int)) (wrap64 (s + (l.drop i).sum)) := by
 induction d with
 | zero =>
  intro i s hi hs
  refine ev_succ ?_
  have h1 : ¬ (i : Int) < (l.length : Int) := by omega
  simp only [impl_total.l0, h1, ↓reduceIte]
  rw [List.drop_eq_nil_of_le (by omega)]
  simp only [List.sum_nil, Int.add_zero, hs]
  exact Ev.now _
 | succ d ih =>
  intro i s hi hs
  refine ev_succ ?_
  have h1 : (i : Int) < (l.length : Int) := by omega
  have h0 : (0 : Int) ≤ (i : Int) := by omega
  have hi' : i < l.length := by omega
  simp only [impl_total.l0, h1, h0, ↓reduceIte, rd_nat hi', w64_nat hi' hl]
  refine ev_eq (ih (i + 1) _ (by omega) (w64_idem _)) ?_
  rw [drop_cons hi', List.sum_cons, w64_add_l, Int.add_assoc]
theorem ev_impl_total (l : List Int) (hl : l.length ≤ 9223372036854775807) : Ev (fun k => impl_total.f k l) (wrap64 l.sum) := by
 unfold impl_total.f
 simpa using ev_impl_total_l0 l hl l.length 0 0 (by omega) w64_zero

theorem ev_impl_IsMarket (l : List Int) (p m f : Int) (hl : l.length ≤ 9223372036854775807) : Ev (fun k => impl_IsMarket.f k l p m f) (marketB l p m f) := by
 unfold impl_IsMarket.f marketB
 simp only [impl_within_f, Option.bind_some]
 refine ev_ite (fun h1 => ?_) (fun h1 => ?_)
 ·refine Ev.bind (ev_impl_allWithin l 0 4 hl) ?_
  refine ev_ite (fun h2 => ?_) (fun h2 => ?_)
  ·refine Ev.bind (ev_impl_total l hl) ?_
   refine ev_ite (fun h3 => ?_) (fun h3 => ?_)
   ·refine ev_eq (ev_pure (x := _) (r := inB p 1 99 && (inB m 0 p && inB f 0 m)) ?_) ?_
    ·cases inB p 1 99 <;> cases inB m 0 p <;> rfl
    ·simp [h1, h2, h3]
   ·exact ev_eq (Ev.now _) (by simp [h3])
  ·exact ev_eq (Ev.now _) (by simp [h2])
 ·exact ev_eq (Ev.now _) (by simp [h1])

theorem ev_impl_Market_sales_l0 (l : List Int) (q : Int) (hl : l.length ≤ 9223372036854775807) (d : Nat) : ∀ (i : Nat) (s : Int), i + d = l.length → wrap64 s = s → Ev (fun k => impl_Market_sales.l0 k q s l (l.length : Int) (i : Int)) (wrap64 (s + sFrom q (l.drop i) i)) := by
 induction d with
 | zero =>
  intro i s hi hs
  refine ev_succ ?_
  have h1 : ¬ (i : Int) < (l.length : Int) := by omega
  simp only [impl_Market_sales.l0, h1, ↓reduceIte]
  rw [List.drop_eq_nil_of_le (by omega)]
  simp only [sFrom, Int.add_zero, hs]
  exact Ev.now _
 | succ d ih =>
  intro i s hi hs
  refine ev_succ ?_
  have h1 : (i : Int) < (l.length : Int) := by omega
  have h0 : (0 : Int) ≤ (i : Int) := by omega
  have hi' : i < l.length := by omega
  simp only [impl_Market_sales.l0, h1, h0, ↓reduceIte, rd_nat hi', w64_nat hi' hl, w64_add_r]
  refine ev_eq (ih (i + 1) _ (by omega) (w64_idem _)) ?_
  rw [drop_cons hi', sFrom, w64_add_l, Int.add_assoc]
theorem ev_impl_Market_sales (l : List Int) (p m f q : Int) (hl : l.length ≤ 9223372036854775807) : Ev (fun k => impl_Market_sales.f k l p m f q) (wrap64 (salesS l q)) := by
 unfold impl_Market_sales.f
 simpa [salesS] using ev_impl_Market_sales_l0 l q hl l.length 0 0 (by omega) w64_zero

theorem ev_impl_Market_rest (l : List Int) (p m f q : Int) (hl : l.length ≤ 9223372036854775807) : Ev (fun k => impl_Market_rest.f k l p m f q) (wrap64 (l.sum * q - salesS l q)) := by
 unfold impl_Market_rest.f
 refine Ev.bind (ev_impl_total l hl) ?_
 refine Ev.bind (ev_impl_Market_sales l p m f q hl) ?_
 exact ev_eq (Ev.now _) (by simp only [w64_mul_l, w64_mul_r, w64_add_l, w64_add_r, w64_sub_l, w64_sub_r])

theorem ev_impl_Market_seller (l : List Int) (p m f a b c q : Int) (hl : l.length ≤ 9223372036854775807) : Ev (fun k => impl_Market_seller.f k l p m f a b c q) (wrap64 (sellerP l p m f a b c q)) := by
 unfold impl_Market_seller.f sellerP
 refine Ev.bind (ev_impl_Market_sales l p m f q hl) ?_
 refine Ev.bind (ev_impl_Market_rest l p m f q hl) ?_
 refine Ev.bind (ev_impl_total l hl) ?_
 refine ev_eq (Ev.now _) ?_
 simp only [w64_mul_l, w64_mul_r, w64_add_l, w64_add_r, w64_sub_l, w64_sub_r]
 congr 1
 grind

theorem ev_impl_Market_maker (l : List Int) (p m f a b c q : Int) (hl : l.length ≤ 9223372036854775807) : Ev (fun k => impl_Market_maker.f k l p m f a b c q) (wrap64 (makerP l p m f a b c q)) := by
 unfold impl_Market_maker.f makerP
 refine Ev.bind (ev_impl_Market_sales l p m f q hl) ?_
 refine Ev.bind (ev_impl_total l hl) ?_
 refine Ev.bind (ev_impl_Market_rest l p m f q hl) ?_
 refine ev_eq (Ev.now _) ?_
 simp only [w64_mul_l, w64_mul_r, w64_add_l, w64_add_r, w64_sub_l, w64_sub_r]
 congr 1
 grind

theorem ev_impl_Market_joint (l : List Int) (p m f q : Int) (hl : l.length ≤ 9223372036854775807) : Ev (fun k => impl_Market_joint.f k l p m f q) (wrap64 (jointP l p m f q)) := by
 unfold impl_Market_joint.f jointP
 refine Ev.bind (ev_impl_Market_seller l p m f 0 0 0 q hl) ?_
 refine Ev.bind (ev_impl_Market_maker l p m f 0 0 0 q hl) ?_
 refine ev_eq (Ev.now _) ?_
 simp only [w64_add_l, w64_add_r, sellerP, makerP]
 congr 1
 grind

theorem ev_impl_Market_sellerOrder_loop (l : List Int) (p m f a b c : Int) (hl : l.length ≤ 9223372036854775807) (d : Nat) : ∀ (q : Nat) (best : Int), q + d = 9 → Ev (fun k => impl_Market_sellerOrder.m0 k l p m f a b c best (q : Int)) (mostV (fun q => wrap64 (sellerP l p m f a b c q)) d best (q : Int)) := by
 induction d with
 | zero =>
  intro q best hq
  refine ev_succ ?_
  have h1 : ¬ (q : Int) ≤ 8 := by omega
  simp only [impl_Market_sellerOrder.m0, h1, ↓reduceIte]
  exact Ev.now _
 | succ d ih =>
  intro q best hq
  refine ev_succ ?_
  have h1 : (q : Int) ≤ 8 := by omega
  simp only [impl_Market_sellerOrder.m0, h1, ↓reduceIte, w64_nat (show q < 9 by omega) (by omega)]
  refine Ev.bind (ev_impl_Market_seller l p m f a b c (q : Int) hl) ?_
  refine Ev.bind (ev_impl_Market_seller l p m f a b c best hl) ?_
  rw [mostV]
  have e : ((q + 1 : Nat) : Int) = (q : Int) + 1 := by omega
  rw [← e]
  refine ev_ite (fun h => ?_) (fun h => ?_)
  ·rw [if_pos h]; exact ih (q + 1) _ (by omega)
  ·rw [if_neg h]; exact ih (q + 1) _ (by omega)
theorem ev_impl_Market_sellerOrder (l : List Int) (p m f a b c : Int) (hl : l.length ≤ 9223372036854775807) : Ev (fun k => impl_Market_sellerOrder.f k l p m f a b c) (soldV l p m f a b c) := by
 unfold impl_Market_sellerOrder.f soldV
 exact ev_impl_Market_sellerOrder_loop l p m f a b c hl 8 1 0 (by omega)

theorem ev_impl_Market_plain_l0 (l : List Int) (p m f : Int) (hl : l.length ≤ 9223372036854775807) (hp : p ≤ 99) (d : Nat) : ∀ (j : Nat) (o : List S67), (j : Int) + d = p + 1 → o.length + d ≤ 1000 → Ev (fun k => impl_Market_plain.l0 k o (j : Int) l p m f) (o ++ mapFrom (plainAt l p m f) d j) := by
 induction d with
 | zero =>
  intro j o hj ho
  refine ev_succ ?_
  have h1 : ¬ (j : Int) ≤ p := by omega
  simp only [impl_Market_plain.l0, h1, ↓reduceIte, mapFrom, List.append_nil]
  exact Ev.now _
 | succ d ih =>
  intro j o hj ho
  refine ev_succ ?_
  have h1 : (j : Int) ≤ p := by omega
  have h4 : o.length < 8796093022208 := by omega
  have e1 : wrap64 ((j : Int) + 1) = ((j + 1 : Nat) : Int) := by rw [w64 (by omega) (by omega)]; omega
  simp only [impl_Market_plain.l0, h1, h4, e1, ↓reduceIte]
  refine Ev.bind (ev_impl_Market_sellerOrder l p m f (j : Int) 0 100 hl) ?_
  refine Ev.bind (ev_impl_Market_maker l p m f (j : Int) 0 100 _ hl) ?_
  refine ev_eq (ih (j + 1) _ (by omega) (by simp; omega)) ?_
  rw [mapFrom, List.append_assoc]
  rfl
theorem ev_impl_Market_plain (l : List Int) (p m f : Int) (hl : l.length ≤ 9223372036854775807) (h : marketB l p m f = true) : Ev (fun k => impl_Market_plain.f k l p m f) (plainsV l p m f) := by
 unfold impl_Market_plain.f plainsV
 have hm := marketB_mem h
 have e : m = ((m.toNat : Nat) : Int) := by omega
 have := ev_impl_Market_plain_l0 l p m f hl (by omega) (p + 1 - m).toNat m.toNat [] (by omega) (by simp; omega)
 rw [← e] at this
 exact this

theorem ev_impl_BestPlain_l0 (l : List Int) (p m f : Int) (L : List S67) (hL : L.length ≤ 100) (d : Nat) : ∀ (i b : Nat), i + d = L.length → b < L.length → Ev (fun k => impl_BestPlain.l0 k (b : Int) L L (L.length : Int) (i : Int) l p m f) (wrap64 (m + (bestA2 L d i b : Nat)), true) := by
 induction d with
 | zero =>
  intro i b hi hb
  refine ev_succ ?_
  have h1 : ¬ (i : Int) < (L.length : Int) := by omega
  simp only [impl_BestPlain.l0, h1, ↓reduceIte, bestA2]
  exact Ev.now _
 | succ d ih =>
  intro i b hi hb
  refine ev_succ ?_
  have h1 : (i : Int) < (L.length : Int) := by omega
  have h0 : (0 : Int) ≤ (i : Int) := by omega
  have h2 : (0 : Int) ≤ (b : Int) := by omega
  have h3 : (b : Int) < (L.length : Int) := by omega
  simp only [impl_BestPlain.l0, h0, h1, h2, h3, ↓reduceIte, bestA2, w64_nat (show i < L.length by omega) (by omega : L.length ≤ 9223372036854775807)]
  refine ev_ite (fun h => ?_) (fun h => ?_)
  ·rw [if_pos h]; exact ih (i + 1) i (by omega) (by omega)
  ·rw [if_neg h]; exact ih (i + 1) b (by omega) hb
theorem ev_impl_BestPlain (l : List Int) (p m f : Int) (hl : l.length ≤ 9223372036854775807) : Ev (fun k => impl_BestPlain.f k l p m f) (bestPlainV l p m f) := by
 unfold impl_BestPlain.f bestPlainV
 refine Ev.bind (ev_impl_IsMarket l p m f hl) ?_
 refine ev_ite (fun h => ?_) (fun h => ?_)
 ·rw [if_pos h]
  refine Ev.bind (ev_impl_Market_plain l p m f hl h) ?_
  have hm := marketB_mem h
  have hL : 0 < (plainsV l p m f).length := by simp only [plainsV, mapFrom_length]; omega
  have hL2 : (plainsV l p m f).length ≤ 100 := by simp only [plainsV, mapFrom_length]; omega
  generalize plainsV l p m f = L at hL hL2
  obtain ⟨n, hn⟩ : ∃ n, L.length = n + 1 := ⟨L.length - 1, by omega⟩
  refine ev_eq (ev_impl_BestPlain_l0 l p m f L hL2 (n + 1) 0 0 (by omega) (by omega)) ?_
  rw [bestA2, if_neg (by omega), hn]
  rfl
 ·rw [if_neg h]; exact Ev.now _

theorem ev_spec_PlainContracts (l : List Int) (p m f : Int) (hl : l.length ≤ 9223372036854775807) : Ev (fun k => spec_PlainContracts.f k l p m f) (plainV l p m f) := by
 unfold spec_PlainContracts.f plainV
 refine Ev.bind (ev_spec_l10Market l p m f hl) ?_
 refine ev_ite (fun h => ?_) (fun h => ?_)
 ·rw [if_pos h]
  refine Ev.bind (ev_spec_l10Plains l p m f hl h) ?_
  exact Ev.now _
 ·rw [if_neg h]; exact Ev.now _

theorem ev_impl_PlainContracts (l : List Int) (p m f : Int) (hl : l.length ≤ 9223372036854775807) : Ev (fun k => impl_PlainContracts.f k l p m f) (plainV l p m f) := by
 unfold impl_PlainContracts.f plainV
 refine Ev.bind (ev_impl_IsMarket l p m f hl) ?_
 refine ev_ite (fun h => ?_) (fun h => ?_)
 ·rw [if_pos h]
  refine Ev.bind (ev_impl_Market_plain l p m f hl h) ?_
  exact Ev.now _
 ·rw [if_neg h]; exact Ev.now _

def oV_JointOrder (l : List Int) (p m f : Int) : Int × Bool := if marketB l p m f = true then (bestV l p m f, true) else (0, false)

theorem ev_impl_mostOrder_loop (l : List Int) (p m f : Int) (hl : l.length ≤ 9223372036854775807) (d : Nat) : ∀ (q : Nat) (best : Int), q + d = 9 → Ev (fun k => impl_mostOrder.m0 k l p m f best (q : Int)) (mostV (fun q => wrap64 (jointP l p m f q)) d best (q : Int)) := by
 induction d with
 | zero =>
  intro q best hq
  refine ev_succ ?_
  have h1 : ¬ (q : Int) ≤ 8 := by omega
  simp only [impl_mostOrder.m0, h1, ↓reduceIte]
  exact Ev.now _
 | succ d ih =>
  intro q best hq
  refine ev_succ ?_
  have h1 : (q : Int) ≤ 8 := by omega
  simp only [impl_mostOrder.m0, h1, ↓reduceIte, w64_nat (show q < 9 by omega) (by omega)]
  refine Ev.bind (ev_impl_Market_joint l p m f (q : Int) hl) ?_
  refine Ev.bind (ev_impl_Market_joint l p m f best hl) ?_
  rw [mostV]
  have e : ((q + 1 : Nat) : Int) = (q : Int) + 1 := by omega
  rw [← e]
  refine ev_ite (fun h => ?_) (fun h => ?_)
  ·rw [if_pos h]; exact ih (q + 1) _ (by omega)
  ·rw [if_neg h]; exact ih (q + 1) _ (by omega)
theorem ev_impl_mostOrder (l : List Int) (p m f : Int) (hl : l.length ≤ 9223372036854775807) : Ev (fun k => impl_mostOrder.m0 k l p m f 0 1) (bestV l p m f) := by
 unfold bestV
 exact ev_impl_mostOrder_loop l p m f hl 8 1 0 (by omega)

theorem ev_impl_JointOrder (l : List Int) (p m f : Int) (hl : l.length ≤ 9223372036854775807) : Ev (fun k => impl_JointOrder.f k l p m f) (oV_JointOrder l p m f) := by
 unfold impl_JointOrder.f oV_JointOrder
 refine Ev.bind (ev_impl_IsMarket l p m f hl) ?_
 refine ev_ite (fun h => ?_) (fun h => ?_)
 ·refine Ev.bind (ev_impl_mostOrder l p m f hl) ?_
  rw [if_pos h]; exact Ev.now _
 ·rw [if_neg h]; exact Ev.now _

theorem impl_IsContract_f (a b c : Int) : impl_IsContract.f a b c = some (contractB a b c) := by
 unfold impl_IsContract.f contractB
 simp only [impl_within_f, Option.bind_some]
 cases inB a 0 99 <;> cases inB b 0 99 <;> rfl

theorem ev_impl_isSale (l : List Int) (p m f q : Int) (hl : l.length ≤ 9223372036854775807) : Ev (fun k => impl_isSale.f k l p m f q) (marketB l p m f && inB q 0 8) := by
 unfold impl_isSale.f
 simp only [impl_within_f, Option.bind_some]
 refine Ev.bind (ev_impl_IsMarket l p m f hl) ?_
 refine ev_ite (fun h => ?_) (fun h => ?_)
 ·exact ev_eq (Ev.now _) (by simp [h])
 ·exact ev_eq (Ev.now _) (by simp [h])

def oV_SellerProfit (l : List Int) (p m f a b c q : Int) : Int × Bool := if (marketB l p m f && contractB a b c && inB q 0 8) = true then (wrap64 (sellerP l p m f a b c q), true) else (0, false)

theorem ev_impl_SellerProfit (l : List Int) (p m f a b c q : Int) (hl : l.length ≤ 9223372036854775807) : Ev (fun k => impl_SellerProfit.f k l p m f a b c q) (oV_SellerProfit l p m f a b c q) := by
 unfold impl_SellerProfit.f oV_SellerProfit
 simp only [impl_IsContract_f, Option.bind_some]
 refine Ev.bind (ev_impl_isSale l p m f q hl) ?_
 refine ev_ite (fun h => ?_) (fun h => ?_)
 ·rw [Bool.and_eq_true] at h
  refine ev_ite (fun h2 => ?_) (fun h2 => ?_)
  ·refine Ev.bind (ev_impl_Market_seller l p m f a b c q hl) ?_
   exact ev_eq (Ev.now _) (by rw [h.1, h.2, h2]; rfl)
  ·exact ev_eq (Ev.now _) (by simp [h2])
 ·refine ev_eq (Ev.now _) ?_
  rw [if_neg]
  intro hc
  simp only [Bool.and_eq_true] at hc
  exact h (by rw [hc.1.1, hc.2]; rfl)

def oV_JointProfit (l : List Int) (p m f q : Int) : Int × Bool := if (marketB l p m f && inB q 0 8) = true then (wrap64 (jointP l p m f q), true) else (0, false)

theorem ev_impl_JointProfit (l : List Int) (p m f q : Int) (hl : l.length ≤ 9223372036854775807) : Ev (fun k => impl_JointProfit.f k l p m f q) (oV_JointProfit l p m f q) := by
 unfold impl_JointProfit.f oV_JointProfit
 refine Ev.bind (ev_impl_isSale l p m f q hl) ?_
 refine ev_ite (fun h => ?_) (fun h => ?_)
 ·refine Ev.bind (ev_impl_Market_joint l p m f q hl) ?_
  rw [if_pos h]
  exact Ev.now _
 ·rw [if_neg h]
  exact Ev.now _

theorem and255 (x : Int) : 0 ≤ Go.bits .and .u64 x 255 ∧ Go.bits .and .u64 x 255 ≤ 255 := by
 have h : (BitVec.ofInt 64 x &&& BitVec.ofInt 64 255).toNat ≤ 255 := by
  rw [BitVec.toNat_and]
  exact Nat.le_trans Nat.and_le_right (by decide)
 show 0 ≤ IntKind.u64.wrap ((BitVec.ofInt 64 x &&& BitVec.ofInt 64 255).toNat : Int) ∧ IntKind.u64.wrap ((BitVec.ofInt 64 x &&& BitVec.ofInt 64 255).toNat : Int) ≤ 255
 rw [IntKind.wrap_u64]
 omega
def codeOk (l : List Int) : Prop := ∀ x ∈ l, 0 ≤ x ∧ x ≤ 255
def atOk (a : Int) : Prop := 0 ≤ a ∧ a ≤ 1000000000000
theorem atOk_more {a a' : Int} {n : Int} (h : 0 ≤ a ∧ a ≤ 100000000) (h2 : a ≤ a' ∧ a' ≤ a + n) (hn : n ≤ 1000000) : atOk a' := by unfold atOk; omega

theorem spec_l1Cur_next_ok (l : List Int) (a sd : Int) (hl : codeOk l) (ha : atOk a) : ∃ b s', spec_l1Cur_next.f l a sd = some (b, a + 1, s') ∧ 0 ≤ b ∧ b ≤ 255 := by
 unfold atOk at ha
 have e : wrap64 (a + 1) = a + 1 := w64 (by omega) (by omega)
 unfold spec_l1Cur_next.f
 rw [e]
 by_cases h : a < (l.length : Int)
 ·have hr : 0 ≤ rd l a ∧ rd l a ≤ 255 := by
   obtain ⟨i, hi⟩ : ∃ i : Nat, a = (i : Int) := ⟨a.toNat, by omega⟩
   subst hi
   rw [rd_nat (by omega)]
   exact hl _ (List.getElem_mem _)
  rw [if_pos h, if_pos ha.1]
  by_cases h2 : a + 1 ≤ (l.length : Int)
  ·rw [if_pos h2]
   exact ⟨_, _, rfl, by rw [w64 (by omega) (by omega)]; omega, by rw [w64 (by omega) (by omega)]; omega⟩
  ·omega
 ·rw [if_neg h]
  by_cases h2 : a + 1 ≤ (l.length : Int)
  ·omega
  ·rw [if_neg h2]
   generalize hx : (_ : Int) / 1099511627776 = x
   have := and255 x
   refine ⟨_, _, rfl, ?_, ?_⟩ <;> (rw [w64 (by omega) (by omega)]; omega)

theorem spec_l1Cur_pick_ok (l : List Int) (a sd n : Int) (hl : codeOk l) (ha : 0 ≤ a ∧ a ≤ 1000000000) (hn : 1 ≤ n ∧ n ≤ 1000000) : ∃ r a' s', spec_l1Cur_pick.f l a sd n = some (r, a', s') ∧ (0 ≤ r ∧ r < n) ∧ (a ≤ a' ∧ a' ≤ a + 2) := by
 unfold spec_l1Cur_pick.f
 by_cases h1 : n ≤ 1
 ·rw [if_pos h1]
  exact ⟨_, _, _, rfl, ⟨by omega, by omega⟩, by omega, by omega⟩
 ·rw [if_neg h1]
  obtain ⟨b, s1, e1, hb1, hb2⟩ := spec_l1Cur_next_ok l a sd hl (by unfold atOk; omega)
  rw [e1, Option.bind_some]
  by_cases h2 : n > 200
  ·rw [if_pos h2]
   obtain ⟨b2, s2, e2, hc1, hc2⟩ := spec_l1Cur_next_ok l (a + 1) s1 hl (by unfold atOk; omega)
   dsimp only
   rw [e2, Option.bind_some, if_neg (by omega)]
   dsimp only
   rw [w64 (x := b * 256) (by omega) (by omega), w64 (x := b * 256 + b2) (by omega) (by omega)]
   exact ⟨_, _, _, rfl, ⟨Int.tmod_nonneg _ (by omega), Int.tmod_lt_of_pos _ (by omega)⟩, by omega, by omega⟩
  ·rw [if_neg h2, if_neg (by omega)]
   exact ⟨_, _, _, rfl, ⟨Int.tmod_nonneg _ hb1, Int.tmod_lt_of_pos _ (by omega)⟩, by dsimp only; omega, by dsimp only; omega⟩

theorem spec_l1Cur_among_ok (l : List Int) (a sd : Int) (L : List Int) (hl : codeOk l) (ha : 0 ≤ a ∧ a ≤ 1000000000) (hL : 1 ≤ L.length ∧ L.length ≤ 1000) : ∃ v a' s', spec_l1Cur_among.f l a sd L = some (v, a', s') ∧ v ∈ L ∧ (a ≤ a' ∧ a' ≤ a + 2) := by
 obtain ⟨r, a', s', e, hr, ha2⟩ := spec_l1Cur_pick_ok l a sd (L.length : Int) hl ha (by omega)
 unfold spec_l1Cur_among.f
 rw [e, Option.bind_some]
 dsimp only
 rw [if_pos hr.1, if_pos hr.2]
 obtain ⟨i, hi⟩ : ∃ i : Nat, r = (i : Int) := ⟨r.toNat, by omega⟩
 subst hi
 exact ⟨_, _, _, rfl, by rw [rd_nat (by omega)]; exact List.getElem_mem _, ha2⟩

theorem ev_spec_l1Cur_market_l1 (l : List Int) (a sd p m f : Int) (d : Nat) : ∀ U : List Int, U.length ≤ 100 → 10 ≤ U.length + d → ∃ V, Ev (fun k => spec_l1Cur_market.l1 k l a sd U p m f) (V, p, m, f, a, sd) ∧ V.length ≤ U.length + d := by
 induction d with
 | zero =>
  intro U hU hd
  refine ⟨U, ev_succ ?_, by omega⟩
  have h1 : ¬ (U.length : Int) < 10 := by omega
  simp only [spec_l1Cur_market.l1, h1, ↓reduceIte]
  exact Ev.now _
 | succ d ih =>
  intro U hU hd
  by_cases h1 : (U.length : Int) < 10
  ·obtain ⟨V, h2, h3⟩ := ih (U ++ [1]) (by simp; omega) (by simp; omega)
   rw [List.length_append, List.length_singleton] at h3
   refine ⟨V, ev_succ ?_, by omega⟩
   simp only [spec_l1Cur_market.l1, h1, ↓reduceIte]
   exact ev_yes (by omega) h2
  ·refine ⟨U, ev_succ ?_, by omega⟩
   simp only [spec_l1Cur_market.l1, h1, ↓reduceIte]
   exact Ev.now _
theorem ev_spec_l1Cur_market_j1 (l : List Int) (hl : codeOk l) (a sd p m f : Int) (U : List Int) (hU : 0 < U.length ∧ U.length ≤ 60) (ha0 : 0 ≤ a) (ha1 : a ≤ 100000000) (hp : 0 ≤ p ∧ p ≤ 1000) : ∃ V p' m' f' a' s', Ev (fun k => spec_l1Cur_market.j1 k l a sd U p m f) (V, p', m', f', a', s') ∧ V.length ≤ 80 ∧ (0 ≤ p' ∧ p' ≤ 1000) ∧ (a ≤ a' ∧ a' ≤ a + 4) := by
 obtain ⟨r, a1, s1, e1, hr, ha2⟩ := spec_l1Cur_pick_ok l a sd 40 hl (by omega) (by omega)
 by_cases c0 : r = 0
 ·obtain ⟨v, a2, s2, e2, hv, ha3⟩ := spec_l1Cur_among_ok l a1 s1 [0, 99, 100] hl (by omega) (by simp)
  refine ⟨U, v, m, f, a2, s2, ev_succ ?_, ?_, ?_, ?_⟩
  ·simp only [spec_l1Cur_market.j1, e1, Option.bind_some, c0, if_true, e2]
   exact Ev.now _
  ·omega
  ·simp at hv; omega
  ·omega
 ·by_cases c1 : r = 1
  ·obtain ⟨v, a2, s2, e2, hv, ha3⟩ := spec_l1Cur_among_ok l a1 s1 [(-1), p, wrap64 (p + 1)] hl (by omega) (by simp)
   have c10 : ¬ (1 : Int) = 0 := by omega
   refine ⟨U, p, v, f, a2, s2, ev_succ ?_, ?_, ?_, ?_⟩
   ·simp only [spec_l1Cur_market.j1, e1, Option.bind_some, c1, c10, if_true, if_false, e2]
    exact Ev.now _
   ·omega
   ·exact hp
   ·omega
  ·by_cases c2 : r = 2
   ·obtain ⟨v, a2, s2, e2, hv, ha3⟩ := spec_l1Cur_among_ok l a1 s1 [(-1), m, wrap64 (m + 1)] hl (by omega) (by simp)
    have c10 : ¬ (2 : Int) = 0 := by omega
    have c11 : ¬ (2 : Int) = 1 := by omega
    refine ⟨U, p, m, v, a2, s2, ev_succ ?_, ?_, ?_, ?_⟩
    ·simp only [spec_l1Cur_market.j1, e1, Option.bind_some, c2, c10, c11, if_true, if_false, e2]
     exact Ev.now _
    ·omega
    ·exact hp
    ·omega
   ·by_cases c3 : r = 3
    ·obtain ⟨v, a2, s2, e2, hv, ha3⟩ := spec_l1Cur_among_ok l a1 s1 [(-1), 5] hl (by omega) (by simp)
     have c10 : ¬ (3 : Int) = 0 := by omega
     have c11 : ¬ (3 : Int) = 1 := by omega
     have c12 : ¬ (3 : Int) = 2 := by omega
     have c13 : 0 < (U.length : Int) := by omega
     refine ⟨U.set (0 : Int).toNat v, p, m, f, a2, s2, ev_succ ?_, by rw [List.length_set]; omega, hp, by omega⟩
     simp only [spec_l1Cur_market.j1, e1, Option.bind_some, c3, c10, c11, c12, c13, if_true, if_false, e2]
     exact Ev.now _
    ·by_cases c4 : r = 4
     ·obtain ⟨V, h2, h3⟩ := ev_spec_l1Cur_market_l1 l a1 s1 p m f 10 U (by omega) (by omega)
      have c10 : ¬ (4 : Int) = 0 := by omega
      have c11 : ¬ (4 : Int) = 1 := by omega
      have c12 : ¬ (4 : Int) = 2 := by omega
      have c13 : ¬ (4 : Int) = 3 := by omega
      refine ⟨V, p, m, f, a1, s1, ev_succ ?_, by omega, hp, by omega⟩
      simp only [spec_l1Cur_market.j1, e1, Option.bind_some, c4, c10, c11, c12, c13, if_true, if_false]
      exact h2
     ·refine ⟨U, p, m, f, a1, s1, ev_succ ?_, by omega, hp, by omega⟩
      simp only [spec_l1Cur_market.j1, e1, Option.bind_some, c0, c1, c2, c3, c4, if_false]
      exact Ev.now _
theorem ev_spec_l1Cur_market_l0 (l : List Int) (hl : codeOk l) (p m f : Int) (hp : 0 ≤ p ∧ p ≤ 1000) (d : Nat) : ∀ (n a sd : Int) (U : List Int), n ≤ d → U.length + d ≤ 40 → (0 < U.length ∨ 0 < n) → 0 ≤ a → a + 2 * (d : Int) ≤ 10000000 → ∃ V p' m' f' a' s', Ev (fun k => spec_l1Cur_market.l0 k n l a sd U p m f) (V, p', m', f', a', s') ∧ V.length ≤ 80 ∧ (0 ≤ p' ∧ p' ≤ 1000) ∧ (a ≤ a' ∧ a' ≤ a + 2 * (d : Int) + 4) := by
 have fin : ∀ (n a sd : Int) (U : List Int), ¬ n > 0 → U.length ≤ 40 → (0 < U.length ∨ 0 < n) → 0 ≤ a → a ≤ 10000000 → ∃ V p' m' f' a' s', Ev (fun k => spec_l1Cur_market.l0 k n l a sd U p m f) (V, p', m', f', a', s') ∧ V.length ≤ 80 ∧ (0 ≤ p' ∧ p' ≤ 1000) ∧ (a ≤ a' ∧ a' ≤ a + 4) := by
  intro n a sd U c hU hpos ha hb
  have hs := ev_spec_l2Sum U (by omega)
  by_cases hz : wrap64 U.sum = 0
  ·obtain ⟨V, p', m', f', a', s', h1, h2, h3, h4⟩ := ev_spec_l1Cur_market_j1 l hl a sd p m f (U.set (0 : Int).toNat 1) (by rw [List.length_set]; omega) ha (by omega) hp
   refine ⟨V, p', m', f', a', s', ev_succ ?_, h2, h3, h4⟩
   simp only [spec_l1Cur_market.l0, c, ↓reduceIte]
   refine Ev.bind hs ?_
   simp only [hz, if_true]
   exact ev_yes (by omega) h1
  ·obtain ⟨V, p', m', f', a', s', h1, h2, h3, h4⟩ := ev_spec_l1Cur_market_j1 l hl a sd p m f U (by omega) ha (by omega) hp
   refine ⟨V, p', m', f', a', s', ev_succ ?_, h2, h3, h4⟩
   simp only [spec_l1Cur_market.l0, c, ↓reduceIte]
   refine Ev.bind hs ?_
   simp only [hz, if_false]
   exact h1
 induction d with
 | zero =>
  intro n a sd U hn hd hpos ha hb
  obtain ⟨V, p', m', f', a', s', h1, h2, h3, h4⟩ := fin n a sd U (by omega) (by omega) hpos ha (by omega)
  exact ⟨V, p', m', f', a', s', h1, h2, h3, by omega⟩
 | succ d ih =>
  intro n a sd U hn hd hpos ha hb
  by_cases c : n > 0
  ·obtain ⟨v, a1, s1, e1, hv, ha2⟩ := spec_l1Cur_among_ok l a sd [1, 2, 1, 0, 3, 4] hl (by omega) (by simp)
   obtain ⟨V, p', m', f', a', s', h1, h2, h3, h4⟩ := ih (n - 1) a1 s1 (U ++ [v]) (by omega) (by simp; omega) (Or.inl (by simp)) (by omega) (by omega)
   refine ⟨V, p', m', f', a', s', ev_succ ?_, h2, h3, by omega⟩
   have e2 : wrap64 (n - 1) = n - 1 := w64 (by omega) (by omega)
   simp only [spec_l1Cur_market.l0, c, e1, e2, ↓reduceIte, Option.bind_some]
   exact ev_yes (by omega) h1
  ·obtain ⟨V, p', m', f', a', s', h1, h2, h3, h4⟩ := fin n a sd U c (by omega) hpos ha (by omega)
   exact ⟨V, p', m', f', a', s', h1, h2, h3, by omega⟩
theorem ev_spec_l1Cur_market (l : List Int) (a sd : Int) (hl : codeOk l) (ha : 0 ≤ a ∧ a ≤ 1000000) : ∃ U p m f a' s', Ev (fun k => spec_l1Cur_market.f k l a sd) (U, p, m, f, a', s') ∧ U.length ≤ 80 ∧ (0 ≤ p ∧ p ≤ 1000) ∧ (a ≤ a' ∧ a' ≤ a + 40) := by
 unfold spec_l1Cur_market.f
 obtain ⟨p, a1, s1, e1, hp, ha1⟩ := spec_l1Cur_among_ok l a sd [10, 12, 20, 6, 30, 99, 1] hl (by omega) (by simp)
 have hp2 : 1 ≤ p ∧ p ≤ 99 := by simp at hp; omega
 obtain ⟨x, a2, s2, e2, hx, ha2⟩ := spec_l1Cur_pick_ok l a1 s1 3 hl (by omega) (by omega)
 obtain ⟨y, a3, s3, e3, hy, ha3⟩ := spec_l1Cur_pick_ok l a2 s2 p hl (by omega) (by omega)
 obtain ⟨z, a4, s4, e4, hz, ha4⟩ := spec_l1Cur_pick_ok l a3 s3 9 hl (by omega) (by omega)
 have e5 : wrap64 (1 + z) = 1 + z := w64 (by omega) (by omega)
 obtain ⟨V, p', m', f', a', s', h1, h2, h3, h4⟩ := ev_spec_l1Cur_market_l0 l hl p (mn (wrap64 (x + y)) p) (mn (mn x p) (mn (wrap64 (x + y)) p)) (by omega) 9 (1 + z) a4 s4 [] (by omega) (by simp) (Or.inr (by omega)) (by omega) (by omega)
 simp only [e1, e2, e3, e4, e5, spec_l1Least_f, Option.bind_some]
 exact ⟨V, p', m', f', a', s', h1, h2, h3, by omega, by omega⟩

def propB (p m f a b c : Int) : Bool := if (wrap64 ((wrap64 (c * p)) - (wrap64 (100 * (wrap64 (f + b)))))) > 0 then ((wrap64 ((wrap64 ((wrap64 (c * p)) - (wrap64 (100 * (wrap64 (f + b)))))) * (wrap64 (f - m)))) == (wrap64 ((wrap64 (100 * (wrap64 ((wrap64 (f + b)) - a)))) * (wrap64 (p - f))))) else false
theorem mul_small {x y : Int} {A B : Nat} (hx : -(A : Int) ≤ x ∧ x ≤ A) (hy : -(B : Int) ≤ y ∧ y ≤ B) : -((A * B : Nat) : Int) ≤ x * y ∧ x * y ≤ ((A * B : Nat) : Int) := by
 have h1 : (x * y).natAbs ≤ A * B := by
  rw [Int.natAbs_mul]
  exact Nat.mul_le_mul (by omega) (by omega)
 omega
theorem w64_mul_small {x y : Int} (hx : -1000000000 ≤ x ∧ x ≤ 1000000000) (hy : -1000000000 ≤ y ∧ y ≤ 1000000000) : wrap64 (x * y) = x * y := by
 have := mul_small (A := 1000000000) (B := 1000000000) (x := x) (y := y) (by omega) (by omega)
 exact w64 (by omega) (by omega)
theorem propB_iff {p m f a b c : Int} (hp : 1 ≤ p ∧ p ≤ 99) (hm : 0 ≤ m ∧ m ≤ p) (hf : 0 ≤ f ∧ f ≤ m) (ha : 0 ≤ a ∧ a ≤ 99) (hb : 0 ≤ b ∧ b ≤ 99) (hc : 0 ≤ c ∧ c ≤ 100) :
  propB p m f a b c = true ↔ 0 < c * p - 100 * (f + b) ∧ (c * p - 100 * (f + b)) * (f - m) = 100 * (f + b - a) * (p - f) := by
 have e1 : wrap64 (c * p) = c * p := w64_mul_small (by omega) (by omega)
 have b1 := mul_small (A := 100) (B := 99) (x := c) (y := p) (by omega) (by omega)
 have e2 : wrap64 (f + b) = f + b := w64 (by omega) (by omega)
 have e3 : wrap64 (100 * (f + b)) = 100 * (f + b) := w64 (by omega) (by omega)
 have e4 : wrap64 (c * p - 100 * (f + b)) = c * p - 100 * (f + b) := w64 (by omega) (by omega)
 have e5 : wrap64 (f - m) = f - m := w64 (by omega) (by omega)
 have e6 : wrap64 (f + b - a) = f + b - a := w64 (by omega) (by omega)
 have e7 : wrap64 (p - f) = p - f := w64 (by omega) (by omega)
 have e8 : wrap64 (100 * (f + b - a)) = 100 * (f + b - a) := w64 (by omega) (by omega)
 have e9 : wrap64 ((c * p - 100 * (f + b)) * (f - m)) = (c * p - 100 * (f + b)) * (f - m) := w64_mul_small (by omega) (by omega)
 have e10 : wrap64 (100 * (f + b - a) * (p - f)) = 100 * (f + b - a) * (p - f) := w64_mul_small (by omega) (by omega)
 unfold propB
 rw [e1, e2, e3, e4, e5, e6, e7, e8, e9, e10]
 by_cases h : 0 < c * p - 100 * (f + b)
 ·rw [if_pos h, beq_iff_eq]
  exact ⟨fun hq => ⟨h, hq⟩, fun hq => hq.2⟩
 ·rw [if_neg h]
  exact ⟨fun hq => (by cases hq), fun hq => absurd hq.1 h⟩
theorem propB_same {p m f a b c : Int} (hp : 1 ≤ p ∧ p ≤ 99) (hm : 0 ≤ m ∧ m ≤ p) (hf : 0 ≤ f ∧ f ≤ m) (ha : 0 ≤ a ∧ a ≤ 99) (hb : 0 ≤ b ∧ b ≤ 99) (hc : 0 ≤ c ∧ c ≤ 100) (he : p = f) : propB p m f a b c = false := by
 cases h : propB p m f a b c with
 | false => rfl
 | true =>
  have h1 := ((propB_iff hp hm hf ha hb hc).1 h).1
  subst he
  have : c * p ≤ 100 * p := Int.mul_le_mul_of_nonneg_right hc.2 (by omega)
  omega
theorem propB_one {p m f a a' b c : Int} (hp : 1 ≤ p ∧ p ≤ 99) (hm : 0 ≤ m ∧ m ≤ p) (hf : 0 ≤ f ∧ f ≤ m) (ha : 0 ≤ a ∧ a ≤ 99) (ha' : 0 ≤ a' ∧ a' ≤ 99) (hb : 0 ≤ b ∧ b ≤ 99) (hc : 0 ≤ c ∧ c ≤ 100) (h : propB p m f a b c = true) (h' : propB p m f a' b c = true) : a = a' := by
 have hne : p ≠ f := by
  intro he
  rw [propB_same hp hm hf ha hb hc he] at h
  cases h
 have h1 := ((propB_iff hp hm hf ha hb hc).1 h).2
 have h2 := ((propB_iff hp hm hf ha' hb hc).1 h').2
 have h3 : 100 * (f + b - a) * (p - f) = 100 * (f + b - a') * (p - f) := h1.symm.trans h2
 have h4 : 100 * (f + b - a) = 100 * (f + b - a') := Int.eq_of_mul_eq_mul_right (by omega) h3
 omega

theorem spec_l10Proportion_f (l : List Int) (p m f a b c : Int) : spec_l10Proportion.f l p m f a b c = some (propB p m f a b c) := by
 unfold spec_l10Proportion.f propB
 split <;> rfl

def firstPay (g : Int → Bool) : Nat → Int → Int × Bool
 | 0, _ => (0, false)
 | d + 1, n => if g n = true then (n, true) else firstPay g d (n + 1)
def payForV (l : List Int) (p m f b c : Int) : Int × Bool := if (marketB l p m f && contractB 0 b c) = true then firstPay (fun a => propB p m f a b c) 100 0 else (0, false)
theorem firstPay_none {g : Int → Bool} (d : Nat) : ∀ n : Int, (∀ a, n ≤ a → a < n + d → g a = false) → firstPay g d n = (0, false) := by
 induction d with
 | zero => intro n _; rfl
 | succ d ih =>
  intro n h
  unfold firstPay
  rw [if_neg (by rw [h n (by omega) (by omega)]; simp)]
  exact ih (n + 1) (fun a h1 h2 => h a (by omega) (by omega))
theorem firstPay_some {g : Int → Bool} (d : Nat) : ∀ n : Int, (firstPay g d n).2 = true → (n ≤ (firstPay g d n).1 ∧ (firstPay g d n).1 < n + d) ∧ g (firstPay g d n).1 = true ∧ ∀ a, n ≤ a → a < (firstPay g d n).1 → g a = false := by
 induction d with
 | zero => intro n h; simp [firstPay] at h
 | succ d ih =>
  intro n h
  unfold firstPay at h ⊢
  by_cases hg : g n = true
  ·rw [if_pos hg]
   exact ⟨⟨by omega, by simp; omega⟩, hg, fun a h1 h2 => by simp at h2; omega⟩
  ·rw [if_neg hg] at h ⊢
   obtain ⟨h1, h2, h3⟩ := ih (n + 1) h
   refine ⟨by omega, h2, fun a h4 h5 => ?_⟩
   by_cases hn : a = n
   ·subst hn; simpa using hg
   ·exact h3 a (by omega) h5

theorem ev_spec_PayFor_l0 (l : List Int) (p m f b c : Int) (d : Nat) : ∀ n : Nat, n + d = 100 → Ev (fun k => spec_PayFor.l0 k b c (n : Int) l p m f) (firstPay (fun a => propB p m f a b c) d (n : Int)) := by
 induction d with
 | zero =>
  intro n hn
  refine ev_succ ?_
  have h1 : ¬ (n : Int) ≤ 99 := by omega
  simp only [spec_PayFor.l0, h1, ↓reduceIte]
  exact Ev.now _
 | succ d ih =>
  intro n hn
  refine ev_succ ?_
  have h1 : (n : Int) ≤ 99 := by omega
  simp only [spec_PayFor.l0, h1, ↓reduceIte, spec_l10Proportion_f, Option.bind_some, w64_nat (show n < 100 by omega) (by omega)]
  unfold firstPay
  refine ev_ite (fun h => ?_) (fun h => ?_)
  ·rw [if_pos h]; exact Ev.now _
  ·rw [if_neg h]; exact ih (n + 1) (by omega)
theorem ev_spec_PayFor_no (l : List Int) (p m f b c : Int) : Ev (fun k => spec_PayFor.j0 k b c true l p m f) (0, false) := by
 refine ev_succ ?_
 simp only [spec_PayFor.j0, ↓reduceIte]
 exact Ev.now _
theorem ev_spec_PayFor (l : List Int) (p m f b c : Int) (hl : l.length ≤ 9223372036854775807) : Ev (fun k => spec_PayFor.f k l p m f b c) (payForV l p m f b c) := by
 unfold spec_PayFor.f payForV
 simp only [spec_l1In_f, Option.bind_some]
 refine Ev.bind (ev_spec_l10Market l p m f hl) ?_
 refine ev_ite (fun h1 => ?_) (fun h1 => ?_)
 ·refine ev_ite (fun h2 => ?_) (fun h2 => ?_)
  ·refine ev_ite (fun h3 => ?_) (fun h3 => ?_)
   ·have hc : contractB 0 b c = true := by unfold contractB; rw [h2, h3]; rfl
    rw [if_pos (by rw [h1, hc]; rfl)]
    have hm := marketB_mem h1
    have hk := contractB_mem hc
    by_cases he : p = f
    ·have e : (p == f) = true := by simp [he]
     rw [e]
     refine ev_eq (ev_spec_PayFor_no l p m f b c) (firstPay_none 100 0 fun a h4 h5 => ?_).symm
     exact propB_same hm.2.2.2.2.1 hm.2.2.2.2.2.1 hm.2.2.2.2.2.2 (by omega) hk.2.1 hk.2.2 he
    ·have e : (p == f) = false := by simp [he]
     rw [e]
     refine ev_succ ?_
     simp only [spec_PayFor.j0, Bool.false_eq_true, ↓reduceIte]
     exact ev_spec_PayFor_l0 l p m f b c 100 0 (by omega)
   ·exact ev_eq (ev_spec_PayFor_no l p m f b c) (by simp [contractB, h3])
  ·exact ev_eq (ev_spec_PayFor_no l p m f b c) (by simp [contractB, h2])
 ·exact ev_eq (ev_spec_PayFor_no l p m f b c) (by simp [h1])

theorem spec_l1Most_f (a b : Int) : spec_l1Most.f a b = some (mx b a) := by
 unfold spec_l1Most.f mx
 by_cases h : a > b
 ·rw [if_pos h, if_pos (by omega)]
 ·rw [if_neg h, if_neg (by omega)]

theorem spec_l1Cur_one_ok (l : List Int) (a sd n : Int) (hl : codeOk l) (ha : 0 ≤ a ∧ a ≤ 1000000000) (hn : 1 ≤ n ∧ n ≤ 1000000) : ∃ r a' s', spec_l1Cur_one.f l a sd n = some (r, a', s') ∧ (a ≤ a' ∧ a' ≤ a + 2) := by
 obtain ⟨r, a', s', e, hr, ha2⟩ := spec_l1Cur_pick_ok l a sd n hl ha hn
 unfold spec_l1Cur_one.f
 rw [e, Option.bind_some]
 exact ⟨_, _, _, rfl, ha2⟩

theorem ev_spec_l1Cur_contract_j1 (l : List Int) (hl : codeOk l) (a sd x y z : Int) (ha : 0 ≤ a ∧ a ≤ 100000000) : ∃ x' y' z' a' s', Ev (fun k => spec_l1Cur_contract.j1 k l a sd x y z) (x', y', z', a', s') ∧ (a ≤ a' ∧ a' ≤ a + 4) := by
 obtain ⟨r, a1, s1, e1, hr, ha2⟩ := spec_l1Cur_pick_ok l a sd 40 hl (by omega) (by omega)
 by_cases c0 : r = 0
 ·obtain ⟨v, a2, s2, e2, hv, ha3⟩ := spec_l1Cur_among_ok l a1 s1 [(-1), 99, 100] hl (by omega) (by simp)
  refine ⟨v, y, z, a2, s2, ev_succ ?_, ?_⟩
  ·simp only [spec_l1Cur_contract.j1, e1, Option.bind_some, c0, if_true, e2]
   exact Ev.now _
  ·omega
 ·by_cases c1 : r = 1
  ·obtain ⟨v, a2, s2, e2, hv, ha3⟩ := spec_l1Cur_among_ok l a1 s1 [(-1), 99, 100] hl (by omega) (by simp)
   have c10 : ¬ (1 : Int) = 0 := by omega
   refine ⟨x, v, z, a2, s2, ev_succ ?_, ?_⟩
   ·simp only [spec_l1Cur_contract.j1, e1, Option.bind_some, c1, c10, if_true, if_false, e2]
    exact Ev.now _
   ·omega
  ·by_cases c2 : r = 2
   ·obtain ⟨v, a2, s2, e2, hv, ha3⟩ := spec_l1Cur_among_ok l a1 s1 [(-1), 101] hl (by omega) (by simp)
    have c10 : ¬ (2 : Int) = 0 := by omega
    have c11 : ¬ (2 : Int) = 1 := by omega
    refine ⟨x, y, v, a2, s2, ev_succ ?_, ?_⟩
    ·simp only [spec_l1Cur_contract.j1, e1, Option.bind_some, c2, c10, c11, if_true, if_false, e2]
     exact Ev.now _
    ·omega
   ·refine ⟨x, y, z, a1, s1, ev_succ ?_, by omega⟩
    simp only [spec_l1Cur_contract.j1, e1, Option.bind_some, c0, c1, c2, if_false]
    exact Ev.now _
theorem ev_spec_l1Cur_contract_j0 (l : List Int) (hl : codeOk l) (w : Int) (q : Bool) (a sd x y z : Int) (ha : 0 ≤ a ∧ a ≤ 100000000) : ∃ x' y' z' a' s', Ev (fun k => spec_l1Cur_contract.j0 k w q l a sd x y z) (x', y', z', a', s') ∧ (a ≤ a' ∧ a' ≤ a + 4) := by
 cases q with
 | true =>
  obtain ⟨x', y', z', a', s', h1, h2⟩ := ev_spec_l1Cur_contract_j1 l hl a sd w y z ha
  refine ⟨x', y', z', a', s', ev_succ ?_, h2⟩
  simp only [spec_l1Cur_contract.j0, ↓reduceIte]
  exact h1
 | false =>
  obtain ⟨x', y', z', a', s', h1, h2⟩ := ev_spec_l1Cur_contract_j1 l hl a sd x y z ha
  refine ⟨x', y', z', a', s', ev_succ ?_, h2⟩
  simp only [spec_l1Cur_contract.j0, Bool.false_eq_true, ↓reduceIte]
  exact h1
theorem ev_spec_l1Cur_contract (l : List Int) (a sd : Int) (hl : codeOk l) (ha : 0 ≤ a ∧ a ≤ 1000000) (U : List Int) (p m f : Int) (hU : U.length ≤ 9223372036854775807) (hp : 0 ≤ p ∧ p ≤ 1000) : ∃ x y z a' s', Ev (fun k => spec_l1Cur_contract.f k l a sd U p m f) (x, y, z, a', s') ∧ (a ≤ a' ∧ a' ≤ a + 40) := by
 have hmx : 0 ≤ mx 0 p ∧ mx 0 p ≤ 1000 := by unfold mx; split <;> omega
 have e0 : wrap64 (mx 0 p + 2) = mx 0 p + 2 := w64 (by omega) (by omega)
 obtain ⟨x, a1, s1, e1, hx, ha1⟩ := spec_l1Cur_pick_ok l a sd (mx 0 p + 2) hl (by omega) (by omega)
 obtain ⟨y, a2, s2, e2, hy, ha2⟩ := spec_l1Cur_pick_ok l a1 s1 6 hl (by omega) (by omega)
 obtain ⟨z, a3, s3, e3, hz, ha3⟩ := spec_l1Cur_among_ok l a2 s2 [100, 100, 80, 50, 0] hl (by omega) (by simp)
 have hv := ev_spec_PayFor U p m f y z hU
 generalize payForV U p m f y z = v at hv
 obtain ⟨w, q⟩ := v
 cases q with
 | true =>
  obtain ⟨t, a4, s4, e4, ha4⟩ := spec_l1Cur_one_ok l a3 s3 2 hl (by omega) (by omega)
  obtain ⟨x', y', z', a', s', h1, h2⟩ := ev_spec_l1Cur_contract_j0 l hl w t a4 s4 x y z (by omega)
  refine ⟨x', y', z', a', s', ?_, by omega⟩
  simp only [spec_l1Cur_contract.f, spec_l1Most_f, e0, e1, e2, e3, Option.bind_some]
  refine Ev.bind hv ?_
  simp only [if_true, e4, Option.bind_some]
  exact h1
 | false =>
  obtain ⟨x', y', z', a', s', h1, h2⟩ := ev_spec_l1Cur_contract_j0 l hl w false a3 s3 x y z (by omega)
  refine ⟨x', y', z', a', s', ?_, by omega⟩
  simp only [spec_l1Cur_contract.f, spec_l1Most_f, e0, e1, e2, e3, Option.bind_some]
  refine Ev.bind hv ?_
  simp only [Bool.false_eq_true, if_false]
  exact h1

theorem spec_l1Cur_sold_ok (l : List Int) (a sd : Int) (hl : codeOk l) (ha : 0 ≤ a ∧ a ≤ 1000000000) : ∃ v a' s', spec_l1Cur_sold.f l a sd = some (v, a', s') ∧ (a ≤ a' ∧ a' ≤ a + 2) := by
 obtain ⟨v, a', s', e, hv, ha2⟩ := spec_l1Cur_among_ok l a sd [0, 1, 2, 3, 4, 5, 8, 9, (-1), 6, 7] hl ha (by simp)
 unfold spec_l1Cur_sold.f
 rw [e, Option.bind_some]
 exact ⟨_, _, _, rfl, ha2⟩

theorem ev_spec_DrawSellerProfit (l : List Int) (hl : codeOk l) : ∃ U p m f x y z q, Ev (fun k => spec_DrawSellerProfit.f k l) (U, p, m, f, x, y, z, q) ∧ U.length ≤ 80 := by
 unfold spec_DrawSellerProfit.f
 obtain ⟨U, p, m, f, a1, s1, h1, h2, h3, h4⟩ := ev_spec_l1Cur_market l 0 0 hl (by omega)
 obtain ⟨x, y, z, a2, s2, h5, h6⟩ := ev_spec_l1Cur_contract l a1 s1 hl (by omega) U p m f (by omega) h3
 obtain ⟨q, a3, s3, e3, ha3⟩ := spec_l1Cur_sold_ok l a2 s2 hl (by omega)
 refine ⟨U, p, m, f, x, y, z, q, Ev.bind h1 ?_, h2⟩
 refine Ev.bind h5 ?_
 simp only [e3, Option.bind_some]
 exact Ev.now _

theorem spec_l10Contract_f (a b c : Int) : spec_l10Contract.f a b c = some (contractB a b c) := by
 unfold spec_l10Contract.f contractB
 simp only [spec_l1In_f, Option.bind_some]
 cases inB a 0 99 <;> cases inB b 0 99 <;> rfl

theorem ev_spec_l10Both (l : List Int) (p m f a b c : Int) (hl : l.length ≤ 9223372036854775807) : Ev (fun k => spec_l10Both.f k l p m f a b c) (marketB l p m f && contractB a b c) := by
 unfold spec_l10Both.f
 simp only [spec_l10Contract_f, Option.bind_some]
 refine Ev.bind (ev_spec_l10Market l p m f hl) ?_
 refine ev_ite (fun h => ?_) (fun h => ?_)
 ·exact ev_eq (Ev.now _) (by simp [h])
 ·exact ev_eq (Ev.now _) (by simp [h])

theorem spec_l10Order_f (q : Int) : spec_l10Order.f q = some (inB q 0 8) := by
 unfold spec_l10Order.f
 rw [spec_l1In_f, Option.bind_some]

theorem ev_spec_SellerProfit (l : List Int) (p m f a b c q : Int) (hl : l.length ≤ 9223372036854775807) : Ev (fun k => spec_SellerProfit.f k l p m f a b c q) (oV_SellerProfit l p m f a b c q) := by
 unfold spec_SellerProfit.f oV_SellerProfit
 simp only [spec_l10Order_f, Option.bind_some]
 refine Ev.bind (ev_spec_l10Both l p m f a b c hl) ?_
 refine ev_ite (fun h => ?_) (fun h => ?_)
 ·refine ev_ite (fun h2 => ?_) (fun h2 => ?_)
  ·refine Ev.bind (ev_spec_l10Seller l p m f a b c q hl) ?_
   exact ev_eq (Ev.now _) (by rw [h, h2]; rfl)
  ·exact ev_eq (Ev.now _) (by simp [h2])
 ·exact ev_eq (Ev.now _) (by rw [Bool.not_eq_true] at h; simp [h])

def oV_MakerProfit (l : List Int) (p m f a b c q : Int) : Int × Bool := if (marketB l p m f && contractB a b c && inB q 0 8) = true then (wrap64 (makerP l p m f a b c q), true) else (0, false)

theorem ev_impl_MakerProfit (l : List Int) (p m f a b c q : Int) (hl : l.length ≤ 9223372036854775807) : Ev (fun k => impl_MakerProfit.f k l p m f a b c q) (oV_MakerProfit l p m f a b c q) := by
 unfold impl_MakerProfit.f oV_MakerProfit
 simp only [impl_IsContract_f, Option.bind_some]
 refine Ev.bind (ev_impl_isSale l p m f q hl) ?_
 refine ev_ite (fun h => ?_) (fun h => ?_)
 ·rw [Bool.and_eq_true] at h
  refine ev_ite (fun h2 => ?_) (fun h2 => ?_)
  ·refine Ev.bind (ev_impl_Market_maker l p m f a b c q hl) ?_
   exact ev_eq (Ev.now _) (by rw [h.1, h.2, h2]; rfl)
  ·exact ev_eq (Ev.now _) (by simp [h2])
 ·refine ev_eq (Ev.now _) ?_
  rw [if_neg]
  intro hc
  simp only [Bool.and_eq_true] at hc
  exact h (by rw [hc.1.1, hc.2]; rfl)

theorem ev_spec_MakerProfit (l : List Int) (p m f a b c q : Int) (hl : l.length ≤ 9223372036854775807) : Ev (fun k => spec_MakerProfit.f k l p m f a b c q) (oV_MakerProfit l p m f a b c q) := by
 unfold spec_MakerProfit.f oV_MakerProfit
 simp only [spec_l10Order_f, Option.bind_some]
 refine Ev.bind (ev_spec_l10Both l p m f a b c hl) ?_
 refine ev_ite (fun h => ?_) (fun h => ?_)
 ·refine ev_ite (fun h2 => ?_) (fun h2 => ?_)
  ·refine Ev.bind (ev_spec_l10Maker l p m f a b c q hl) ?_
   exact ev_eq (Ev.now _) (by rw [h, h2]; rfl)
  ·exact ev_eq (Ev.now _) (by simp [h2])
 ·exact ev_eq (Ev.now _) (by rw [Bool.not_eq_true] at h; simp [h])

theorem ev_spec_l10Joint (l : List Int) (p m f q : Int) (hl : l.length ≤ 9223372036854775807) : Ev (fun k => spec_l10Joint.f k l p m f q) (wrap64 (jointP l p m f q)) := by
 unfold spec_l10Joint.f jointP
 refine Ev.bind (ev_spec_l10Sales l p m f q hl) ?_
 refine Ev.bind (ev_spec_l2Sum l hl) ?_
 refine ev_eq (Ev.now _) ?_
 simp only [w64_mul_l, w64_mul_r, w64_add_l, w64_add_r, w64_sub_l, w64_sub_r]

theorem ev_spec_JointProfit (l : List Int) (p m f q : Int) (hl : l.length ≤ 9223372036854775807) : Ev (fun k => spec_JointProfit.f k l p m f q) (oV_JointProfit l p m f q) := by
 unfold spec_JointProfit.f oV_JointProfit
 simp only [spec_l10Order_f, Option.bind_some]
 refine Ev.bind (ev_spec_l10Market l p m f hl) ?_
 refine ev_ite (fun h => ?_) (fun h => ?_)
 ·refine ev_ite (fun h2 => ?_) (fun h2 => ?_)
  ·refine Ev.bind (ev_spec_l10Joint l p m f q hl) ?_
   exact ev_eq (Ev.now _) (by simp [h, h2])
  ·exact ev_eq (Ev.now _) (by simp [h2])
 ·exact ev_eq (Ev.now _) (by simp [h])

def oV_SalesOf (l : List Int) (p m f q : Int) : Int × Bool := if (marketB l p m f && inB q 0 8) = true then (wrap64 (salesS l q), true) else (0, false)

theorem ev_impl_SalesOf (l : List Int) (p m f q : Int) (hl : l.length ≤ 9223372036854775807) : Ev (fun k => impl_SalesOf.f k l p m f q) (oV_SalesOf l p m f q) := by
 unfold impl_SalesOf.f oV_SalesOf
 refine Ev.bind (ev_impl_isSale l p m f q hl) ?_
 refine ev_ite (fun h => ?_) (fun h => ?_)
 ·refine Ev.bind (ev_impl_Market_sales l p m f q hl) ?_
  rw [if_pos h]
  exact Ev.now _
 ·rw [if_neg h]
  exact Ev.now _

theorem ev_spec_SalesOf (l : List Int) (p m f q : Int) (hl : l.length ≤ 9223372036854775807) : Ev (fun k => spec_SalesOf.f k l p m f q) (oV_SalesOf l p m f q) := by
 unfold spec_SalesOf.f oV_SalesOf
 simp only [spec_l10Order_f, Option.bind_some]
 refine Ev.bind (ev_spec_l10Market l p m f hl) ?_
 refine ev_ite (fun h => ?_) (fun h => ?_)
 ·refine ev_ite (fun h2 => ?_) (fun h2 => ?_)
  ·refine Ev.bind (ev_spec_l10Sales l p m f q hl) ?_
   exact ev_eq (Ev.now _) (by simp [h, h2])
  ·exact ev_eq (Ev.now _) (by simp [h2])
 ·exact ev_eq (Ev.now _) (by simp [h])

def jpFrom (l : List Int) (p m f : Int) : Nat → Int → List Int
 | 0, _ => []
 | d + 1, q => wrap64 (jointP l p m f q) :: jpFrom l p m f d (q + 1)
theorem jpFrom_length (l : List Int) (p m f : Int) (d : Nat) : ∀ q, (jpFrom l p m f d q).length = d := by
 induction d with
 | zero => intro q; rfl
 | succ d ih => intro q; rw [jpFrom, List.length_cons, ih]
def oV_JointProfits (l : List Int) (p m f : Int) : List Int × Bool := if marketB l p m f = true then (jpFrom l p m f 9 0, true) else ([], false)
theorem oV_JointProfits_length (l : List Int) (p m f : Int) : (oV_JointProfits l p m f).1.length ≤ 100 := by
 unfold oV_JointProfits
 split
 ·simp [jpFrom_length]
 ·simp

theorem ev_impl_JointProfits_l0 (l : List Int) (p m f : Int) (hl : l.length ≤ 9223372036854775807) (d : Nat) : ∀ (q : Nat) (o : List Int), q + d = 9 → o.length ≤ q → Ev (fun k => impl_JointProfits.l0 k o (q : Int) l p m f) (o ++ jpFrom l p m f d (q : Int), true) := by
 induction d with
 | zero =>
  intro q o hq ho
  refine ev_succ ?_
  have h1 : ¬ (q : Int) < 9 := by omega
  simp only [impl_JointProfits.l0, h1, ↓reduceIte]
  exact ev_eq (Ev.now _) (by rw [jpFrom, List.append_nil])
 | succ d ih =>
  intro q o hq ho
  refine ev_succ ?_
  have h1 : (q : Int) < 9 := by omega
  have h2 : o.length < 17592186044416 := by omega
  simp only [impl_JointProfits.l0, h1, h2, ↓reduceIte, w64_nat (show q < 9 by omega) (by omega)]
  refine Ev.bind (ev_impl_Market_joint l p m f (q : Int) hl) ?_
  refine ev_eq (ih (q + 1) _ (by omega) (by simp; omega)) ?_
  rw [jpFrom, show ((q + 1 : Nat) : Int) = (q : Int) + 1 by omega, List.append_assoc]
  rfl
theorem ev_impl_JointProfits (l : List Int) (p m f : Int) (hl : l.length ≤ 9223372036854775807) : Ev (fun k => impl_JointProfits.f k l p m f) (oV_JointProfits l p m f) := by
 unfold impl_JointProfits.f oV_JointProfits
 refine Ev.bind (ev_impl_IsMarket l p m f hl) ?_
 refine ev_ite (fun h => ?_) (fun h => ?_)
 ·rw [if_pos h]
  have hz := ev_impl_JointProfits_l0 l p m f hl 9 0 [] (by omega) (by simp)
  rw [List.nil_append, show ((0 : Nat) : Int) = 0 from rfl] at hz
  exact hz
 ·rw [if_neg h]; exact Ev.now _

theorem ev_spec_JointProfits_l0 (l : List Int) (p m f : Int) (hl : l.length ≤ 9223372036854775807) (d : Nat) : ∀ (q : Nat) (o : List Int), q + d = 9 → o.length ≤ q → Ev (fun k => spec_JointProfits.l0 k o (q : Int) l p m f) (o ++ jpFrom l p m f d (q : Int), true) := by
 induction d with
 | zero =>
  intro q o hq ho
  refine ev_succ ?_
  have h1 : ¬ (q : Int) ≤ 8 := by omega
  simp only [spec_JointProfits.l0, h1, ↓reduceIte]
  exact ev_eq (Ev.now _) (by rw [jpFrom, List.append_nil])
 | succ d ih =>
  intro q o hq ho
  refine ev_succ ?_
  have h1 : (q : Int) ≤ 8 := by omega
  have h2 : o.length < 17592186044416 := by omega
  simp only [spec_JointProfits.l0, h1, h2, ↓reduceIte, w64_nat (show q < 9 by omega) (by omega)]
  refine Ev.bind (ev_spec_l10Joint l p m f (q : Int) hl) ?_
  refine ev_eq (ih (q + 1) _ (by omega) (by simp; omega)) ?_
  rw [jpFrom, show ((q + 1 : Nat) : Int) = (q : Int) + 1 by omega, List.append_assoc]
  rfl
theorem ev_spec_JointProfits (l : List Int) (p m f : Int) (hl : l.length ≤ 9223372036854775807) : Ev (fun k => spec_JointProfits.f k l p m f) (oV_JointProfits l p m f) := by
 unfold spec_JointProfits.f oV_JointProfits
 simp only [Option.bind_some]
 refine Ev.bind (ev_spec_l10Market l p m f hl) ?_
 refine ev_ite (fun h => ?_) (fun h => ?_)
 ·rw [if_pos h]
  have hz := ev_spec_JointProfits_l0 l p m f hl 9 0 [] (by omega) (by simp)
  rw [List.nil_append, show ((0 : Nat) : Int) = 0 from rfl] at hz
  exact hz
 ·rw [if_neg h]; exact Ev.now _

theorem ev_laws_rInts_l0 (l : List Int) (hl : l.length ≤ 9223372036854775807) (d : Nat) : ∀ (i : Nat), i + d = l.length → Ev (fun k => laws_rInts.l0 k l l (i : Int)) true := by
 induction d with
 | zero =>
  intro i hi
  refine ev_succ ?_
  have h1 : ¬ (i : Int) < (l.length : Int) := by omega
  simp only [laws_rInts.l0, h1, ↓reduceIte]
  exact Ev.now _
 | succ d ih =>
  intro i hi
  refine ev_succ ?_
  have h1 : (i : Int) < (l.length : Int) := by omega
  have h0 : (0 : Int) ≤ (i : Int) := by omega
  have hi' : i < l.length := by omega
  simp only [laws_rInts.l0, h1, h0, ↓reduceIte, w64_nat hi' hl]
  exact ih (i + 1) (by omega)
theorem ev_laws_rInts_self (l : List Int) (hl : l.length ≤ 9223372036854775807) : Ev (fun k => laws_rInts.f k l l) true := by
 unfold laws_rInts.f
 simp only [if_true]
 exact ev_laws_rInts_l0 l hl l.length 0 (by omega)

theorem ev_spec_l10Best_loop (l : List Int) (p m f : Int) (hl : l.length ≤ 9223372036854775807) (d : Nat) : ∀ (q : Nat) (best : Int), q + d = 9 → Ev (fun k => spec_l10Best.l0 k best (q : Int) l p m f) (mostV (fun q => wrap64 (jointP l p m f q)) d best (q : Int)) := by
 induction d with
 | zero =>
  intro q best hq
  refine ev_succ ?_
  have h1 : ¬ (q : Int) ≤ 8 := by omega
  simp only [spec_l10Best.l0, h1, ↓reduceIte]
  exact Ev.now _
 | succ d ih =>
  intro q best hq
  refine ev_succ ?_
  have h1 : (q : Int) ≤ 8 := by omega
  simp only [spec_l10Best.l0, h1, ↓reduceIte, w64_nat (show q < 9 by omega) (by omega)]
  refine Ev.bind (ev_spec_l10Joint l p m f (q : Int) hl) ?_
  refine Ev.bind (ev_spec_l10Joint l p m f best hl) ?_
  rw [mostV]
  have e : ((q + 1 : Nat) : Int) = (q : Int) + 1 := by omega
  rw [← e]
  refine ev_ite (fun h => ?_) (fun h => ?_)
  ·rw [if_pos h]; exact ih (q + 1) _ (by omega)
  ·rw [if_neg h]; exact ih (q + 1) _ (by omega)
theorem ev_spec_l10Best (l : List Int) (p m f : Int) (hl : l.length ≤ 9223372036854775807) : Ev (fun k => spec_l10Best.f k l p m f) (bestV l p m f) := by
 unfold spec_l10Best.f bestV
 exact ev_spec_l10Best_loop l p m f hl 8 1 0 (by omega)

theorem ev_spec_JointOrder (l : List Int) (p m f : Int) (hl : l.length ≤ 9223372036854775807) : Ev (fun k => spec_JointOrder.f k l p m f) (oV_JointOrder l p m f) := by
 unfold spec_JointOrder.f oV_JointOrder
 refine Ev.bind (ev_spec_l10Market l p m f hl) ?_
 refine ev_ite (fun h => ?_) (fun h => ?_)
 ·refine Ev.bind (ev_spec_l10Best l p m f hl) ?_
  rw [if_pos h]; exact Ev.now _
 ·rw [if_neg h]; exact Ev.now _

def quotT (l : List Int) (p m f : Int) (q : Nat) : Bool := decide ((l.take (q + 1)).sum * (p - f) < l.sum * (p - m))
def quotFrom (g : Nat → Bool) : Nat → Nat → Int
 | 0, q => (q : Int)
 | d + 1, q => if g q = true then quotFrom g d (q + 1) else (q : Int)
def quotV (l : List Int) (p m f : Int) : Int × Bool := if marketB l p m f = true then (if p = f then (0, false) else (quotFrom (quotT l p m f) (l.length - 1) 0, true)) else (0, false)
theorem take_range {l : List Int} {b : Int} {n : Nat} (hb : 0 ≤ b) (h : ∀ x ∈ l, 0 ≤ x ∧ x ≤ b) (hn : l.length ≤ n) (q : Nat) : 0 ≤ (l.take q).sum ∧ (l.take q).sum ≤ n * b := by
 have hm : ∀ y ∈ l.take q, 0 ≤ y ∧ y ≤ b := fun y hy => h y (List.mem_of_mem_take hy)
 have h1 := sum_le (b := b) (fun y hy => (hm y hy).2)
 have h2 := le_sum (b := 0) (fun y hy => (hm y hy).1)
 have h3 : (l.take q).length ≤ n := by rw [List.length_take]; omega
 have h4 : ((l.take q).length : Int) * b ≤ n * b := Int.mul_le_mul_of_nonneg_right (by omega) hb
 omega
theorem take_snoc_sum {l : List Int} {q : Nat} (h : q < l.length) : (l.take (q + 1)).sum = (l.take q).sum + l[q] := by
 rw [List.take_add_one, List.getElem?_eq_getElem h, Option.toList_some, List.sum_append, List.sum_singleton]
theorem quot_end {l : List Int} {p m f : Int} (h : marketB l p m f = true) (hf : p ≠ f) (q : Nat) (hq : l.length ≤ q + 1) : quotT l p m f q = false := by
 have hm := marketB_mem h
 unfold quotT
 rw [List.take_of_length_le hq, decide_eq_false_iff_not]
 have : l.sum * (p - m) ≤ l.sum * (p - f) := Int.mul_le_mul_of_nonneg_left (by omega) (by omega)
 omega

theorem ev_impl_upTo (l : List Int) (q : Nat) (hl : l.length ≤ 100000) (hq : q ≤ 100000) (h : ∀ x ∈ l, 0 ≤ x ∧ x ≤ 100000) : Ev (fun k => impl_upTo.f k l (q : Int)) ((l.take (q + 1)).sum) := by
 unfold impl_upTo.f
 have e : wrap64 ((q : Int) + 1) = ((q + 1 : Nat) : Int) := by rw [w64 (by omega) (by omega)]; omega
 have t := take_range (l := l) (b := 100000) (n := 100000) (by omega) h hl (q + 1)
 rw [e]
 by_cases hc : q + 1 ≤ l.length
 ·have e2 : mn ((q + 1 : Nat) : Int) (l.length : Int) = ((q + 1 : Nat) : Int) := by unfold mn; split <;> omega
  have h1 : (0 : Int) ≤ ((q + 1 : Nat) : Int) := by omega
  have h2 : ((q + 1 : Nat) : Int) ≤ (l.length : Int) := by omega
  simp only [e2, h1, h2, ↓reduceIte, Int.toNat_natCast]
  refine Ev.bind (ev_impl_total _ (by rw [List.length_take]; omega)) ?_
  rw [w64 (by omega) (by omega)]
  exact Ev.now _
 ·have e2 : mn ((q + 1 : Nat) : Int) (l.length : Int) = (l.length : Int) := by unfold mn; split <;> omega
  have h1 : (0 : Int) ≤ (l.length : Int) := by omega
  have h2 : (l.length : Int) ≤ (l.length : Int) := by omega
  simp only [e2, h1, h2, ↓reduceIte, Int.toNat_natCast]
  rw [List.take_of_length_le (Nat.le_refl _)]
  rw [List.take_of_length_le (by omega)] at t ⊢
  refine Ev.bind (ev_impl_total _ (by omega)) ?_
  rw [w64 (by omega) (by omega)]
  exact Ev.now _

theorem ev_impl_QuotientOrder_l0 (l : List Int) (p m f : Int) (h : marketB l p m f = true) (hf : p ≠ f) (d : Nat) : ∀ q : Nat, q + 1 + d = l.length → Ev (fun k => impl_QuotientOrder.l0 k (q : Int) l p m f) (quotFrom (quotT l p m f) d q, true) := by
 have hm := marketB_mem h
 have e1 : wrap64 (p - f) = p - f := w64 (by omega) (by omega)
 have e2 : wrap64 (p - m) = p - m := w64 (by omega) (by omega)
 have e3 : wrap64 l.sum = l.sum := w64 (by omega) (by omega)
 have e4 : wrap64 (l.sum * (p - m)) = l.sum * (p - m) := w64_mul_small (by omega) (by omega)
 have E1 := Aside0.mk e1
 have E2 := Aside0.mk e2
 have E3 := Aside0.mk e3
 have E4 := Aside0.mk e4
 have hx0 := hm.2.2.1
 have hn9 := hm.2.1
 have hpf : -99 ≤ p - f ∧ p - f ≤ 99 := by omega
 clear e1 e2 e3 e4
 have ht := fun q => take_range (l := l) (b := 4) (n := 9) (by omega) hm.2.2.1 hm.2.1 q
 have HM := Aside0.mk hm
 have HF := Aside0.mk hf
 clear hm hf
 induction d with
 | zero =>
  intro q hq
  refine ev_succ ?_
  have t1 := ht (q + 1)
  have E5 := Aside0.mk (show wrap64 ((l.take (q + 1)).sum * (p - f)) = (l.take (q + 1)).sum * (p - f) from w64_mul_small (by omega) (by omega))
  have hg := quot_end h HF.out q (by omega)
  unfold quotT at hg
  simp only [impl_QuotientOrder.l0]
  refine Ev.bind (ev_impl_upTo l q (by omega) (by omega) (fun x hx => by have := hx0 x hx; omega)) ?_
  refine Ev.bind (ev_impl_total l (by omega)) ?_
  rw [E1.out, E2.out, E3.out, E4.out, E5.out]
  have hg2 := of_decide_eq_false hg
  simp only [hg2, ↓reduceIte]
  exact Ev.now _
 | succ d ih =>
  intro q hq
  refine ev_succ ?_
  have t1 := ht (q + 1)
  have E5 := Aside0.mk (show wrap64 ((l.take (q + 1)).sum * (p - f)) = (l.take (q + 1)).sum * (p - f) from w64_mul_small (by omega) (by omega))
  have e6 : wrap64 ((q : Int) + 1) = ((q + 1 : Nat) : Int) := by rw [w64 (by omega) (by omega)]; omega
  simp only [impl_QuotientOrder.l0]
  refine Ev.bind (ev_impl_upTo l q (by omega) (by omega) (fun x hx => by have := hx0 x hx; omega)) ?_
  refine Ev.bind (ev_impl_total l (by omega)) ?_
  rw [E1.out, E2.out, E3.out, E4.out, E5.out, e6]
  rw [quotFrom]
  refine ev_ite (fun c => ?_) (fun c => ?_)
  ·have : quotT l p m f q = true := decide_eq_true c
   rw [if_pos this]
   exact ih (q + 1) (by omega)
  ·have : ¬ quotT l p m f q = true := by rw [quotT, decide_eq_false c]; simp
   rw [if_neg this]
   exact Ev.now _
theorem ev_impl_QuotientOrder_no (l : List Int) (p m f : Int) : Ev (fun k => impl_QuotientOrder.j0 k true l p m f) (0, false) := by
 refine ev_succ ?_
 simp only [impl_QuotientOrder.j0, ↓reduceIte]
 exact Ev.now _
theorem ev_impl_QuotientOrder (l : List Int) (p m f : Int) (hl : l.length ≤ 9223372036854775807) : Ev (fun k => impl_QuotientOrder.f k l p m f) (quotV l p m f) := by
 unfold impl_QuotientOrder.f quotV
 refine Ev.bind (ev_impl_IsMarket l p m f hl) ?_
 refine ev_ite (fun h => ?_) (fun h => ?_)
 ·rw [if_pos h]
  have hm := marketB_mem h
  by_cases hf : p = f
  ·rw [if_pos hf, show (p == f) = true by simp [hf]]
   exact ev_impl_QuotientOrder_no l p m f
  ·rw [if_neg hf, show (p == f) = false by simp [hf]]
   refine ev_succ ?_
   simp only [impl_QuotientOrder.j0, Bool.false_eq_true, ↓reduceIte]
   exact ev_impl_QuotientOrder_l0 l p m f h hf (l.length - 1) 0 (by omega)
 ·rw [if_neg h]
  exact ev_impl_QuotientOrder_no l p m f

theorem ev_spec_QuotientOrder_l0 (l : List Int) (p m f : Int) (h : marketB l p m f = true) (hf : p ≠ f) (d : Nat) : ∀ q : Nat, q + 1 + d = l.length → Ev (fun k => spec_QuotientOrder.l0 k (l.take (q + 1)).sum (q : Int) l p m f) (quotFrom (quotT l p m f) d q, true) := by
 have hm := marketB_mem h
 have e1 : wrap64 (p - f) = p - f := w64 (by omega) (by omega)
 have e2 : wrap64 (p - m) = p - m := w64 (by omega) (by omega)
 have e3 : wrap64 l.sum = l.sum := w64 (by omega) (by omega)
 have e4 : wrap64 (l.sum * (p - m)) = l.sum * (p - m) := w64_mul_small (by omega) (by omega)
 have E1 := Aside0.mk e1
 have E2 := Aside0.mk e2
 have E3 := Aside0.mk e3
 have E4 := Aside0.mk e4
 have hx0 := hm.2.2.1
 have hn9 := hm.2.1
 have hpf : -99 ≤ p - f ∧ p - f ≤ 99 := by omega
 clear e1 e2 e3 e4
 have ht := fun q => take_range (l := l) (b := 4) (n := 9) (by omega) hm.2.2.1 hm.2.1 q
 have HM := Aside0.mk hm
 have HF := Aside0.mk hf
 clear hm hf
 induction d with
 | zero =>
  intro q hq
  refine ev_succ ?_
  have t1 := ht (q + 1)
  have E5 := Aside0.mk (show wrap64 ((l.take (q + 1)).sum * (p - f)) = (l.take (q + 1)).sum * (p - f) from w64_mul_small (by omega) (by omega))
  have hg := quot_end h HF.out q (by omega)
  unfold quotT at hg
  simp only [spec_QuotientOrder.l0]
  refine Ev.bind (ev_spec_l2Sum l (by omega)) ?_
  rw [E1.out, E2.out, E3.out, E4.out, E5.out]
  have hg2 := of_decide_eq_false hg
  simp only [hg2, ↓reduceIte]
  exact Ev.now _
 | succ d ih =>
  intro q hq
  refine ev_succ ?_
  have t1 := ht (q + 1)
  have E5 := Aside0.mk (show wrap64 ((l.take (q + 1)).sum * (p - f)) = (l.take (q + 1)).sum * (p - f) from w64_mul_small (by omega) (by omega))
  have e6 : wrap64 ((q : Int) + 1) = ((q + 1 : Nat) : Int) := by rw [w64 (by omega) (by omega)]; omega
  have h1 : (0 : Int) ≤ ((q + 1 : Nat) : Int) := by omega
  have h2 : ((q + 1 : Nat) : Int) < (l.length : Int) := by omega
  have hq' : q + 1 < l.length := by omega
  have hx := hx0 l[q + 1] (List.getElem_mem hq')
  have e7 : wrap64 ((l.take (q + 1)).sum + l[q + 1]) = (l.take (q + 1 + 1)).sum := by rw [take_snoc_sum hq', w64 (by omega) (by omega)]
  simp only [spec_QuotientOrder.l0]
  refine Ev.bind (ev_spec_l2Sum l (by omega)) ?_
  rw [E1.out, E2.out, E3.out, E4.out, E5.out, e6]
  simp only [h1, h2, ↓reduceIte, rd_nat hq', e7]
  rw [quotFrom]
  refine ev_ite (fun c => ?_) (fun c => ?_)
  ·have : quotT l p m f q = true := decide_eq_true c
   rw [if_pos this]
   exact ih (q + 1) (by omega)
  ·have : ¬ quotT l p m f q = true := by rw [quotT, decide_eq_false c]; simp
   rw [if_neg this]
   exact Ev.now _
theorem ev_spec_QuotientOrder_no (l : List Int) (p m f : Int) : Ev (fun k => spec_QuotientOrder.j0 k true l p m f) (0, false) := by
 refine ev_succ ?_
 simp only [spec_QuotientOrder.j0, ↓reduceIte]
 exact Ev.now _
theorem ev_spec_QuotientOrder (l : List Int) (p m f : Int) (hl : l.length ≤ 9223372036854775807) : Ev (fun k => spec_QuotientOrder.f k l p m f) (quotV l p m f) := by
 unfold spec_QuotientOrder.f quotV
 refine Ev.bind (ev_spec_l10Market l p m f hl) ?_
 refine ev_ite (fun h => ?_) (fun h => ?_)
 ·rw [if_pos h]
  have hm := marketB_mem h
  by_cases hf : p = f
  ·rw [if_pos hf, show (p == f) = true by simp [hf]]
   exact ev_spec_QuotientOrder_no l p m f
  ·rw [if_neg hf, show (p == f) = false by simp [hf]]
   refine ev_succ ?_
   have h0 : (0 : Int) < (l.length : Int) := by omega
   simp only [spec_QuotientOrder.j0, h0, Bool.false_eq_true, ↓reduceIte]
   have e : rd l 0 = (l.take (0 + 1)).sum := by
    rw [take_snoc_sum (by omega)]
    have := rd_nat (l := l) (i := 0) (by omega)
    simpa using this
   rw [e]
   exact ev_spec_QuotientOrder_l0 l p m f h hf (l.length - 1) 0 (by omega)
 ·rw [if_neg h]
  exact ev_spec_QuotientOrder_no l p m f

theorem ev_laws_rPairs_self_l0 (l : List S67) (hl : l.length ≤ 9223372036854775807) (d : Nat) : ∀ (i : Nat), i + d = l.length → Ev (fun k => laws_rPairs.l0 k l l (i : Int)) true := by
 induction d with
 | zero =>
  intro i hi
  refine ev_succ ?_
  have h1 : ¬ (i : Int) < (l.length : Int) := by omega
  simp only [laws_rPairs.l0, h1, ↓reduceIte]
  exact Ev.now _
 | succ d ih =>
  intro i hi
  refine ev_succ ?_
  have h1 : (i : Int) < (l.length : Int) := by omega
  have h0 : (0 : Int) ≤ (i : Int) := by omega
  have hi' : i < l.length := by omega
  simp only [laws_rPairs.l0, h1, h0, ↓reduceIte, w64_nat hi' hl, beq_self_eq_true, Bool.not_true, Bool.or_self, Bool.false_eq_true]
  exact ih (i + 1) (by omega)
theorem ev_laws_rPairs_self (l : List S67) (hl : l.length ≤ 9223372036854775807) : Ev (fun k => laws_rPairs.f k l l) true := by
 unfold laws_rPairs.f
 simp only [↓reduceIte]
 exact ev_laws_rPairs_self_l0 l hl l.length 0 (by omega)

def lossV (l : List Int) (p m f a b c : Int) : Int := wrap64 (wrap64 (jointP l p m f (bestV l p m f)) - wrap64 (jointP l p m f (soldV l p m f a b c)))

theorem mostV_from (g : Int → Int) (d : Nat) : ∀ (best q : Int), 0 ≤ best → best < q → (∀ x, 0 ≤ x → x < q → g x ≤ g best) → (∀ x, 0 ≤ x → x < best → g x < g best) →
  0 ≤ mostV g d best q ∧ mostV g d best q < q + d ∧ (∀ x, 0 ≤ x → x < q + d → g x ≤ g (mostV g d best q)) ∧ ∀ x, 0 ≤ x → x < mostV g d best q → g x < g (mostV g d best q) := by
 induction d with
 | zero =>
  intro best q h0 h1 h2 h3
  simp only [mostV]
  exact ⟨h0, by omega, fun x hx hq => h2 x hx (by omega), h3⟩
 | succ d ih =>
  intro best q h0 h1 h2 h3
  rw [mostV]
  by_cases h : g q > g best
  ·rw [if_pos h]
   have hlt : ∀ x, 0 ≤ x → x < q → g x < g q := fun x hx hq => by have := h2 x hx hq; omega
   obtain ⟨a, b, c, e⟩ := ih q (q + 1) (by omega) (by omega) (fun x hx hq => by
    by_cases he : x = q
    ·rw [he]; exact Int.le_refl _
    ·have := hlt x hx (by omega); omega) hlt
   exact ⟨a, by omega, fun x hx hq => c x hx (by omega), e⟩
  ·rw [if_neg h]
   obtain ⟨a, b, c, e⟩ := ih best (q + 1) h0 (by omega) (fun x hx hq => by
    by_cases he : x = q
    ·rw [he]; omega
    ·exact h2 x hx (by omega)) h3
   exact ⟨a, by omega, fun x hx hq => c x hx (by omega), e⟩
theorem mostV_spec (g : Int → Int) : (0 ≤ mostV g 8 0 1 ∧ mostV g 8 0 1 ≤ 8) ∧ (∀ x, 0 ≤ x → x ≤ 8 → g x ≤ g (mostV g 8 0 1)) ∧ ∀ x, 0 ≤ x → x < mostV g 8 0 1 → g x < g (mostV g 8 0 1) := by
 obtain ⟨a, b, c, e⟩ := mostV_from g 8 0 1 (by omega) (by omega) (fun x h1 h2 => by rw [show x = 0 by omega]; exact Int.le_refl _) (fun x h1 h2 => by omega)
 exact ⟨⟨a, by omega⟩, fun x h1 h2 => c x h1 (by omega), e⟩
theorem mostV_unique {g : Int → Int} {b : Int} (h0 : 0 ≤ b ∧ b ≤ 8) (h1 : ∀ x, 0 ≤ x → x ≤ 8 → g x ≤ g b) (h2 : ∀ x, 0 ≤ x → x < b → g x < g b) : mostV g 8 0 1 = b := by
 obtain ⟨a, c, e⟩ := mostV_spec g
 by_cases hlt : b < mostV g 8 0 1
 ·have := e b h0.1 hlt
  have := h1 (mostV g 8 0 1) a.1 a.2
  omega
 ·by_cases hgt : mostV g 8 0 1 < b
  ·have := h2 _ a.1 hgt
   have := c b h0.1 h0.2
   omega
  ·omega
theorem mostV_mono {g1 g2 : Int → Int} (h : ∀ x y, 0 ≤ x → x ≤ y → y ≤ 8 → g1 x - g2 x ≤ g1 y - g2 y) : mostV g2 8 0 1 ≤ mostV g1 8 0 1 := by
 obtain ⟨a1, c1, e1⟩ := mostV_spec g1
 obtain ⟨a2, c2, e2⟩ := mostV_spec g2
 by_cases hlt : mostV g1 8 0 1 < mostV g2 8 0 1
 ·have := c1 (mostV g2 8 0 1) a2.1 a2.2
  have := e2 (mostV g1 8 0 1) a1.1 hlt
  have := h _ _ a1.1 (Int.le_of_lt hlt) a2.2
  omega
 ·omega
theorem mostV_congr {g1 g2 : Int → Int} (h : ∀ x, 0 ≤ x → x ≤ 8 → g1 x = g2 x) : mostV g1 8 0 1 = mostV g2 8 0 1 := by
 obtain ⟨a2, c2, e2⟩ := mostV_spec g2
 refine mostV_unique a2 (fun x h1 h2 => ?_) (fun x h1 h2 => ?_)
 ·rw [h x h1 h2, h _ a2.1 a2.2]; exact c2 x h1 h2
 ·rw [h x h1 (by omega), h _ a2.1 a2.2]; exact e2 x h1 h2
theorem mostV_scale {g1 g2 : Int → Int} {u v : Int} (hu : 0 < u) (hv : 0 < v) (h : ∀ x, 0 ≤ x → x ≤ 8 → g1 x * u = g2 x * v) : mostV g1 8 0 1 = mostV g2 8 0 1 := by
 obtain ⟨a2, c2, e2⟩ := mostV_spec g2
 refine mostV_unique a2 (fun x h1 h2 => ?_) (fun x h1 h2 => ?_)
 ·have i1 := h x h1 h2
  have i2 := h _ a2.1 a2.2
  have i3 := Int.mul_le_mul_of_nonneg_right (c2 x h1 h2) (Int.le_of_lt hv)
  rw [← i1, ← i2] at i3
  exact Int.le_of_mul_le_mul_right i3 hu
 ·have i1 := h x h1 (by omega)
  have i2 := h _ a2.1 a2.2
  have i3 := Int.mul_lt_mul_of_pos_right (e2 x h1 h2) hv
  rw [← i1, ← i2] at i3
  exact Int.lt_of_mul_lt_mul_right i3 (Int.le_of_lt hu)
theorem sFrom_step (q : Nat) : ∀ (l : List Int) (i : Nat), sFrom ((q : Int) + 1) l i - sFrom (q : Int) l i = l.sum - (l.take (q + 1 - i)).sum
 | [], i => by simp [sFrom]
 | x :: t, i => by
  have ih := sFrom_step q t (i + 1)
  rw [sFrom, sFrom, List.sum_cons]
  by_cases h : i ≤ q
  ·have e1 : mn ((q : Int) + 1) (i : Int) = (i : Int) := by unfold mn; omega
   have e2 : mn (q : Int) (i : Int) = (i : Int) := by unfold mn; omega
   rw [e1, e2, show q + 1 - i = (q - i) + 1 by omega, List.take_succ_cons, List.sum_cons]
   rw [show q + 1 - (i + 1) = q - i by omega] at ih
   omega
  ·have e1 : mn ((q : Int) + 1) (i : Int) = (q : Int) + 1 := by unfold mn; omega
   have e2 : mn (q : Int) (i : Int) = (q : Int) := by unfold mn; omega
   rw [e1, e2, show q + 1 - i = 0 by omega, List.take_zero, List.sum_nil]
   rw [show q + 1 - (i + 1) = 0 by omega, List.take_zero, List.sum_nil] at ih
   rw [Int.mul_add, Int.mul_one]
   omega
theorem salesS_step (l : List Int) (q : Nat) : salesS l ((q : Int) + 1) = salesS l (q : Int) + (l.sum - (l.take (q + 1)).sum) := by
 have := sFrom_step q l 0
 unfold salesS
 rw [Nat.sub_zero] at this
 omega
theorem sFrom_range {q : Int} (hq : 0 ≤ q ∧ q ≤ 8) : ∀ (l : List Int) (i : Nat), (∀ x ∈ l, 0 ≤ x ∧ x ≤ 4) → 0 ≤ sFrom q l i ∧ sFrom q l i ≤ 8 * l.sum
 | [], i, _ => by simp [sFrom]
 | x :: t, i, h => by
  have ih := sFrom_range hq t (i + 1) (fun y hy => h y (List.mem_cons_of_mem _ hy))
  have hx := h x (List.mem_cons_self ..)
  have hm : 0 ≤ mn q (i : Int) ∧ mn q (i : Int) ≤ 8 := by unfold mn; omega
  have h1 : 0 ≤ x * mn q (i : Int) := Int.mul_nonneg hx.1 hm.1
  have h2 : x * mn q (i : Int) ≤ x * 8 := Int.mul_le_mul_of_nonneg_left hm.2 hx.1
  rw [sFrom, List.sum_cons]
  omega
theorem salesS_range {l : List Int} {p m f q : Int} (h : marketB l p m f = true) (hq : 0 ≤ q ∧ q ≤ 8) : 0 ≤ salesS l q ∧ salesS l q ≤ 288 := by
 have hm := marketB_mem h
 have := sFrom_range hq l 0 hm.2.2.1
 unfold salesS
 omega
theorem sellerP_step (l : List Int) (p m f a b c : Int) (q : Nat) : sellerP l p m f a b c ((q : Int) + 1) - sellerP l p m f a b c (q : Int) = c * p * (l.sum - (l.take (q + 1)).sum) + 100 * ((f + b) * (l.take (q + 1)).sum - a * l.sum) := by
 unfold sellerP
 rw [salesS_step]
 generalize salesS l (q : Int) = s
 generalize l.sum = t
 generalize (l.take (q + 1)).sum = u
 have e1 : c * p * (s + (t - u)) = c * p * s + c * p * (t - u) := Int.mul_add _ _ _
 have e2 : t * ((q : Int) + 1) = t * q + t := by rw [Int.mul_add, Int.mul_one]
 have e3 : (f + b) * (t * q + t - (s + (t - u))) = (f + b) * (t * q - s) + (f + b) * u := by rw [← Int.mul_add]; congr 1; omega
 have e4 : a * (t * q + t) = a * (t * q) + a * t := Int.mul_add _ _ _
 rw [e1, e2, e3, e4]
 omega
theorem jointP_seller (l : List Int) (p m f q : Int) : jointP l p m f q = sellerP l p m f m 0 100 q := by
 unfold jointP sellerP
 rw [Int.add_zero, Int.mul_assoc 100 p, ← Int.mul_add]
 congr 1
 omega
theorem jointP_step (l : List Int) (p m f : Int) (q : Nat) : jointP l p m f ((q : Int) + 1) - jointP l p m f (q : Int) = 100 * (l.sum * (p - m) - (l.take (q + 1)).sum * (p - f)) := by
 rw [jointP_seller, jointP_seller, sellerP_step, Int.add_zero]
 generalize l.sum = t
 generalize (l.take (q + 1)).sum = u
 rw [Int.mul_assoc, ← Int.mul_add]
 congr 1
 rw [Int.mul_sub, Int.mul_sub, Int.mul_sub, Int.mul_comm p t, Int.mul_comm p u, Int.mul_comm m t, Int.mul_comm f u]
 omega
theorem sellerP_joint (l : List Int) (p m f a b c q : Int) : sellerP l p m f a b c q + makerP l p m f a b c q = jointP l p m f q := by
 unfold sellerP makerP jointP
 generalize salesS l q = s
 generalize l.sum * q = t
 have e1 : (100 - c) * p * s = 100 * (p * s) - c * p * s := by rw [Int.sub_mul, Int.sub_mul, Int.mul_assoc 100 p s]
 have e2 : (f + b) * (t - s) = f * (t - s) + b * (t - s) := Int.add_mul _ _ _
 have e3 : (a - m) * t = a * t - m * t := Int.sub_mul _ _ _
 rw [e1, e2, e3]
 omega
theorem take_mono {l : List Int} (h : ∀ x ∈ l, 0 ≤ x) (i : Nat) : (l.take i).sum ≤ (l.take (i + 1)).sum := by
 by_cases hi : i < l.length
 ·rw [take_snoc_sum hi]
  have := h _ (List.getElem_mem hi)
  omega
 ·rw [List.take_of_length_le (by omega), List.take_of_length_le (by omega)]
  exact Int.le_refl _
theorem take_mono2 {l : List Int} (h : ∀ x ∈ l, 0 ≤ x) (i : Nat) : ∀ d, (l.take i).sum ≤ (l.take (i + d)).sum
 | 0 => Int.le_refl _
 | d + 1 => Int.le_trans (take_mono2 h i d) (take_mono h (i + d))
theorem take_le {l : List Int} (h : ∀ x ∈ l, 0 ≤ x) (i : Nat) : (l.take i).sum ≤ l.sum := by
 have := take_mono2 h i l.length
 rw [List.take_of_length_le (l := l) (i := i + l.length) (by omega)] at this
 exact this
theorem most_turn {g : Int → Int} {n : Nat} (hn : n ≤ 8) (h1 : ∀ q : Nat, q < n → g (q : Int) < g ((q : Int) + 1)) (h2 : ∀ q : Nat, n ≤ q → q < 8 → g ((q : Int) + 1) ≤ g (q : Int)) : mostV g 8 0 1 = (n : Int) := by
 have up : ∀ d : Nat, d ≤ n → ∀ x : Nat, x + d = n → 0 < d → g (x : Int) < g (n : Int) := by
  intro d
  induction d with
  | zero => intro _ x _ h; omega
  | succ d ih =>
   intro hd x hx _
   have s1 := h1 x (by omega)
   by_cases hz : d = 0
   ·rw [show (n : Int) = (x : Int) + 1 by omega]; exact s1
   ·have := ih (by omega) (x + 1) (by omega) (by omega)
    rw [show ((x + 1 : Nat) : Int) = (x : Int) + 1 by omega] at this
    omega
 have down : ∀ d : Nat, n + d ≤ 8 → g ((n + d : Nat) : Int) ≤ g (n : Int) := by
  intro d
  induction d with
  | zero => intro _; exact Int.le_refl _
  | succ d ih =>
   intro hd
   have s1 := h2 (n + d) (by omega) (by omega)
   have s2 := ih (by omega)
   rw [show ((n + (d + 1) : Nat) : Int) = ((n + d : Nat) : Int) + 1 by omega]
   omega
 refine mostV_unique (by omega) (fun x hx h8 => ?_) (fun x hx hlt => ?_)
 ·by_cases hc : x < (n : Int)
  ·have := up (n - x.toNat) (by omega) x.toNat (by omega) (by omega)
   rw [show ((x.toNat : Nat) : Int) = x by omega] at this
   omega
  ·have := down (x.toNat - n) (by omega)
   rw [show ((n + (x.toNat - n) : Nat) : Int) = x by omega] at this
   exact this
 ·have := up (n - x.toNat) (by omega) x.toNat (by omega) (by omega)
  rw [show ((x.toNat : Nat) : Int) = x by omega] at this
  exact this
theorem quotFrom_spec (g : Nat → Bool) (d : Nat) : ∀ q, ∃ n : Nat, quotFrom g d q = (n : Int) ∧ q ≤ n ∧ n ≤ q + d ∧ (∀ j, q ≤ j → j < n → g j = true) ∧ (n < q + d → g n = false) := by
 induction d with
 | zero => intro q; exact ⟨q, rfl, Nat.le_refl _, Nat.le_refl _, fun j h1 h2 => by omega, fun h => by omega⟩
 | succ d ih =>
  intro q
  rw [quotFrom]
  by_cases h : g q = true
  ·rw [if_pos h]
   obtain ⟨n, h1, h2, h3, h4, h5⟩ := ih (q + 1)
   refine ⟨n, h1, by omega, by omega, fun j h6 h7 => ?_, fun h6 => h5 (by omega)⟩
   by_cases he : j = q
   ·rw [he]; exact h
   ·exact h4 j (by omega) h7
  ·rw [if_neg h]
   exact ⟨q, rfl, Nat.le_refl _, by omega, fun j h1 h2 => by omega, fun _ => by simpa using h⟩
theorem jointP_wrap {l : List Int} {p m f q : Int} (h : marketB l p m f = true) (hq : 0 ≤ q ∧ q ≤ 8) : wrap64 (jointP l p m f q) = jointP l p m f q ∧ -100000000 ≤ jointP l p m f q ∧ jointP l p m f q ≤ 100000000 := by
 have hm := marketB_mem h
 have hs := salesS_range h hq
 have b0 := mul_small (A := 36) (B := 8) (x := l.sum) (y := q) (by omega) (by omega)
 have b1 := mul_small (A := 99) (B := 288) (x := p) (y := salesS l q) (by omega) (by omega)
 have b2 := mul_small (A := 99) (B := 576) (x := f) (y := l.sum * q - salesS l q) (by omega) (by omega)
 have b3 := mul_small (A := 99) (B := 288) (x := m) (y := l.sum * q) (by omega) (by omega)
 unfold jointP
 have : -100000000 ≤ 100 * (p * salesS l q + f * (l.sum * q - salesS l q) - m * (l.sum * q)) ∧ 100 * (p * salesS l q + f * (l.sum * q - salesS l q) - m * (l.sum * q)) ≤ 100000000 := by omega
 exact ⟨w64 (by omega) (by omega), this⟩
theorem sellerP_wrap {l : List Int} {p m f a b c q : Int} (h : marketB l p m f = true) (hk : contractB a b c = true) (hq : 0 ≤ q ∧ q ≤ 8) : wrap64 (sellerP l p m f a b c q) = sellerP l p m f a b c q ∧ -100000000 ≤ sellerP l p m f a b c q ∧ sellerP l p m f a b c q ≤ 100000000 := by
 have hm := marketB_mem h
 have hk := contractB_mem hk
 have hs := salesS_range h hq
 have b0 := mul_small (A := 36) (B := 8) (x := l.sum) (y := q) (by omega) (by omega)
 have b4 := mul_small (A := 100) (B := 99) (x := c) (y := p) (by omega) (by omega)
 have b1 := mul_small (A := 9900) (B := 288) (x := c * p) (y := salesS l q) (by omega) (by omega)
 have b2 := mul_small (A := 198) (B := 576) (x := f + b) (y := l.sum * q - salesS l q) (by omega) (by omega)
 have b3 := mul_small (A := 99) (B := 288) (x := a) (y := l.sum * q) (by omega) (by omega)
 unfold sellerP
 have : -100000000 ≤ c * p * salesS l q + 100 * ((f + b) * (l.sum * q - salesS l q) - a * (l.sum * q)) ∧ c * p * salesS l q + 100 * ((f + b) * (l.sum * q - salesS l q) - a * (l.sum * q)) ≤ 100000000 := by omega
 exact ⟨w64 (by omega) (by omega), this⟩
theorem bestV_eq {l : List Int} {p m f : Int} (h : marketB l p m f = true) : bestV l p m f = mostV (jointP l p m f) 8 0 1 := mostV_congr fun x h1 h2 => (jointP_wrap h ⟨h1, h2⟩).1
theorem soldV_eq {l : List Int} {p m f a b c : Int} (h : marketB l p m f = true) (hk : contractB a b c = true) : soldV l p m f a b c = mostV (sellerP l p m f a b c) 8 0 1 := mostV_congr fun x h1 h2 => (sellerP_wrap h hk ⟨h1, h2⟩).1
theorem quotV_best {l : List Int} {p m f : Int} (h : marketB l p m f = true) (hf : p ≠ f) : (quotV l p m f).1 = bestV l p m f := by
 have hm := marketB_mem h
 unfold quotV
 rw [if_pos h, if_neg hf, bestV_eq h]
 obtain ⟨n, h1, _, h3, h4, h5⟩ := quotFrom_spec (quotT l p m f) (l.length - 1) 0
 dsimp only
 rw [h1]
 have hend : quotT l p m f n = false := by
  by_cases hn : n < 0 + (l.length - 1)
  ·exact h5 hn
  ·exact quot_end h hf n (by omega)
 have hnn : ∀ x ∈ l, 0 ≤ x := fun x hx => (hm.2.2.1 x hx).1
 refine (most_turn (by omega) (fun q hq => ?_) (fun q hq h8 => ?_)).symm
 ·have s := jointP_step l p m f q
  have t := of_decide_eq_true (h4 q (by omega) hq)
  omega
 ·have s := jointP_step l p m f q
  have t := of_decide_eq_false hend
  have u := take_mono2 hnn (n + 1) (q - n)
  rw [show n + 1 + (q - n) = q + 1 by omega] at u
  have v := Int.mul_le_mul_of_nonneg_right u (show 0 ≤ p - f by omega)
  omega
theorem jointP_concave {l : List Int} {p m f : Int} (h : marketB l p m f = true) (q : Nat) : jointP l p m f ((q : Int) + 2) - jointP l p m f ((q : Int) + 1) ≤ jointP l p m f ((q : Int) + 1) - jointP l p m f (q : Int) := by
 have hm := marketB_mem h
 have s := jointP_step l p m f q
 have t := jointP_step l p m f (q + 1)
 rw [show ((q + 1 : Nat) : Int) = (q : Int) + 1 by omega, show (q : Int) + 1 + 1 = (q : Int) + 2 by omega] at t
 have u := take_mono (fun x hx => (hm.2.2.1 x hx).1) (q + 1)
 have v := Int.mul_le_mul_of_nonneg_right u (show 0 ≤ p - f by omega)
 omega
theorem sellerP_pay (l : List Int) (p m f a a' b c q : Int) : sellerP l p m f a b c q - sellerP l p m f a' b c q = 100 * ((a' - a) * (l.sum * q)) := by
 unfold sellerP
 rw [Int.sub_mul]
 omega
theorem sold_mono {l : List Int} {p m f a a' : Int} (h : marketB l p m f = true) (ha : 0 ≤ a ∧ a ≤ a' ∧ a' ≤ 99) : soldV l p m f a' 0 100 ≤ soldV l p m f a 0 100 := by
 have hm := marketB_mem h
 have k1 : contractB a 0 100 = true := by unfold contractB; simp [inB]; omega
 have k2 : contractB a' 0 100 = true := by unfold contractB; simp [inB]; omega
 rw [soldV_eq h k1, soldV_eq h k2]
 refine mostV_mono (fun x y h1 h2 h3 => ?_)
 rw [sellerP_pay, sellerP_pay]
 have u := Int.mul_le_mul_of_nonneg_left h2 (show 0 ≤ l.sum by omega)
 have v := Int.mul_le_mul_of_nonneg_left u (show 0 ≤ a' - a by omega)
 omega
theorem sold_best {l : List Int} {p m f : Int} (h : marketB l p m f = true) : soldV l p m f m 0 100 = bestV l p m f := by
 have hm := marketB_mem h
 have k1 : contractB m 0 100 = true := by unfold contractB; simp [inB]; omega
 rw [soldV_eq h k1, bestV_eq h]
 exact mostV_congr fun x _ _ => (jointP_seller l p m f x).symm
theorem bestV_range {l : List Int} {p m f : Int} : 0 ≤ bestV l p m f ∧ bestV l p m f ≤ 8 := (mostV_spec _).1
theorem soldV_range {l : List Int} {p m f a b c : Int} : 0 ≤ soldV l p m f a b c ∧ soldV l p m f a b c ≤ 8 := (mostV_spec _).1
theorem lossV_eq {l : List Int} {p m f a b c : Int} (h : marketB l p m f = true) : lossV l p m f a b c = jointP l p m f (bestV l p m f) - jointP l p m f (soldV l p m f a b c) ∧ 0 ≤ lossV l p m f a b c := by
 have b1 := jointP_wrap h (bestV_range (l := l) (p := p) (m := m) (f := f))
 have b2 := jointP_wrap h (soldV_range (l := l) (p := p) (m := m) (f := f) (a := a) (b := b) (c := c))
 have hx := (mostV_spec (jointP l p m f)).2.1 (soldV l p m f a b c) soldV_range.1 soldV_range.2
 rw [← bestV_eq h] at hx
 unfold lossV
 rw [b1.1, b2.1, w64 (by omega) (by omega)]
 exact ⟨rfl, by omega⟩
theorem prop_part {l : List Int} {p m f a b c : Int} (hq : (c * p - 100 * (f + b)) * (f - m) = 100 * (f + b - a) * (p - f)) (q : Int) : sellerP l p m f a b c q * (100 * (p - f)) = jointP l p m f q * (c * p - 100 * (f + b)) := by
 unfold sellerP jointP
 generalize salesS l q = s
 generalize l.sum * q = t
 have e1 : c * p * s + 100 * ((f + b) * (t - s) - a * t) = (c * p - 100 * (f + b)) * s + 100 * (f + b - a) * t := by
  rw [Int.sub_mul, Int.mul_assoc 100 (f + b) s, Int.mul_assoc 100 (f + b - a) t, Int.sub_mul (f + b) a t, Int.mul_sub (f + b) t s]
  omega
 have e2 : p * s + f * (t - s) - m * t = (p - f) * s + (f - m) * t := by
  rw [Int.mul_sub, Int.sub_mul, Int.sub_mul]; omega
 rw [e1, e2]
 generalize hA : c * p - 100 * (f + b) = A at *
 generalize hB : 100 * (f + b - a) = B at *
 rw [Int.add_mul]
 have e3 : B * t * (100 * (p - f)) = 100 * (A * (f - m)) * t := by
  rw [hq, Int.mul_assoc B t, Int.mul_comm t, ← Int.mul_assoc B, ← Int.mul_assoc B, Int.mul_comm B 100, Int.mul_assoc 100 B]
 have e4 : A * s * (100 * (p - f)) = 100 * (A * (p - f)) * s := by
  rw [Int.mul_assoc A s, Int.mul_comm s, ← Int.mul_assoc A, ← Int.mul_assoc A, Int.mul_comm A 100, Int.mul_assoc 100 A]
 rw [e3, e4, Int.mul_assoc 100 (A * (p - f)) s, Int.mul_assoc 100 (A * (f - m)) t, ← Int.mul_add, Int.mul_assoc A, Int.mul_assoc A, ← Int.mul_add, Int.mul_comm A, ← Int.mul_assoc]
theorem prop_sold {l : List Int} {p m f a b c : Int} (h : marketB l p m f = true) (hk : contractB a b c = true) (hp : propB p m f a b c = true) (hf : p ≠ f) : soldV l p m f a b c = bestV l p m f := by
 have hm := marketB_mem h
 have hc := contractB_mem hk
 obtain ⟨h1, h2⟩ := (propB_iff hm.2.2.2.2.1 hm.2.2.2.2.2.1 hm.2.2.2.2.2.2 hc.1 hc.2.1 hc.2.2).1 hp
 rw [soldV_eq h hk, bestV_eq h]
 exact mostV_scale (u := 100 * (p - f)) (by omega) h1 (fun x _ _ => prop_part h2 x)
theorem prop_loss {l : List Int} {p m f a b c : Int} (h : marketB l p m f = true) (hk : contractB a b c = true) (hp : propB p m f a b c = true) (hf : p ≠ f) : lossV l p m f a b c = 0 := by
 rw [(lossV_eq h).1, prop_sold h hk hp hf]
 omega

theorem wf_u8 {x : Int} (h : (Lit.int .u8 x).wf = true) : 0 ≤ x ∧ x ≤ 255 := by
 simp [Lit.wf, IntKind.min, IntKind.max, IntKind.signed, IntKind.bits] at h
 omega

theorem jpFrom_get (l : List Int) (p m f : Int) (d : Nat) : ∀ (q : Int) (j : Nat), j < d → (jpFrom l p m f d q)[j]? = some (wrap64 (jointP l p m f (q + j))) := by
 induction d with
 | zero => intro q j h; omega
 | succ d ih =>
  intro q j h
  cases j with
  | zero => rw [jpFrom]; simp
  | succ j =>
   rw [jpFrom, List.getElem?_cons_succ, ih (q + 1) j (by omega)]
   rw [show q + 1 + (j : Int) = q + ((j + 1 : Nat) : Int) by omega]
theorem jp_rd {l : List Int} {p m f : Int} (hM : marketB l p m f = true) {j : Nat} (hj : j < 9) : rd (jpFrom l p m f 9 0) (j : Int) = jointP l p m f (j : Int) := by
 have h := jpFrom_get l p m f 9 0 j hj
 unfold rd
 rw [List.getD_eq_getElem?_getD, Int.toNat_natCast, h, Option.getD_some, Int.zero_add]
 exact (jointP_wrap hM (by omega)).1
theorem bestA2_spec (L : List S67) (d : Nat) : ∀ (i b : Nat), b < i → i + d ≤ L.length → (∀ q, q < i → (rd_T67 L (q : Int)).f1 ≤ (rd_T67 L (b : Int)).f1) → bestA2 L d i b < i + d ∧ ∀ q, q < i + d → (rd_T67 L (q : Int)).f1 ≤ (rd_T67 L (bestA2 L d i b : Int)).f1 := by
 induction d with
 | zero => intro i b hb hi h; exact ⟨hb, h⟩
 | succ d ih =>
  intro i b hb hi h
  rw [bestA2, show i + (d + 1) = i + 1 + d by omega]
  by_cases hc : (rd_T67 L (i : Int)).f1 > (rd_T67 L (b : Int)).f1
  ·rw [if_pos hc]
   refine ih (i + 1) i (by omega) (by omega) (fun q hq => ?_)
   by_cases he : q = i
   ·rw [he]; exact Int.le_refl _
   ·have := h q (by omega); omega
  ·rw [if_neg hc]
   refine ih (i + 1) b (by omega) (by omega) (fun q hq => ?_)
   by_cases he : q = i
   ·rw [he]; omega
   ·exact h q (by omega)
theorem plains_rd {l : List Int} {p m f : Int} (hM : marketB l p m f = true) {i : Nat} (hi : i < (plainsV l p m f).length) : (rd_T67 (plainsV l p m f) (i : Int)).f0 = soldV l p m f (m + (i : Int)) 0 100 ∧ m + (i : Int) ≤ p := by
 have hm := marketB_mem hM
 have hi2 := hi
 simp only [plainsV, mapFrom_length] at hi2
 have e : rd_T67 (plainsV l p m f) (i : Int) = plainAt l p m f (m.toNat + i) := by
  rw [rdA2_nat hi]
  exact mapFrom_get _ _ _ _ _
 rw [e]
 refine ⟨?_, by omega⟩
 show soldV l p m f ((m.toNat + i : Nat) : Int) 0 100 = _
 rw [show ((m.toNat + i : Nat) : Int) = m + (i : Int) by omega]
theorem FP_l1 (l : List Int) (p m f : Int) (hM : marketB l p m f = true) (idx : Nat) (hidx : idx < (plainsV l p m f).length) (hbest : ∀ q, q < (plainsV l p m f).length → (rd_T67 (plainsV l p m f) (q : Int)).f1 ≤ (rd_T67 (plainsV l p m f) (idx : Int)).f1) (d : Nat) : ∀ i : Nat, i + d = (plainsV l p m f).length → Ev (fun k => laws_FnProfits.l1 k (bestV l p m f) (plainsV l p m f) (m + (idx : Int)) (i : Int) l p m f) true := by
 have hm := marketB_mem hM
 have hL : (plainsV l p m f).length ≤ 100 := by simp only [plainsV, mapFrom_length]; omega
 have e0 : wrap64 (m + (idx : Int) - m) = (idx : Int) := by rw [w64 (by omega) (by omega)]; omega
 have g1 : (0 : Int) ≤ (idx : Int) := by omega
 have g2 : (idx : Int) < ((plainsV l p m f).length : Int) := by omega
 induction d with
 | zero =>
  intro i hi
  refine ev_succ ?_
  have h1 : ¬ (i : Int) < ((plainsV l p m f).length : Int) := by omega
  simp only [laws_FnProfits.l1, h1, ↓reduceIte]
  exact Ev.now _
 | succ d ih =>
  intro i hi
  refine ev_succ ?_
  have h1 : (i : Int) < ((plainsV l p m f).length : Int) := by omega
  have h0 : (0 : Int) ≤ (i : Int) := by omega
  have hi' : i < (plainsV l p m f).length := by omega
  obtain ⟨r1, r2⟩ := plains_rd hM hi'
  have c1 : ¬ (rd_T67 (plainsV l p m f) (i : Int)).f0 > bestV l p m f := by
   rw [r1, ← sold_best hM]
   have := sold_mono (a := m) (a' := m + (i : Int)) hM (by omega)
   omega
  have c2 : ¬ (rd_T67 (plainsV l p m f) (i : Int)).f1 > (rd_T67 (plainsV l p m f) (idx : Int)).f1 := by
   have := hbest i hi'; omega
  simp only [laws_FnProfits.l1, h1, h0, c1, c2, e0, g1, g2, ↓reduceIte, w64_nat hi' (by omega : (plainsV l p m f).length ≤ 9223372036854775807)]
  refine ev_ite (fun hp => ?_) (fun _ => ih (i + 1) (by omega))
  have e1 : wrap64 ((i : Int) - 1) = ((i - 1 : Nat) : Int) := by rw [w64 (by omega) (by omega)]; omega
  have e2 : (0 : Int) ≤ ((i - 1 : Nat) : Int) := by omega
  have e3 : ((i - 1 : Nat) : Int) < ((plainsV l p m f).length : Int) := by omega
  obtain ⟨r3, r4⟩ := plains_rd hM (i := i - 1) (by omega)
  have c3 : ¬ (rd_T67 (plainsV l p m f) (i : Int)).f0 > (rd_T67 (plainsV l p m f) ((i - 1 : Nat) : Int)).f0 := by
   rw [r1, r3]
   have := sold_mono (a := m + ((i - 1 : Nat) : Int)) (a' := m + (i : Int)) hM (by omega)
   omega
  simp only [e1, e2, e3, c3, ↓reduceIte]
  exact ih (i + 1) (by omega)
theorem FP_l0 (l : List Int) (p m f pay : Int) (L : List S67) (hM : marketB l p m f = true) (hnext : Ev (fun k => laws_FnProfits.l1 k (bestV l p m f) L pay 0 l p m f) true) (d : Nat) : ∀ i : Nat, i + d = 9 → Ev (fun k => laws_FnProfits.l0 k (jpFrom l p m f 9 0) (bestV l p m f) L pay (i : Int) l p m f) true := by
 have hlen : (jpFrom l p m f 9 0).length = 9 := jpFrom_length l p m f 9 0
 have hb := bestV_range (l := l) (p := p) (m := m) (f := f)
 obtain ⟨bn, hbn⟩ : ∃ bn : Nat, bestV l p m f = (bn : Int) := ⟨(bestV l p m f).toNat, by omega⟩
 induction d with
 | zero =>
  intro i hi
  refine ev_succ ?_
  have h1 : ¬ (i : Int) < ((jpFrom l p m f 9 0).length : Int) := by rw [hlen]; omega
  simp only [laws_FnProfits.l0, h1, ↓reduceIte]
  exact hnext
 | succ d ih =>
  intro i hi
  refine ev_succ ?_
  have h1 : (i : Int) < ((jpFrom l p m f 9 0).length : Int) := by rw [hlen]; omega
  have h0 : (0 : Int) ≤ (i : Int) := by omega
  have h2 : 0 ≤ bestV l p m f := hb.1
  have h3 : bestV l p m f < ((jpFrom l p m f 9 0).length : Int) := by rw [hlen]; omega
  have c1 : ¬ rd (jpFrom l p m f 9 0) (i : Int) > rd (jpFrom l p m f 9 0) (bestV l p m f) := by
   have := (mostV_spec (jointP l p m f)).2.1 (i : Int) (by omega) (by omega)
   rw [← bestV_eq hM] at this
   rw [jp_rd hM (by omega)]
   rw [hbn] at this ⊢
   rw [jp_rd hM (by omega)]
   omega
  have e9 : wrap64 ((i : Int) + 1) = ((i + 1 : Nat) : Int) := w64_nat (n := 9) (by omega) (by omega)
  simp only [laws_FnProfits.l0, h1, h0, h2, h3, c1, e9, ↓reduceIte]
  refine ev_ite (fun hp => ?_) (fun _ => ih (i + 1) (by omega))
  have e1 : wrap64 ((i : Int) - 1) = ((i - 1 : Nat) : Int) := by rw [w64 (by omega) (by omega)]; omega
  have e2 : wrap64 ((i : Int) - 2) = ((i - 2 : Nat) : Int) := by rw [w64 (by omega) (by omega)]; omega
  have g1 : (0 : Int) ≤ ((i - 1 : Nat) : Int) := by omega
  have g2 : ((i - 1 : Nat) : Int) < ((jpFrom l p m f 9 0).length : Int) := by rw [hlen]; omega
  have g3 : (0 : Int) ≤ ((i - 2 : Nat) : Int) := by omega
  have g4 : ((i - 2 : Nat) : Int) < ((jpFrom l p m f 9 0).length : Int) := by rw [hlen]; omega
  have b0 := (jointP_wrap hM (q := (i : Int)) (by omega)).2
  have b1 := (jointP_wrap hM (q := ((i - 1 : Nat) : Int)) (by omega)).2
  have b2 := (jointP_wrap hM (q := ((i - 2 : Nat) : Int)) (by omega)).2
  have hcv := jointP_concave hM (i - 2)
  rw [show ((i - 2 : Nat) : Int) + 2 = (i : Int) by omega, show ((i - 2 : Nat) : Int) + 1 = ((i - 1 : Nat) : Int) by omega] at hcv
  have r0 := jp_rd hM (j := i) (by omega)
  have r1 := jp_rd hM (j := i - 1) (by omega)
  have r2 := jp_rd hM (j := i - 2) (by omega)
  have c2 : ¬ wrap64 (rd (jpFrom l p m f 9 0) (i : Int) - rd (jpFrom l p m f 9 0) ((i - 1 : Nat) : Int)) > wrap64 (rd (jpFrom l p m f 9 0) ((i - 1 : Nat) : Int) - rd (jpFrom l p m f 9 0) ((i - 2 : Nat) : Int)) := by
   rw [r0, r1, r2, w64 (by omega) (by omega), w64 (by omega) (by omega)]
   omega
  simp only [e1, e2, g1, g2, g3, g4, c2, ↓reduceIte]
  exact ih (i + 1) (by omega)
theorem FP_j9 (l : List Int) (p m f : Int) : Ev (fun k => laws_FnProfits.j9 k (oV_JointProfits l p m f).1 (oV_JointProfits l p m f).2 (oV_JointOrder l p m f).1 (quotV l p m f).1 (quotV l p m f).2 (plainV l p m f).1 (bestPlainV l p m f).1 false l p m f) true := by
 refine ev_succ ?_
 by_cases hM : marketB l p m f = true
 ·have hm := marketB_mem hM
  have v1 : oV_JointProfits l p m f = (jpFrom l p m f 9 0, true) := by unfold oV_JointProfits; rw [if_pos hM]
  have v2 : oV_JointOrder l p m f = (bestV l p m f, true) := by unfold oV_JointOrder; rw [if_pos hM]
  have v3 : plainV l p m f = (plainsV l p m f, true) := by unfold plainV; rw [if_pos hM]
  have hL : 0 < (plainsV l p m f).length := by simp only [plainsV, mapFrom_length]; omega
  have hL2 : (plainsV l p m f).length ≤ 100 := by simp only [plainsV, mapFrom_length]; omega
  obtain ⟨q1, q2⟩ := bestA2_spec (plainsV l p m f) ((plainsV l p m f).length - 1) 1 0 (by omega) (by omega) (fun q hq => by rw [show q = 0 by omega]; exact Int.le_refl _)
  rw [show 1 + ((plainsV l p m f).length - 1) = (plainsV l p m f).length by omega] at q1 q2
  have v4 : (bestPlainV l p m f).1 = m + ((bestA2 (plainsV l p m f) ((plainsV l p m f).length - 1) 1 0 : Nat) : Int) := by
   unfold bestPlainV
   rw [if_pos hM]
   exact w64 (by omega) (by omega)
  rw [v1, v2, v3, v4]
  have hgo : Ev (fun k => laws_FnProfits.j10 k (jpFrom l p m f 9 0) (bestV l p m f) (plainsV l p m f) (m + ((bestA2 (plainsV l p m f) ((plainsV l p m f).length - 1) 1 0 : Nat) : Int)) false l p m f) true := by
   refine ev_succ ?_
   simp only [laws_FnProfits.j10, Bool.false_eq_true, ↓reduceIte]
   exact FP_l0 l p m f _ _ hM (FP_l1 l p m f hM _ q1 q2 (plainsV l p m f).length 0 (by omega)) 9 0 (by omega)
  simp only [laws_FnProfits.j9, Bool.false_eq_true, ↓reduceIte]
  refine ev_ite (fun hq => ?_) (fun _ => hgo)
  have hf : p ≠ f := by
   intro he
   unfold quotV at hq
   rw [if_pos hM, if_pos he] at hq
   cases hq
  rw [quotV_best hM hf]
  simp only [bne_self_eq_false]
  exact hgo
 ·have v1 : oV_JointProfits l p m f = ([], false) := by unfold oV_JointProfits; rw [if_neg hM]
  rw [v1]
  simp only [laws_FnProfits.j9, Bool.false_eq_true, ↓reduceIte]
  exact Ev.now _
theorem FP_j8 (l : List Int) (p m f x6 x10 x14 : Int) (x7 : Bool) (h7 : x7 = true → wrap64 (x6 + x10) = x14) : Ev (fun k => laws_FnProfits.j8 k x6 x7 x10 x14 (oV_JointProfits l p m f).1 (oV_JointProfits l p m f).2 (oV_JointOrder l p m f).1 (quotV l p m f).1 (quotV l p m f).2 (plainV l p m f).1 (bestPlainV l p m f).1 false l p m f) true := by
 have h9 := FP_j9 l p m f
 refine ev_succ ?_
 simp only [laws_FnProfits.j8, Bool.false_eq_true, ↓reduceIte]
 refine ev_ite (fun hq => ?_) (fun _ => h9)
 rw [h7 hq]
 simp only [bne_self_eq_false]
 exact h9
theorem FP_j3 (l : List Int) (hl : l.length ≤ 100) (p m f x6 x10 x14 : Int) (x7 : Bool) (h7 : x7 = true → wrap64 (x6 + x10) = x14) : Ev (fun k => laws_FnProfits.j3 k x6 x7 x10 x14 false l p m f) true := by
 have h8 := FP_j8 l p m f x6 x10 x14 x7 h7
 have s1 : (oV_JointProfits l p m f).2 = marketB l p m f := by unfold oV_JointProfits; cases marketB l p m f <;> rfl
 have s2 : (oV_JointOrder l p m f).2 = marketB l p m f := by unfold oV_JointOrder; cases marketB l p m f <;> rfl
 have s3 : (plainV l p m f).2 = marketB l p m f := by unfold plainV; cases marketB l p m f <;> rfl
 have s4 : (bestPlainV l p m f).2 = marketB l p m f := by unfold bestPlainV; cases marketB l p m f <;> rfl
 have n1 := oV_JointProfits_length l p m f
 have n2 := plainV_length l p m f
 have u1 := ev_impl_JointProfits l p m f (by omega)
 have u1' := ev_spec_JointProfits l p m f (by omega)
 have u2 := ev_impl_JointOrder l p m f (by omega)
 have u2' := ev_spec_JointOrder l p m f (by omega)
 have u3 := ev_impl_QuotientOrder l p m f (by omega)
 have u3' := ev_spec_QuotientOrder l p m f (by omega)
 have u4 := ev_impl_PlainContracts l p m f (by omega)
 have u4' := ev_spec_PlainContracts l p m f (by omega)
 have u5 := ev_impl_BestPlain l p m f (by omega)
 have u5' := ev_spec_BestPlain l p m f (by omega)
 have u6 := ev_impl_IsMarket l p m f (by omega)
 generalize oV_JointProfits l p m f = JP at *
 generalize oV_JointOrder l p m f = JO at *
 generalize plainV l p m f = PL at *
 generalize bestPlainV l p m f = BP at *
 generalize quotV l p m f = QU at *
 generalize marketB l p m f = M at *
 refine ev_succ ?_
 simp only [laws_FnProfits.j3, Bool.false_eq_true, ↓reduceIte]
 refine Ev.bind u1 ?_
 refine Ev.bind u1' ?_
 simp only [bne_self_eq_false, Bool.false_eq_true, ↓reduceIte]
 refine Ev.bind u6 ?_
 simp only [s1, bne_self_eq_false, Bool.false_eq_true, ↓reduceIte]
 refine Ev.bind (ev_laws_rInts_self _ (by omega)) ?_
 refine ev_succ ?_
 simp only [laws_FnProfits.j4, Bool.not_true, Bool.false_eq_true, ↓reduceIte]
 refine Ev.bind u2 ?_
 refine Ev.bind u2' ?_
 simp only [s2, bne_self_eq_false, Bool.false_eq_true, ↓reduceIte]
 refine ev_succ ?_
 simp only [laws_FnProfits.j5, Bool.false_eq_true, ↓reduceIte]
 refine Ev.bind u3 ?_
 refine Ev.bind u3' ?_
 simp only [bne_self_eq_false, Bool.false_eq_true, ↓reduceIte]
 refine ev_succ ?_
 simp only [laws_FnProfits.j6, Bool.false_eq_true, ↓reduceIte]
 refine Ev.bind u4 ?_
 refine Ev.bind u4' ?_
 simp only [s3, bne_self_eq_false, Bool.false_eq_true, ↓reduceIte]
 refine Ev.bind (ev_laws_rPairs_self _ (by omega)) ?_
 refine ev_succ ?_
 simp only [laws_FnProfits.j7, Bool.not_true, Bool.false_eq_true, ↓reduceIte]
 refine Ev.bind u5 ?_
 refine Ev.bind u5' ?_
 simp only [s4, bne_self_eq_false, Bool.false_eq_true, ↓reduceIte]
 rw [s1] at h8
 exact h8
theorem FnProfits (l0 : List (Int)) (h0 : l0.length ≤ 9223372036854775807) (w0 : ∀ y ∈ l0, (Lit.int .u8 y).wf = true) : ∃ k, laws_FnProfits.f k l0 = some true := by
 refine Ev.rounds ?_
 have hl : codeOk l0 := fun x hx => wf_u8 (w0 x hx)
 unfold laws_FnProfits.f
 simp only [laws_rBig.f, Option.bind_some]
 refine ev_ite (fun h => Ev.now _) (fun _ => ?_)
 obtain ⟨U, p, m, f, a, b, c, q, h1, hU⟩ := ev_spec_DrawSellerProfit l0 hl
 refine Ev.bind h1 ?_
 dsimp only
 refine Ev.bind (ev_impl_SellerProfit U p m f a b c q (by omega)) ?_
 refine Ev.bind (ev_spec_SellerProfit U p m f a b c q (by omega)) ?_
 simp only [bne_self_eq_false, ↓reduceIte]
 refine ev_succ ?_
 simp only [laws_FnProfits.j0, Bool.false_eq_true, ↓reduceIte]
 refine Ev.bind (ev_impl_MakerProfit U p m f a b c q (by omega)) ?_
 refine Ev.bind (ev_spec_MakerProfit U p m f a b c q (by omega)) ?_
 simp only [bne_self_eq_false, Bool.false_eq_true, ↓reduceIte]
 have t1 : (oV_MakerProfit U p m f a b c q).2 = (oV_SellerProfit U p m f a b c q).2 := by
  unfold oV_MakerProfit oV_SellerProfit
  cases (marketB U p m f && contractB a b c && inB q 0 8) <;> rfl
 have t2 : (oV_SellerProfit U p m f a b c q).2 = true → (oV_JointProfit U p m f q).2 = true ∧ wrap64 ((oV_SellerProfit U p m f a b c q).1 + (oV_MakerProfit U p m f a b c q).1) = (oV_JointProfit U p m f q).1 := by
  intro h
  unfold oV_SellerProfit at h
  by_cases hD : (marketB U p m f && contractB a b c && inB q 0 8) = true
  ·have hD2 := hD
   simp only [Bool.and_eq_true] at hD2
   have hJ : (marketB U p m f && inB q 0 8) = true := by rw [hD2.1.1, hD2.2]; rfl
   unfold oV_SellerProfit oV_MakerProfit oV_JointProfit
   rw [if_pos hD, if_pos hD, if_pos hJ]
   refine ⟨rfl, ?_⟩
   dsimp only
   rw [w64_add_l, w64_add_r, sellerP_joint]
  ·rw [if_neg hD] at h; cases h
 have t3 : (oV_SalesOf U p m f q).2 = (oV_JointProfit U p m f q).2 := by
  unfold oV_SalesOf oV_JointProfit
  cases (marketB U p m f && inB q 0 8) <;> rfl
 rw [t1]
 simp only [bne_self_eq_false]
 refine ev_succ ?_
 simp only [laws_FnProfits.j1, Bool.false_eq_true, ↓reduceIte]
 refine Ev.bind (ev_impl_JointProfit U p m f q (by omega)) ?_
 refine Ev.bind (ev_spec_JointProfit U p m f q (by omega)) ?_
 simp only [bne_self_eq_false, Bool.false_eq_true, ↓reduceIte]
 have hj2 : Ev (fun k => laws_FnProfits.j2 k q (oV_SellerProfit U p m f a b c q).1 (oV_SellerProfit U p m f a b c q).2 (oV_MakerProfit U p m f a b c q).1 (oV_JointProfit U p m f q).1 (oV_JointProfit U p m f q).2 false U p m f) true := by
  refine ev_succ ?_
  simp only [laws_FnProfits.j2, Bool.false_eq_true, ↓reduceIte]
  refine Ev.bind (ev_impl_SalesOf U p m f q (by omega)) ?_
  refine Ev.bind (ev_spec_SalesOf U p m f q (by omega)) ?_
  simp only [bne_self_eq_false, Bool.false_eq_true, ↓reduceIte, t3]
  exact FP_j3 U (by omega) p m f _ _ _ _ (fun h => (t2 h).2)
 refine ev_ite (fun h => ?_) (fun _ => hj2)
 have := (t2 h).1
 simp only [this, Bool.not_true] at hj2 ⊢
 exact hj2

end Go.Proofs.Ytiniocecpgjikaa.Pure
