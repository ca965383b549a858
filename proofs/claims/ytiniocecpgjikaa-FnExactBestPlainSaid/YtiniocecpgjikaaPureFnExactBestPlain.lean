/- The pure side of FnExactBestPlain: what the program's text computes and what the reference's text computes are the same value, for every argument. No condition. -/
import Derived.Test.YtiniocecpgjikaaPFnExactBestPlainx6
namespace Go.Proofs.Ytiniocecpgjikaa.Pure
open Go.RowKit Go.Proofs.Ytiniocecpgjikaa.PFnExactBestPlain Go.Proofs.YtiniocecpgjikaaW.PrintWords Go.Proofs.YtiniocecpgjikaaW.PrintLast
set_option linter.unusedVariables false
set_option linter.unusedSimpArgs false

theorem ev_succ {α : Type} {g : Nat → Option α} {r : α} (h : Ev (fun k => g (k + 1)) r) : Ev g r := Ev.step (fun _ => rfl) h
theorem ev_pure {α : Type} {x : Option α} {r : α} (h : x = some r) : Ev (fun _ => x) r := ⟨0, fun _ _ => h⟩
theorem ev_eq {α : Type} {g : Nat → Option α} {r r' : α} (h : Ev g r) (e : r = r') : Ev g r' := e ▸ h
theorem ev_ite {α : Type} {c : Prop} [Decidable c] {g f : Nat → Option α} {r : α} (h1 : c → Ev g r) (h2 : ¬ c → Ev f r) : Ev (fun k => if c then g k else f k) r := by
  by_cases h : c
  · simp only [h, if_true]; exact h1 h
  · simp only [h, if_false]; exact h2 h
theorem w64 {x : Int} (h : -9223372036854775808 ≤ x) (h' : x ≤ 9223372036854775807) : wrap64 x = x := by unfold wrap64; omega
theorem w64_zero : wrap64 0 = 0 := w64 (by omega) (by omega)
theorem w64_idem (x : Int) : wrap64 (wrap64 x) = wrap64 x := by unfold wrap64; omega
theorem w64_add_l (x y : Int) : wrap64 (wrap64 x + y) = wrap64 (x + y) := by unfold wrap64; omega
theorem w64_add_r (x y : Int) : wrap64 (x + wrap64 y) = wrap64 (x + y) := by unfold wrap64; omega
theorem w64_sub_l (x y : Int) : wrap64 (wrap64 x - y) = wrap64 (x - y) := by unfold wrap64; omega
theorem w64_sub_r (x y : Int) : wrap64 (x - wrap64 y) = wrap64 (x - y) := by unfold wrap64; omega
theorem w64_shift (x k : Int) : wrap64 (x + 18446744073709551616 * k) = wrap64 x := by unfold wrap64; omega
theorem w64_ex (x : Int) : ∃ k, wrap64 x = x + 18446744073709551616 * k := by
  unfold wrap64
  exact ⟨-((x + 9223372036854775808) / 18446744073709551616), by omega⟩
theorem w64_mul_l (x y : Int) : wrap64 (wrap64 x * y) = wrap64 (x * y) := by
  obtain ⟨k, hk⟩ := w64_ex x
  rw [hk, Int.add_mul, Int.mul_assoc, w64_shift]
theorem w64_mul_r (x y : Int) : wrap64 (x * wrap64 y) = wrap64 (x * y) := by
  rw [Int.mul_comm, w64_mul_l, Int.mul_comm]
theorem w64_neg (x : Int) : wrap64 (-wrap64 x) = wrap64 (-x) := by unfold wrap64; omega
theorem w64_range (x : Int) : -9223372036854775808 ≤ wrap64 x ∧ wrap64 x ≤ 9223372036854775807 := by unfold wrap64; omega
theorem w64_nat {i n : Nat} (h : i < n) (hn : n ≤ 9223372036854775807) : wrap64 ((i : Int) + 1) = ((i + 1 : Nat) : Int) := by rw [w64 (by omega) (by omega)]; rfl
theorem wf_range {x : Int} (h : (Lit.int .i64 x).wf = true) : -9223372036854775808 ≤ x ∧ x ≤ 9223372036854775807 := by
  simp [Lit.wf, IntKind.min, IntKind.max, IntKind.signed, IntKind.bits] at h
  omega
theorem rd_nat {l : List Int} {i : Nat} (h : i < l.length) : rd l (i : Int) = l[i] := by
  unfold rd
  simp [List.getD_eq_getElem?_getD, h]
def allB (l : List Int) (a b : Int) : Bool := l.all fun x => decide (a ≤ x ∧ x ≤ b)
def inB (x a b : Int) : Bool := decide (a ≤ x ∧ x ≤ b)
theorem allB_mem {l : List Int} {a b : Int} (h : allB l a b = true) : ∀ x ∈ l, a ≤ x ∧ x ≤ b := by
  intro x hx
  have := List.all_eq_true.1 h x hx
  simpa using this
theorem inB_iff {x a b : Int} : inB x a b = true ↔ a ≤ x ∧ x ≤ b := by unfold inB; simp
theorem sum_le {l : List Int} {b : Int} (hb : ∀ x ∈ l, x ≤ b) : l.sum ≤ l.length * b := by
  induction l with
  | nil => simp
  | cons x l ih =>
    have h1 := hb x (by simp)
    have h2 := ih (fun y hy => hb y (by simp [hy]))
    rw [List.sum_cons, List.length_cons]
    have : ((l.length + 1 : Nat) : Int) * b = l.length * b + b := by rw [Int.natCast_add, Int.add_mul]; simp
    rw [this]; omega
theorem le_sum {l : List Int} {b : Int} (hb : ∀ x ∈ l, b ≤ x) : l.length * b ≤ l.sum := by
  induction l with
  | nil => simp
  | cons x l ih =>
    have h1 := hb x (by simp)
    have h2 := ih (fun y hy => hb y (by simp [hy]))
    rw [List.sum_cons, List.length_cons]
    have : ((l.length + 1 : Nat) : Int) * b = l.length * b + b := by rw [Int.natCast_add, Int.add_mul]; simp
    rw [this]; omega
theorem drop_cons {α : Type} {l : List α} {i : Nat} (h : i < l.length) : l.drop i = l[i] :: l.drop (i + 1) := List.drop_eq_getElem_cons h

theorem laws_szIntS_le (l : List Int) (hl : l.length ≤ 1048576) : laws_szIntS.f l 1048576 = some (1048576 - (l.length : Int)) := by
  unfold laws_szIntS.f
  rw [w64 (by omega) (by omega), if_neg (by omega)]
theorem laws_szIntS_gt (l : List Int) (h : l.length ≤ 9223372036854775807) (hl : 1048576 < l.length) : laws_szIntS.f l 1048576 = some (-1) := by
  unfold laws_szIntS.f
  rw [w64 (by omega) (by omega), if_pos (by omega)]
theorem laws_szIntS_f (l : List Int) (t : Int) (h : l.length ≤ 9223372036854775807) (h0 : 0 ≤ t) (h1 : t ≤ 1048576) : laws_szIntS.f l t = some (if t - (l.length : Int) < 0 then -1 else t - (l.length : Int)) := by
  unfold laws_szIntS.f
  rw [w64 (by omega) (by omega)]
  by_cases hc : t - (l.length : Int) < 0
  · rw [if_pos hc, if_pos hc]
  · rw [if_neg hc, if_neg hc]

theorem laws_szMarket_le (l : List Int) (p m f : Int) (hl : l.length ≤ 1048576) : laws_szMarket.f l p m f 1048576 = some (1048576 - (l.length : Int)) := by
  unfold laws_szMarket.f
  rw [laws_szIntS_le l hl, Option.bind_some, if_neg (by omega)]
theorem laws_szMarket_gt (l : List Int) (p m f : Int) (h : l.length ≤ 9223372036854775807) (hl : 1048576 < l.length) : laws_szMarket.f l p m f 1048576 = some (-1) := by
  unfold laws_szMarket.f
  rw [laws_szIntS_gt l h hl, Option.bind_some, if_pos (by omega)]

theorem ev_laws_toIntS_l0 (l : List Int) (hl : l.length ≤ 9223372036854775807) (d : Nat) : ∀ (i : Nat) (o : List Int), i + d = l.length → o.length = l.length → Ev (fun k => laws_toIntS.l0 k l o (i : Int)) (o.take i ++ l.drop i) := by
  induction d with
  | zero =>
    intro i o hi ho
    refine ev_succ ?_
    have h1 : ¬ (i : Int) < (l.length : Int) := by omega
    simp only [laws_toIntS.l0, h1, ↓reduceIte]
    rw [List.drop_eq_nil_of_le (by omega), List.take_of_length_le (by omega), List.append_nil]
    exact Ev.now _
  | succ d ih =>
    intro i o hi ho
    refine ev_succ ?_
    have h1 : (i : Int) < (l.length : Int) := by omega
    have h2 : (i : Int) < (o.length : Int) := by omega
    have h0 : (0 : Int) ≤ (i : Int) := by omega
    have hi' : i < l.length := by omega
    simp only [laws_toIntS.l0, h1, h2, h0, ↓reduceIte, rd_nat hi', w64_nat hi' hl, Int.toNat_natCast]
    refine ev_eq (ih (i + 1) _ (by omega) (by simp [ho])) ?_
    rw [drop_cons hi', List.take_add_one]
    simp [ho, hi', List.take_set_of_le (Nat.le_refl i)]
theorem ev_laws_toIntS (l : List Int) (hl : l.length ≤ 1048576) : Ev (fun k => laws_toIntS.f k l) l := by
  unfold laws_toIntS.f
  have h0 : (0 : Int) ≤ (l.length : Int) := by omega
  have h1 : ((l.length : Int) : Int).toNat ≤ 35184372088832 := by omega
  simp only [h0, h1, ↓reduceIte]
  simpa using ev_laws_toIntS_l0 l (by omega) l.length 0 (List.replicate ((l.length : Int) : Int).toNat 0) (by omega) (by simp)

theorem ev_laws_toMarket (l : List Int) (p m f : Int) (hl : l.length ≤ 1048576) : Ev (fun k => laws_toMarket.f k l p m f) (l, p, m, f) := by
  unfold laws_toMarket.f
  refine Ev.bind (ev_laws_toIntS l hl) ?_
  exact Ev.now _

theorem ev_laws_eqIntS_l0 (l m : List Int) (hl : l.length ≤ 9223372036854775807) (he : l.length = m.length) (d : Nat) : ∀ (i : Nat), i + d = l.length → Ev (fun k => laws_eqIntS.l0 k l m (i : Int)) (decide (l.drop i = m.drop i)) := by
  induction d with
  | zero =>
    intro i hi
    refine ev_succ ?_
    have h1 : ¬ (i : Int) < (l.length : Int) := by omega
    simp only [laws_eqIntS.l0, h1, ↓reduceIte]
    rw [List.drop_eq_nil_of_le (by omega), List.drop_eq_nil_of_le (by omega)]
    exact Ev.now _
  | succ d ih =>
    intro i hi
    refine ev_succ ?_
    have h1 : (i : Int) < (l.length : Int) := by omega
    have h2 : (i : Int) < (m.length : Int) := by omega
    have h0 : (0 : Int) ≤ (i : Int) := by omega
    have hi' : i < l.length := by omega
    have hm' : i < m.length := by omega
    simp only [laws_eqIntS.l0, h1, h2, h0, ↓reduceIte, rd_nat hi', rd_nat hm', w64_nat hi' hl]
    refine ev_ite (fun h => ?_) (fun h => ?_)
    · refine ev_eq (ih (i + 1) (by omega)) ?_
      rw [drop_cons hi', drop_cons hm', decide_eq_decide, h, List.cons.injEq]
      exact (and_iff_right rfl).symm
    · refine ev_eq (Ev.now _) ?_
      rw [drop_cons hi', drop_cons hm']
      symm
      rw [decide_eq_false_iff_not, List.cons.injEq]
      exact fun hc => h hc.1
theorem ev_laws_eqIntS (l m : List Int) (hl : l.length ≤ 9223372036854775807) : Ev (fun k => laws_eqIntS.f k l m) (decide (l = m)) := by
  unfold laws_eqIntS.f
  refine ev_ite (fun h => ?_) (fun h => ?_)
  · simpa using ev_laws_eqIntS_l0 l m hl (by omega) l.length 0 (by omega)
  · refine ev_eq (Ev.now _) ?_
    symm
    rw [decide_eq_false_iff_not]
    rintro rfl
    exact h rfl
theorem ev_laws_eqIntS_self (l : List Int) (hl : l.length ≤ 9223372036854775807) : Ev (fun k => laws_eqIntS.f k l l) true := by
  simpa using ev_laws_eqIntS l l hl

theorem ev_laws_eqMarket_self (l : List Int) (p m f : Int) (hl : l.length ≤ 9223372036854775807) : Ev (fun k => laws_eqMarket.f k l p m f l p m f) true := by
  unfold laws_eqMarket.f
  refine Ev.bind (ev_laws_eqIntS_self l hl) ?_
  simp only [if_true]
  exact Ev.now _

theorem spec_l1In_f (a b c : Int) : spec_l1In.f a b c = some (inB a b c) := by
  unfold spec_l1In.f inB
  by_cases h : a ≥ b
  · rw [if_pos h]; congr 1; rw [decide_eq_decide]; omega
  · rw [if_neg h]; congr 1; symm; rw [decide_eq_false_iff_not]; omega

theorem ev_spec_l2Sum_l0 (l : List Int) (hl : l.length ≤ 9223372036854775807) (d : Nat) : ∀ (i : Nat) (s : Int), i + d = l.length → wrap64 s = s → Ev (fun k => spec_l2Sum.l0 k l s (i : Int)) (wrap64 (s + (l.drop i).sum)) := by
  induction d with
  | zero =>
    intro i s hi hs
    refine ev_succ ?_
    have h1 : ¬ (i : Int) < (l.length : Int) := by omega
    simp only [spec_l2Sum.l0, h1, ↓reduceIte]
    rw [List.drop_eq_nil_of_le (by omega)]
    simp only [List.sum_nil, Int.add_zero, hs]
    exact Ev.now _
  | succ d ih =>
    intro i s hi hs
    refine ev_succ ?_
    have h1 : (i : Int) < (l.length : Int) := by omega
    have h0 : (0 : Int) ≤ (i : Int) := by omega
    have hi' : i < l.length := by omega
    simp only [spec_l2Sum.l0, h1, h0, ↓reduceIte, rd_nat hi', w64_nat hi' hl]
    refine ev_eq (ih (i + 1) _ (by omega) (w64_idem _)) ?_
    rw [drop_cons hi', List.sum_cons, w64_add_l, Int.add_assoc]
theorem ev_spec_l2Sum (l : List Int) (hl : l.length ≤ 9223372036854775807) : Ev (fun k => spec_l2Sum.f k l) (wrap64 l.sum) := by
  unfold spec_l2Sum.f
  simpa using ev_spec_l2Sum_l0 l hl l.length 0 0 (by omega) w64_zero

theorem ev_spec_l2Row_l0 (n b : Int) (l : List Int) (hl : l.length ≤ 9223372036854775807) (d : Nat) : ∀ i : Nat, i + d = l.length → Ev (fun k => spec_l2Row.l0 k l n b (i : Int)) (allB (l.drop i) 0 b && ((l.length : Int) == n)) := by
  induction d with
  | zero =>
    intro i hi
    refine ev_succ ?_
    have h1 : ¬ (i : Int) < (l.length : Int) := by omega
    simp only [spec_l2Row.l0, h1, ↓reduceIte]
    rw [List.drop_eq_nil_of_le (by omega)]
    exact Ev.now _
  | succ d ih =>
    intro i hi
    refine ev_succ ?_
    have h1 : (i : Int) < (l.length : Int) := by omega
    have h0 : (0 : Int) ≤ (i : Int) := by omega
    have hi' : i < l.length := by omega
    simp only [spec_l2Row.l0, h1, h0, ↓reduceIte, spec_l1In_f, Option.bind_some, rd_nat hi', w64_nat hi' hl]
    rw [drop_cons hi']
    show Ev _ ((inB l[i] 0 b && allB (l.drop (i + 1)) 0 b) && _)
    cases inB l[i] 0 b with
    | true => simpa using ih (i + 1) (by omega)
    | false => simpa using Ev.now false
theorem ev_spec_l2Row (l : List Int) (n b : Int) (hl : l.length ≤ 9223372036854775807) : Ev (fun k => spec_l2Row.f k l n b) (allB l 0 b && ((l.length : Int) == n)) := by
  unfold spec_l2Row.f
  simpa using ev_spec_l2Row_l0 n b l hl l.length 0 (by omega)

def marketB (l : List Int) (p m f : Int) : Bool := inB (l.length : Int) 1 9 && (allB l 0 4 && (decide (wrap64 l.sum > 0) && (inB p 1 99 && (inB m 0 p && inB f 0 m))))
theorem marketB_mem {l : List Int} {p m f : Int} (h : marketB l p m f = true) : 1 ≤ l.length ∧ l.length ≤ 9 ∧ (∀ x ∈ l, 0 ≤ x ∧ x ≤ 4) ∧ (0 < l.sum ∧ l.sum ≤ 36) ∧ (1 ≤ p ∧ p ≤ 99) ∧ (0 ≤ m ∧ m ≤ p) ∧ (0 ≤ f ∧ f ≤ m) := by
  unfold marketB at h
  simp only [Bool.and_eq_true, inB_iff, decide_eq_true_eq] at h
  obtain ⟨h1, h2, h3, h4, h5, h6⟩ := h
  have hm := allB_mem h2
  have s1 := sum_le (b := 4) (fun y hy => (hm y hy).2)
  have s2 := le_sum (b := 0) (fun y hy => (hm y hy).1)
  rw [w64 (by omega) (by omega)] at h3
  exact ⟨by omega, by omega, hm, by omega, h4, h5, h6⟩
def contractB (a b c : Int) : Bool := inB a 0 99 && (inB b 0 99 && inB c 0 100)
theorem contractB_mem {a b c : Int} (h : contractB a b c = true) : (0 ≤ a ∧ a ≤ 99) ∧ (0 ≤ b ∧ b ≤ 99) ∧ 0 ≤ c ∧ c ≤ 100 := by
  unfold contractB at h
  simpa only [Bool.and_eq_true, inB_iff] using h

theorem ev_spec_l10Market (l : List Int) (p m f : Int) (hl : l.length ≤ 9223372036854775807) : Ev (fun k => spec_l10Market.f k l p m f) (marketB l p m f) := by
  unfold spec_l10Market.f marketB
  simp only [spec_l1In_f, Option.bind_some]
  refine ev_ite (fun h1 => ?_) (fun h1 => ?_)
  · refine Ev.bind (ev_spec_l2Row l _ 4 hl) ?_
    simp only [beq_self_eq_true, Bool.and_true]
    refine ev_ite (fun h2 => ?_) (fun h2 => ?_)
    · refine Ev.bind (ev_spec_l2Sum l hl) ?_
      refine ev_ite (fun h3 => ?_) (fun h3 => ?_)
      · refine ev_eq (ev_pure (x := _) (r := inB p 1 99 && (inB m 0 p && inB f 0 m)) ?_) ?_
        · cases inB p 1 99 <;> cases inB m 0 p <;> rfl
        · simp [h1, h2, h3]
      · exact ev_eq (Ev.now _) (by simp [h3])
    · exact ev_eq (Ev.now _) (by simp [h2])
  · exact ev_eq (Ev.now _) (by simp [h1])

theorem spec_l1Least_f (a b : Int) : spec_l1Least.f a b = some (mn a b) := by
  unfold spec_l1Least.f mn
  by_cases h : a < b
  · rw [if_pos h, if_neg (by omega)]
  · by_cases h2 : b < a
    · rw [if_neg h, if_pos h2]
    · rw [if_neg h, if_neg h2]; congr 1; omega

/-- The sum of a list's numbers from place i on, each times the lesser of its place and q. -/
def sFrom (q : Int) : List Int → Nat → Int
  | [], _ => 0
  | x :: t, i => x * mn q (i : Int) + sFrom q t (i + 1)
def salesS (l : List Int) (q : Int) : Int := sFrom q l 0
def sellerP (l : List Int) (p m f a b c q : Int) : Int := c * p * salesS l q + 100 * ((f + b) * (l.sum * q - salesS l q) - a * (l.sum * q))
def makerP (l : List Int) (p m f a b c q : Int) : Int := (100 - c) * p * salesS l q + 100 * ((a - m) * (l.sum * q) - b * (l.sum * q - salesS l q))
def jointP (l : List Int) (p m f q : Int) : Int := 100 * (p * salesS l q + f * (l.sum * q - salesS l q) - m * (l.sum * q))

theorem ev_spec_l10Sales_l0 (l : List Int) (p m f q : Int) (hl : l.length ≤ 9223372036854775807) (d : Nat) : ∀ (i : Nat) (s : Int), i + d = l.length → wrap64 s = s → Ev (fun k => spec_l10Sales.l0 k q s (i : Int) l p m f) (wrap64 (s + sFrom q (l.drop i) i)) := by
  induction d with
  | zero =>
    intro i s hi hs
    refine ev_succ ?_
    have h1 : ¬ (i : Int) < (l.length : Int) := by omega
    simp only [spec_l10Sales.l0, h1, ↓reduceIte]
    rw [List.drop_eq_nil_of_le (by omega)]
    simp only [sFrom, Int.add_zero, hs]
    exact Ev.now _
  | succ d ih =>
    intro i s hi hs
    refine ev_succ ?_
    have h1 : (i : Int) < (l.length : Int) := by omega
    have h0 : (0 : Int) ≤ (i : Int) := by omega
    have hi' : i < l.length := by omega
    simp only [spec_l10Sales.l0, h1, h0, ↓reduceIte, spec_l1Least_f, Option.bind_some, rd_nat hi', w64_nat hi' hl, w64_add_r]
    refine ev_eq (ih (i + 1) _ (by omega) (w64_idem _)) ?_
    rw [drop_cons hi', sFrom, w64_add_l, Int.add_assoc]
theorem ev_spec_l10Sales (l : List Int) (p m f q : Int) (hl : l.length ≤ 9223372036854775807) : Ev (fun k => spec_l10Sales.f k l p m f q) (wrap64 (salesS l q)) := by
  unfold spec_l10Sales.f
  simpa [salesS] using ev_spec_l10Sales_l0 l p m f q hl l.length 0 0 (by omega) w64_zero

theorem ev_spec_l10Seller (l : List Int) (p m f a b c q : Int) (hl : l.length ≤ 9223372036854775807) : Ev (fun k => spec_l10Seller.f k l p m f a b c q) (wrap64 (sellerP l p m f a b c q)) := by
  unfold spec_l10Seller.f sellerP
  refine Ev.bind (ev_spec_l10Sales l p m f q hl) ?_
  refine Ev.bind (ev_spec_l2Sum l hl) ?_
  refine ev_eq (Ev.now _) ?_
  simp only [w64_mul_l, w64_mul_r, w64_add_l, w64_add_r, w64_sub_l, w64_sub_r]

/-- The least place of the greatest value, from place q on, d places still to come. -/
def mostV (g : Int → Int) : Nat → Int → Int → Int
  | 0, best, _ => best
  | d + 1, best, q => if g q > g best then mostV g d q (q + 1) else mostV g d best (q + 1)
def bestV (l : List Int) (p m f : Int) : Int := mostV (fun q => wrap64 (jointP l p m f q)) 8 0 1
def soldV (l : List Int) (p m f a b c : Int) : Int := mostV (fun q => wrap64 (sellerP l p m f a b c q)) 8 0 1

theorem ev_spec_l10Sold_loop (l : List Int) (p m f a b c : Int) (hl : l.length ≤ 9223372036854775807) (d : Nat) : ∀ (q : Nat) (best : Int), q + d = 9 → Ev (fun k => spec_l10Sold.l0 k best (q : Int) l p m f a b c) (mostV (fun q => wrap64 (sellerP l p m f a b c q)) d best (q : Int)) := by
  induction d with
  | zero =>
    intro q best hq
    refine ev_succ ?_
    have h1 : ¬ (q : Int) ≤ 8 := by omega
    simp only [spec_l10Sold.l0, h1, ↓reduceIte]
    exact Ev.now _
  | succ d ih =>
    intro q best hq
    refine ev_succ ?_
    have h1 : (q : Int) ≤ 8 := by omega
    simp only [spec_l10Sold.l0, h1, ↓reduceIte, w64_nat (show q < 9 by omega) (by omega)]
    refine Ev.bind (ev_spec_l10Seller l p m f a b c (q : Int) hl) ?_
    refine Ev.bind (ev_spec_l10Seller l p m f a b c best hl) ?_
    rw [mostV]
    have e : ((q + 1 : Nat) : Int) = (q : Int) + 1 := by omega
    rw [← e]
    refine ev_ite (fun h => ?_) (fun h => ?_)
    · rw [if_pos h]; exact ih (q + 1) _ (by omega)
    · rw [if_neg h]; exact ih (q + 1) _ (by omega)
theorem ev_spec_l10Sold (l : List Int) (p m f a b c : Int) (hl : l.length ≤ 9223372036854775807) : Ev (fun k => spec_l10Sold.f k l p m f a b c) (soldV l p m f a b c) := by
  unfold spec_l10Sold.f soldV
  exact ev_spec_l10Sold_loop l p m f a b c hl 8 1 0 (by omega)

theorem ev_spec_l10Maker (l : List Int) (p m f a b c q : Int) (hl : l.length ≤ 9223372036854775807) : Ev (fun k => spec_l10Maker.f k l p m f a b c q) (wrap64 (makerP l p m f a b c q)) := by
  unfold spec_l10Maker.f makerP
  refine Ev.bind (ev_spec_l10Sales l p m f q hl) ?_
  refine Ev.bind (ev_spec_l2Sum l hl) ?_
  refine ev_eq (Ev.now _) ?_
  simp only [w64_mul_l, w64_mul_r, w64_add_l, w64_add_r, w64_sub_l, w64_sub_r]

theorem rdA2_nat {l : List S67} {i : Nat} (h : i < l.length) : rd_T67 l (i : Int) = l[i] := by
  unfold rd_T67
  simp [List.getD_eq_getElem?_getD, h]

def allFrom (g : Nat → Bool) : Nat → Nat → Bool
  | 0, _ => true
  | d + 1, i => g i && allFrom g d (i + 1)
theorem allFrom_iff (g : Nat → Bool) (d : Nat) : ∀ i, allFrom g d i = true ↔ ∀ j, i ≤ j → j < i + d → g j = true := by
  induction d with
  | zero => intro i; exact ⟨fun _ j h1 h2 => by omega, fun _ => rfl⟩
  | succ d ih =>
    intro i
    rw [allFrom, Bool.and_eq_true, ih (i + 1)]
    constructor
    · rintro ⟨h1, h2⟩ j h3 h4
      by_cases he : j = i
      · subst he; exact h1
      · exact h2 j (by omega) (by omega)
    · intro h
      exact ⟨h i (by omega) (by omega), fun j h1 h2 => h j (by omega) (by omega)⟩
theorem allFrom_congr {g g' : Nat → Bool} (d : Nat) : ∀ i, (∀ j, i ≤ j → j < i + d → g j = g' j) → allFrom g d i = allFrom g' d i := by
  induction d with
  | zero => intro i _; rfl
  | succ d ih =>
    intro i h
    rw [allFrom, allFrom, h i (by omega) (by omega), ih (i + 1) (fun j h1 h2 => h j (by omega) (by omega))]
def mapFrom {α : Type} (g : Nat → α) : Nat → Nat → List α
  | 0, _ => []
  | d + 1, i => g i :: mapFrom g d (i + 1)
theorem mapFrom_length {α : Type} (g : Nat → α) (d : Nat) : ∀ i, (mapFrom g d i).length = d := by
  induction d with
  | zero => intro i; rfl
  | succ d ih => intro i; rw [mapFrom, List.length_cons, ih]
theorem mapFrom_get {α : Type} (g : Nat → α) (d : Nat) : ∀ (i j : Nat) (h : j < (mapFrom g d i).length), (mapFrom g d i)[j] = g (i + j) := by
  induction d with
  | zero => intro i j h; simp [mapFrom] at h
  | succ d ih =>
    intro i j h
    cases j with
    | zero => rfl
    | succ j =>
      show (mapFrom g d (i + 1))[j]'_ = _
      rw [ih]
      congr 1
      omega
theorem mapFrom_congr {α : Type} {g g' : Nat → α} (d : Nat) : ∀ i, (∀ j, i ≤ j → j < i + d → g j = g' j) → mapFrom g d i = mapFrom g' d i := by
  induction d with
  | zero => intro i _; rfl
  | succ d ih =>
    intro i h
    rw [mapFrom, mapFrom, h i (by omega) (by omega), ih (i + 1) (fun j h1 h2 => h j (by omega) (by omega))]

def plainAt (l : List Int) (p m f : Int) (pay : Nat) : S67 := ⟨soldV l p m f (pay : Int) 0 100, wrap64 (makerP l p m f (pay : Int) 0 100 (soldV l p m f (pay : Int) 0 100))⟩
def plainsV (l : List Int) (p m f : Int) : List S67 := mapFrom (plainAt l p m f) (p + 1 - m).toNat m.toNat
def plainV (l : List Int) (p m f : Int) : List S67 × Bool := if marketB l p m f = true then (plainsV l p m f, true) else ([], false)
theorem plainV_length (l : List Int) (p m f : Int) : (plainV l p m f).1.length ≤ 100 := by
  unfold plainV
  by_cases h : marketB l p m f = true
  · rw [if_pos h]
    have := marketB_mem h
    simp only [plainsV, mapFrom_length]
    omega
  · rw [if_neg h]; simp
def bestA2 (L : List S67) : Nat → Nat → Nat → Nat
  | 0, _, b => b
  | d + 1, i, b => if (rd_T67 L (i : Int)).f1 > (rd_T67 L (b : Int)).f1 then bestA2 L d (i + 1) i else bestA2 L d (i + 1) b
def bestPlainV (l : List Int) (p m f : Int) : Int × Bool := if marketB l p m f = true then (wrap64 (m + (bestA2 (plainsV l p m f) ((plainsV l p m f).length - 1) 1 0 : Nat)), true) else (0, false)

theorem ev_spec_l10Plains_l0 (l : List Int) (p m f : Int) (hl : l.length ≤ 9223372036854775807) (hp : p ≤ 99) (d : Nat) : ∀ (j : Nat) (o : List S67), (j : Int) + d = p + 1 → o.length + d ≤ 1000 → Ev (fun k => spec_l10Plains.l0 k o (j : Int) l p m f) (o ++ mapFrom (plainAt l p m f) d j) := by
  induction d with
  | zero =>
    intro j o hj ho
    refine ev_succ ?_
    have h1 : ¬ (j : Int) ≤ p := by omega
    simp only [spec_l10Plains.l0, h1, ↓reduceIte, mapFrom, List.append_nil]
    exact Ev.now _
  | succ d ih =>
    intro j o hj ho
    refine ev_succ ?_
    have h1 : (j : Int) ≤ p := by omega
    have h4 : o.length < 8796093022208 := by omega
    have e1 : wrap64 ((j : Int) + 1) = ((j + 1 : Nat) : Int) := by rw [w64 (by omega) (by omega)]; omega
    simp only [spec_l10Plains.l0, h1, h4, e1, ↓reduceIte]
    simp only [spec_l10Plain.f, Option.bind_some]
    refine Ev.bind (ev_spec_l10Sold l p m f (j : Int) 0 100 hl) ?_
    refine Ev.bind (ev_spec_l10Maker l p m f (j : Int) 0 100 _ hl) ?_
    refine ev_eq (ih (j + 1) _ (by omega) (by simp; omega)) ?_
    rw [mapFrom, List.append_assoc]
    rfl
theorem ev_spec_l10Plains (l : List Int) (p m f : Int) (hl : l.length ≤ 9223372036854775807) (h : marketB l p m f = true) : Ev (fun k => spec_l10Plains.f k l p m f) (plainsV l p m f) := by
  unfold spec_l10Plains.f plainsV
  have hm := marketB_mem h
  have e : m = ((m.toNat : Nat) : Int) := by omega
  have := ev_spec_l10Plains_l0 l p m f hl (by omega) (p + 1 - m).toNat m.toNat [] (by omega) (by simp; omega)
  rw [← e] at this
  exact this

theorem ev_spec_BestPlain_l0 (l : List Int) (p m f : Int) (L : List S67) (hL : L.length ≤ 100) (d : Nat) : ∀ (i b : Nat), i + d = L.length → b < L.length → Ev (fun k => spec_BestPlain.l0 k L (b : Int) (i : Int) l p m f) (wrap64 (m + (bestA2 L d i b : Nat)), true) := by
  induction d with
  | zero =>
    intro i b hi hb
    refine ev_succ ?_
    have h1 : ¬ (i : Int) < (L.length : Int) := by omega
    simp only [spec_BestPlain.l0, h1, ↓reduceIte, bestA2]
    exact Ev.now _
  | succ d ih =>
    intro i b hi hb
    refine ev_succ ?_
    have h1 : (i : Int) < (L.length : Int) := by omega
    have h0 : (0 : Int) ≤ (i : Int) := by omega
    have h2 : (0 : Int) ≤ (b : Int) := by omega
    have h3 : (b : Int) < (L.length : Int) := by omega
    simp only [spec_BestPlain.l0, h0, h1, h2, h3, ↓reduceIte, bestA2, w64_nat (show i < L.length by omega) (by omega : L.length ≤ 9223372036854775807)]
    refine ev_ite (fun h => ?_) (fun h => ?_)
    · rw [if_pos h]; exact ih (i + 1) i (by omega) (by omega)
    · rw [if_neg h]; exact ih (i + 1) b (by omega) hb
theorem ev_spec_BestPlain (l : List Int) (p m f : Int) (hl : l.length ≤ 9223372036854775807) : Ev (fun k => spec_BestPlain.f k l p m f) (bestPlainV l p m f) := by
  unfold spec_BestPlain.f bestPlainV
  refine Ev.bind (ev_spec_l10Market l p m f hl) ?_
  refine ev_ite (fun h => ?_) (fun h => ?_)
  · rw [if_pos h]
    refine Ev.bind (ev_spec_l10Plains l p m f hl h) ?_
    have hm := marketB_mem h
    have hL : 0 < (plainsV l p m f).length := by simp only [plainsV, mapFrom_length]; omega
    have hL2 : (plainsV l p m f).length ≤ 100 := by simp only [plainsV, mapFrom_length]; omega
    generalize plainsV l p m f = L at hL hL2
    exact ev_spec_BestPlain_l0 l p m f L hL2 (L.length - 1) 1 0 (by omega) (by omega)
  · rw [if_neg h]; exact Ev.now _

theorem impl_within_f (a b c : Int) : impl_within.f a b c = some (inB a b c) := by
  unfold impl_within.f inB
  by_cases h : a ≥ b
  · rw [if_pos h]; congr 1; rw [decide_eq_decide]; omega
  · rw [if_neg h]; congr 1; symm; rw [decide_eq_false_iff_not]; omega

theorem ev_impl_allWithin_l0 (a b : Int) (l : List Int) (hl : l.length ≤ 9223372036854775807) (d : Nat) : ∀ i : Nat, i + d = l.length → Ev (fun k => impl_allWithin.l0 k a b l (l.length : Int) (i : Int)) (allB (l.drop i) a b) := by
  induction d with
  | zero =>
    intro i hi
    refine ev_succ ?_
    have h1 : ¬ (i : Int) < (l.length : Int) := by omega
    simp only [impl_allWithin.l0, h1, ↓reduceIte]
    rw [List.drop_eq_nil_of_le (by omega)]
    exact Ev.now _
  | succ d ih =>
    intro i hi
    refine ev_succ ?_
    have h1 : (i : Int) < (l.length : Int) := by omega
    have h0 : (0 : Int) ≤ (i : Int) := by omega
    have hi' : i < l.length := by omega
    simp only [impl_allWithin.l0, h1, h0, ↓reduceIte, impl_within_f, Option.bind_some, rd_nat hi', w64_nat hi' hl]
    rw [drop_cons hi']
    show Ev _ (inB l[i] a b && allB (l.drop (i + 1)) a b)
    cases inB l[i] a b with
    | true => simpa using ih (i + 1) (by omega)
    | false => simpa using Ev.now false
theorem ev_impl_allWithin (l : List Int) (a b : Int) (hl : l.length ≤ 9223372036854775807) : Ev (fun k => impl_allWithin.f k l a b) (allB l a b) := by
  unfold impl_allWithin.f
  simpa using ev_impl_allWithin_l0 a b l hl l.length 0 (by omega)

theorem ev_impl_total_l0 (l : List Int) (hl : l.length ≤ 9223372036854775807) (d : Nat) : ∀ (i : Nat) (s : Int), i + d = l.length → wrap64 s = s → Ev (fun k => impl_total.l0 k s l (l.length : Int) (i : Int)) (wrap64 (s + (l.drop i).sum)) := by
  induction d with
  | zero =>
    intro i s hi hs
    refine ev_succ ?_
    have h1 : ¬ (i : Int) < (l.length : Int) := by omega
    simp only [impl_total.l0, h1, ↓reduceIte]
    rw [List.drop_eq_nil_of_le (by omega)]
    simp only [List.sum_nil, Int.add_zero, hs]
    exact Ev.now _
  | succ d ih =>
    intro i s hi hs
    refine ev_succ ?_
    have h1 : (i : Int) < (l.length : Int) := by omega
    have h0 : (0 : Int) ≤ (i : Int) := by omega
    have hi' : i < l.length := by omega
    simp only [impl_total.l0, h1, h0, ↓reduceIte, rd_nat hi', w64_nat hi' hl]
    refine ev_eq (ih (i + 1) _ (by omega) (w64_idem _)) ?_
    rw [drop_cons hi', List.sum_cons, w64_add_l, Int.add_assoc]
theorem ev_impl_total (l : List Int) (hl : l.length ≤ 9223372036854775807) : Ev (fun k => impl_total.f k l) (wrap64 l.sum) := by
  unfold impl_total.f
  simpa using ev_impl_total_l0 l hl l.length 0 0 (by omega) w64_zero

theorem ev_impl_IsMarket (l : List Int) (p m f : Int) (hl : l.length ≤ 9223372036854775807) : Ev (fun k => impl_IsMarket.f k l p m f) (marketB l p m f) := by
  unfold impl_IsMarket.f marketB
  simp only [impl_within_f, Option.bind_some]
  refine ev_ite (fun h1 => ?_) (fun h1 => ?_)
  · refine Ev.bind (ev_impl_allWithin l 0 4 hl) ?_
    refine ev_ite (fun h2 => ?_) (fun h2 => ?_)
    · refine Ev.bind (ev_impl_total l hl) ?_
      refine ev_ite (fun h3 => ?_) (fun h3 => ?_)
      · refine ev_eq (ev_pure (x := _) (r := inB p 1 99 && (inB m 0 p && inB f 0 m)) ?_) ?_
        · cases inB p 1 99 <;> cases inB m 0 p <;> rfl
        · simp [h1, h2, h3]
      · exact ev_eq (Ev.now _) (by simp [h3])
    · exact ev_eq (Ev.now _) (by simp [h2])
  · exact ev_eq (Ev.now _) (by simp [h1])

theorem ev_impl_Market_sales_l0 (l : List Int) (q : Int) (hl : l.length ≤ 9223372036854775807) (d : Nat) : ∀ (i : Nat) (s : Int), i + d = l.length → wrap64 s = s → Ev (fun k => impl_Market_sales.l0 k q s l (l.length : Int) (i : Int)) (wrap64 (s + sFrom q (l.drop i) i)) := by
  induction d with
  | zero =>
    intro i s hi hs
    refine ev_succ ?_
    have h1 : ¬ (i : Int) < (l.length : Int) := by omega
    simp only [impl_Market_sales.l0, h1, ↓reduceIte]
    rw [List.drop_eq_nil_of_le (by omega)]
    simp only [sFrom, Int.add_zero, hs]
    exact Ev.now _
  | succ d ih =>
    intro i s hi hs
    refine ev_succ ?_
    have h1 : (i : Int) < (l.length : Int) := by omega
    have h0 : (0 : Int) ≤ (i : Int) := by omega
    have hi' : i < l.length := by omega
    simp only [impl_Market_sales.l0, h1, h0, ↓reduceIte, rd_nat hi', w64_nat hi' hl, w64_add_r]
    refine ev_eq (ih (i + 1) _ (by omega) (w64_idem _)) ?_
    rw [drop_cons hi', sFrom, w64_add_l, Int.add_assoc]
theorem ev_impl_Market_sales (l : List Int) (p m f q : Int) (hl : l.length ≤ 9223372036854775807) : Ev (fun k => impl_Market_sales.f k l p m f q) (wrap64 (salesS l q)) := by
  unfold impl_Market_sales.f
  simpa [salesS] using ev_impl_Market_sales_l0 l q hl l.length 0 0 (by omega) w64_zero

theorem ev_impl_Market_rest (l : List Int) (p m f q : Int) (hl : l.length ≤ 9223372036854775807) : Ev (fun k => impl_Market_rest.f k l p m f q) (wrap64 (l.sum * q - salesS l q)) := by
  unfold impl_Market_rest.f
  refine Ev.bind (ev_impl_total l hl) ?_
  refine Ev.bind (ev_impl_Market_sales l p m f q hl) ?_
  exact ev_eq (Ev.now _) (by simp only [w64_mul_l, w64_mul_r, w64_add_l, w64_add_r, w64_sub_l, w64_sub_r])

theorem ev_impl_Market_seller (l : List Int) (p m f a b c q : Int) (hl : l.length ≤ 9223372036854775807) : Ev (fun k => impl_Market_seller.f k l p m f a b c q) (wrap64 (sellerP l p m f a b c q)) := by
  unfold impl_Market_seller.f sellerP
  refine Ev.bind (ev_impl_Market_sales l p m f q hl) ?_
  refine Ev.bind (ev_impl_Market_rest l p m f q hl) ?_
  refine Ev.bind (ev_impl_total l hl) ?_
  refine ev_eq (Ev.now _) ?_
  simp only [w64_mul_l, w64_mul_r, w64_add_l, w64_add_r, w64_sub_l, w64_sub_r]
  congr 1
  grind

theorem ev_impl_Market_maker (l : List Int) (p m f a b c q : Int) (hl : l.length ≤ 9223372036854775807) : Ev (fun k => impl_Market_maker.f k l p m f a b c q) (wrap64 (makerP l p m f a b c q)) := by
  unfold impl_Market_maker.f makerP
  refine Ev.bind (ev_impl_Market_sales l p m f q hl) ?_
  refine Ev.bind (ev_impl_total l hl) ?_
  refine Ev.bind (ev_impl_Market_rest l p m f q hl) ?_
  refine ev_eq (Ev.now _) ?_
  simp only [w64_mul_l, w64_mul_r, w64_add_l, w64_add_r, w64_sub_l, w64_sub_r]
  congr 1
  grind

theorem ev_impl_Market_joint (l : List Int) (p m f q : Int) (hl : l.length ≤ 9223372036854775807) : Ev (fun k => impl_Market_joint.f k l p m f q) (wrap64 (jointP l p m f q)) := by
  unfold impl_Market_joint.f jointP
  refine Ev.bind (ev_impl_Market_seller l p m f 0 0 0 q hl) ?_
  refine Ev.bind (ev_impl_Market_maker l p m f 0 0 0 q hl) ?_
  refine ev_eq (Ev.now _) ?_
  simp only [w64_add_l, w64_add_r, sellerP, makerP]
  congr 1
  grind

theorem ev_impl_Market_sellerOrder_loop (l : List Int) (p m f a b c : Int) (hl : l.length ≤ 9223372036854775807) (d : Nat) : ∀ (q : Nat) (best : Int), q + d = 9 → Ev (fun k => impl_Market_sellerOrder.m0 k l p m f a b c best (q : Int)) (mostV (fun q => wrap64 (sellerP l p m f a b c q)) d best (q : Int)) := by
  induction d with
  | zero =>
    intro q best hq
    refine ev_succ ?_
    have h1 : ¬ (q : Int) ≤ 8 := by omega
    simp only [impl_Market_sellerOrder.m0, h1, ↓reduceIte]
    exact Ev.now _
  | succ d ih =>
    intro q best hq
    refine ev_succ ?_
    have h1 : (q : Int) ≤ 8 := by omega
    simp only [impl_Market_sellerOrder.m0, h1, ↓reduceIte, w64_nat (show q < 9 by omega) (by omega)]
    refine Ev.bind (ev_impl_Market_seller l p m f a b c (q : Int) hl) ?_
    refine Ev.bind (ev_impl_Market_seller l p m f a b c best hl) ?_
    rw [mostV]
    have e : ((q + 1 : Nat) : Int) = (q : Int) + 1 := by omega
    rw [← e]
    refine ev_ite (fun h => ?_) (fun h => ?_)
    · rw [if_pos h]; exact ih (q + 1) _ (by omega)
    · rw [if_neg h]; exact ih (q + 1) _ (by omega)
theorem ev_impl_Market_sellerOrder (l : List Int) (p m f a b c : Int) (hl : l.length ≤ 9223372036854775807) : Ev (fun k => impl_Market_sellerOrder.f k l p m f a b c) (soldV l p m f a b c) := by
  unfold impl_Market_sellerOrder.f soldV
  exact ev_impl_Market_sellerOrder_loop l p m f a b c hl 8 1 0 (by omega)

theorem ev_impl_Market_plain_l0 (l : List Int) (p m f : Int) (hl : l.length ≤ 9223372036854775807) (hp : p ≤ 99) (d : Nat) : ∀ (j : Nat) (o : List S67), (j : Int) + d = p + 1 → o.length + d ≤ 1000 → Ev (fun k => impl_Market_plain.l0 k o (j : Int) l p m f) (o ++ mapFrom (plainAt l p m f) d j) := by
  induction d with
  | zero =>
    intro j o hj ho
    refine ev_succ ?_
    have h1 : ¬ (j : Int) ≤ p := by omega
    simp only [impl_Market_plain.l0, h1, ↓reduceIte, mapFrom, List.append_nil]
    exact Ev.now _
  | succ d ih =>
    intro j o hj ho
    refine ev_succ ?_
    have h1 : (j : Int) ≤ p := by omega
    have h4 : o.length < 8796093022208 := by omega
    have e1 : wrap64 ((j : Int) + 1) = ((j + 1 : Nat) : Int) := by rw [w64 (by omega) (by omega)]; omega
    simp only [impl_Market_plain.l0, h1, h4, e1, ↓reduceIte]
    refine Ev.bind (ev_impl_Market_sellerOrder l p m f (j : Int) 0 100 hl) ?_
    refine Ev.bind (ev_impl_Market_maker l p m f (j : Int) 0 100 _ hl) ?_
    refine ev_eq (ih (j + 1) _ (by omega) (by simp; omega)) ?_
    rw [mapFrom, List.append_assoc]
    rfl
theorem ev_impl_Market_plain (l : List Int) (p m f : Int) (hl : l.length ≤ 9223372036854775807) (h : marketB l p m f = true) : Ev (fun k => impl_Market_plain.f k l p m f) (plainsV l p m f) := by
  unfold impl_Market_plain.f plainsV
  have hm := marketB_mem h
  have e : m = ((m.toNat : Nat) : Int) := by omega
  have := ev_impl_Market_plain_l0 l p m f hl (by omega) (p + 1 - m).toNat m.toNat [] (by omega) (by simp; omega)
  rw [← e] at this
  exact this

theorem ev_impl_BestPlain_l0 (l : List Int) (p m f : Int) (L : List S67) (hL : L.length ≤ 100) (d : Nat) : ∀ (i b : Nat), i + d = L.length → b < L.length → Ev (fun k => impl_BestPlain.l0 k (b : Int) L L (L.length : Int) (i : Int) l p m f) (wrap64 (m + (bestA2 L d i b : Nat)), true) := by
  induction d with
  | zero =>
    intro i b hi hb
    refine ev_succ ?_
    have h1 : ¬ (i : Int) < (L.length : Int) := by omega
    simp only [impl_BestPlain.l0, h1, ↓reduceIte, bestA2]
    exact Ev.now _
  | succ d ih =>
    intro i b hi hb
    refine ev_succ ?_
    have h1 : (i : Int) < (L.length : Int) := by omega
    have h0 : (0 : Int) ≤ (i : Int) := by omega
    have h2 : (0 : Int) ≤ (b : Int) := by omega
    have h3 : (b : Int) < (L.length : Int) := by omega
    simp only [impl_BestPlain.l0, h0, h1, h2, h3, ↓reduceIte, bestA2, w64_nat (show i < L.length by omega) (by omega : L.length ≤ 9223372036854775807)]
    refine ev_ite (fun h => ?_) (fun h => ?_)
    · rw [if_pos h]; exact ih (i + 1) i (by omega) (by omega)
    · rw [if_neg h]; exact ih (i + 1) b (by omega) hb
theorem ev_impl_BestPlain (l : List Int) (p m f : Int) (hl : l.length ≤ 9223372036854775807) : Ev (fun k => impl_BestPlain.f k l p m f) (bestPlainV l p m f) := by
  unfold impl_BestPlain.f bestPlainV
  refine Ev.bind (ev_impl_IsMarket l p m f hl) ?_
  refine ev_ite (fun h => ?_) (fun h => ?_)
  · rw [if_pos h]
    refine Ev.bind (ev_impl_Market_plain l p m f hl h) ?_
    have hm := marketB_mem h
    have hL : 0 < (plainsV l p m f).length := by simp only [plainsV, mapFrom_length]; omega
    have hL2 : (plainsV l p m f).length ≤ 100 := by simp only [plainsV, mapFrom_length]; omega
    generalize plainsV l p m f = L at hL hL2
    obtain ⟨n, hn⟩ : ∃ n, L.length = n + 1 := ⟨L.length - 1, by omega⟩
    refine ev_eq (ev_impl_BestPlain_l0 l p m f L hL2 (n + 1) 0 0 (by omega) (by omega)) ?_
    rw [bestA2, if_neg (by omega), hn]
    rfl
  · rw [if_neg h]; exact Ev.now _

theorem FnExactBestPlain (l0_0 : List (Int)) (a0_1 : Int) (a0_2 : Int) (a0_3 : Int) (h0_0 : l0_0.length ≤ 9223372036854775807) (w0_0 : ∀ y ∈ l0_0, (Lit.int .i64 y).wf = true) (w0_1 : (Lit.int .i64 a0_1).wf = true) (w0_2 : (Lit.int .i64 a0_2).wf = true) (w0_3 : (Lit.int .i64 a0_3).wf = true) : ∃ k, laws_FnExactBestPlain.f k l0_0 a0_1 a0_2 a0_3 = some true := by
  refine Ev.rounds ?_
  unfold laws_FnExactBestPlain.f
  by_cases hn : l0_0.length ≤ 1048576
  · have hs := ev_spec_BestPlain l0_0 a0_1 a0_2 a0_3 h0_0
    have hi := ev_impl_BestPlain l0_0 a0_1 a0_2 a0_3 h0_0
    simp only [laws_szMarket_le l0_0 a0_1 a0_2 a0_3 hn, Option.bind_some]
    repeat first
      | exact Ev.now _
      | (refine Ev.bind ht ?_; try dsimp only)
      | (refine Ev.bind hs ?_; try dsimp only)
      | (refine Ev.bind hi ?_; try dsimp only)
      | (refine Ev.bind (ev_laws_toIntS _ (by first | assumption | omega)) ?_; try dsimp only)
      | (refine Ev.bind (ev_laws_toMarket _ _ _ _ (by first | assumption | omega)) ?_; try dsimp only)
      | (refine Ev.bind (ev_laws_eqIntS_self _ (by first | assumption | omega)) ?_; try dsimp only)
      | (refine Ev.bind (ev_laws_eqMarket_self _ _ _ _ (by first | assumption | omega)) ?_; try dsimp only)
      | (refine ev_ite (fun h => absurd h (by omega)) (fun _ => ?_))
      | (refine ev_ite (fun _ => ?_) (fun h => absurd (by omega) h))
      | (simp only [bne_self_eq_false, Bool.false_eq_true, ↓reduceIte])
      | (refine ev_succ ?_; simp only [laws_FnExactBestPlain.j0])
  · simp only [laws_szMarket_gt l0_0 a0_1 a0_2 a0_3 h0_0 (by omega), Option.bind_some]
    exact Ev.now _

end Go.Proofs.Ytiniocecpgjikaa.Pure
