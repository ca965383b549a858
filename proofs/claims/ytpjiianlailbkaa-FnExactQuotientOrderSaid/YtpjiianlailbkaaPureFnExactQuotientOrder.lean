/- The pure side of FnExactQuotientOrder: what the program's text computes and what the reference's text computes are the same value, for every argument. No condition. -/
import Derived.Test.YtpjiianlailbkaaPFnExactQuotientOrderx4
namespace Go.Proofs.Ytpjiianlailbkaa.Pure
open Go.RowKit Go.Proofs.Ytpjiianlailbkaa.PFnExactQuotientOrder Go.Proofs.YtpjiianlailbkaaW.PrintWords Go.Proofs.YtpjiianlailbkaaW.PrintLast
set_option linter.unusedVariables false
set_option linter.unusedSimpArgs false

theorem ev_succ {α : Type} {g : Nat → Option α} {r : α} (h : Ev (fun k => g (k + 1)) r) : Ev g r := Ev.step (fun _ => rfl) h
theorem ev_pure {α : Type} {x : Option α} {r : α} (h : x = some r) : Ev (fun _ => x) r := ⟨0, fun _ _ => h⟩
theorem ev_eq {α : Type} {g : Nat → Option α} {r r' : α} (h : Ev g r) (e : r = r') : Ev g r' := e ▸ h
theorem ev_ite {α : Type} {c : Prop} [Decidable c] {g f : Nat → Option α} {r : α} (h1 : c → Ev g r) (h2 : ¬ c → Ev f r) : Ev (fun k => if c then g k else f k) r := by
  by_cases h : c
  · simp only [h, if_true]; exact h1 h
  · simp only [h, if_false]; exact h2 h
theorem w64 {x : Int} (h : -9223372036854775808 ≤ x) (h' : x ≤ 9223372036854775807) : wrap64 x = x := by unfold wrap64; omega
theorem w64_zero : wrap64 0 = 0 := w64 (by omega) (by omega)
theorem w64_idem (x : Int) : wrap64 (wrap64 x) = wrap64 x := by unfold wrap64; omega
theorem w64_add_l (x y : Int) : wrap64 (wrap64 x + y) = wrap64 (x + y) := by unfold wrap64; omega
theorem w64_add_r (x y : Int) : wrap64 (x + wrap64 y) = wrap64 (x + y) := by unfold wrap64; omega
theorem w64_sub_l (x y : Int) : wrap64 (wrap64 x - y) = wrap64 (x - y) := by unfold wrap64; omega
theorem w64_sub_r (x y : Int) : wrap64 (x - wrap64 y) = wrap64 (x - y) := by unfold wrap64; omega
theorem w64_range (x : Int) : -9223372036854775808 ≤ wrap64 x ∧ wrap64 x ≤ 9223372036854775807 := by unfold wrap64; omega
theorem w64_nat {i n : Nat} (h : i < n) (hn : n ≤ 9223372036854775807) : wrap64 ((i : Int) + 1) = ((i + 1 : Nat) : Int) := by rw [w64 (by omega) (by omega)]; rfl
theorem wf_range {x : Int} (h : (Lit.int .i64 x).wf = true) : -9223372036854775808 ≤ x ∧ x ≤ 9223372036854775807 := by
  simp [Lit.wf, IntKind.min, IntKind.max, IntKind.signed, IntKind.bits] at h
  omega
theorem rd_nat {l : List Int} {i : Nat} (h : i < l.length) : rd l (i : Int) = l[i] := by
  unfold rd
  simp [List.getD_eq_getElem?_getD, h]
def allB (l : List Int) (a b : Int) : Bool := l.all fun x => decide (a ≤ x ∧ x ≤ b)
def inB (x a b : Int) : Bool := decide (a ≤ x ∧ x ≤ b)
theorem allB_mem {l : List Int} {a b : Int} (h : allB l a b = true) : ∀ x ∈ l, a ≤ x ∧ x ≤ b := by
  intro x hx
  have := List.all_eq_true.1 h x hx
  simpa using this
theorem inB_iff {x a b : Int} : inB x a b = true ↔ a ≤ x ∧ x ≤ b := by unfold inB; simp
theorem sum_le {l : List Int} {b : Int} (hb : ∀ x ∈ l, x ≤ b) : l.sum ≤ l.length * b := by
  induction l with
  | nil => simp
  | cons x l ih =>
    have h1 := hb x (by simp)
    have h2 := ih (fun y hy => hb y (by simp [hy]))
    rw [List.sum_cons, List.length_cons]
    have : ((l.length + 1 : Nat) : Int) * b = l.length * b + b := by rw [Int.natCast_add, Int.add_mul]; simp
    rw [this]; omega
theorem le_sum {l : List Int} {b : Int} (hb : ∀ x ∈ l, b ≤ x) : l.length * b ≤ l.sum := by
  induction l with
  | nil => simp
  | cons x l ih =>
    have h1 := hb x (by simp)
    have h2 := ih (fun y hy => hb y (by simp [hy]))
    rw [List.sum_cons, List.length_cons]
    have : ((l.length + 1 : Nat) : Int) * b = l.length * b + b := by rw [Int.natCast_add, Int.add_mul]; simp
    rw [this]; omega
theorem drop_cons {α : Type} {l : List α} {i : Nat} (h : i < l.length) : l.drop i = l[i] :: l.drop (i + 1) := List.drop_eq_getElem_cons h

theorem laws_szIntS_le (l : List Int) (hl : l.length ≤ 1048576) : laws_szIntS.f l 1048576 = some (1048576 - (l.length : Int)) := by
  unfold laws_szIntS.f
  rw [w64 (by omega) (by omega), if_neg (by omega)]
theorem laws_szIntS_gt (l : List Int) (h : l.length ≤ 9223372036854775807) (hl : 1048576 < l.length) : laws_szIntS.f l 1048576 = some (-1) := by
  unfold laws_szIntS.f
  rw [w64 (by omega) (by omega), if_pos (by omega)]

theorem laws_szMarket_le (l : List Int) (p m f : Int) (hl : l.length ≤ 1048576) : laws_szMarket.f l p m f 1048576 = some (1048576 - (l.length : Int)) := by
  unfold laws_szMarket.f
  rw [laws_szIntS_le l hl, Option.bind_some, if_neg (by omega)]
theorem laws_szMarket_gt (l : List Int) (p m f : Int) (h : l.length ≤ 9223372036854775807) (hl : 1048576 < l.length) : laws_szMarket.f l p m f 1048576 = some (-1) := by
  unfold laws_szMarket.f
  rw [laws_szIntS_gt l h hl, Option.bind_some, if_pos (by omega)]

theorem ev_laws_toIntS_l0 (l : List Int) (hl : l.length ≤ 9223372036854775807) (d : Nat) : ∀ (i : Nat) (o : List Int), i + d = l.length → o.length = l.length → Ev (fun k => laws_toIntS.l0 k l o (i : Int)) (o.take i ++ l.drop i) := by
  induction d with
  | zero =>
    intro i o hi ho
    refine ev_succ ?_
    have h1 : ¬ (i : Int) < (l.length : Int) := by omega
    simp only [laws_toIntS.l0, h1, ↓reduceIte]
    rw [List.drop_eq_nil_of_le (by omega), List.take_of_length_le (by omega), List.append_nil]
    exact Ev.now _
  | succ d ih =>
    intro i o hi ho
    refine ev_succ ?_
    have h1 : (i : Int) < (l.length : Int) := by omega
    have h2 : (i : Int) < (o.length : Int) := by omega
    have h0 : (0 : Int) ≤ (i : Int) := by omega
    have hi' : i < l.length := by omega
    simp only [laws_toIntS.l0, h1, h2, h0, ↓reduceIte, rd_nat hi', w64_nat hi' hl, Int.toNat_natCast]
    refine ev_eq (ih (i + 1) _ (by omega) (by simp [ho])) ?_
    rw [drop_cons hi', List.take_add_one]
    simp [ho, hi', List.take_set_of_le (Nat.le_refl i)]
theorem ev_laws_toIntS (l : List Int) (hl : l.length ≤ 1048576) : Ev (fun k => laws_toIntS.f k l) l := by
  unfold laws_toIntS.f
  have h0 : (0 : Int) ≤ (l.length : Int) := by omega
  have h1 : ((l.length : Int) : Int).toNat ≤ 35184372088832 := by omega
  simp only [h0, h1, ↓reduceIte]
  simpa using ev_laws_toIntS_l0 l (by omega) l.length 0 (List.replicate ((l.length : Int) : Int).toNat 0) (by omega) (by simp)

theorem ev_laws_toMarket (l : List Int) (p m f : Int) (hl : l.length ≤ 1048576) : Ev (fun k => laws_toMarket.f k l p m f) (l, p, m, f) := by
  unfold laws_toMarket.f
  refine Ev.bind (ev_laws_toIntS l hl) ?_
  exact Ev.now _

theorem ev_laws_eqIntS_l0 (l m : List Int) (hl : l.length ≤ 9223372036854775807) (he : l.length = m.length) (d : Nat) : ∀ (i : Nat), i + d = l.length → Ev (fun k => laws_eqIntS.l0 k l m (i : Int)) (decide (l.drop i = m.drop i)) := by
  induction d with
  | zero =>
    intro i hi
    refine ev_succ ?_
    have h1 : ¬ (i : Int) < (l.length : Int) := by omega
    simp only [laws_eqIntS.l0, h1, ↓reduceIte]
    rw [List.drop_eq_nil_of_le (by omega), List.drop_eq_nil_of_le (by omega)]
    exact Ev.now _
  | succ d ih =>
    intro i hi
    refine ev_succ ?_
    have h1 : (i : Int) < (l.length : Int) := by omega
    have h2 : (i : Int) < (m.length : Int) := by omega
    have h0 : (0 : Int) ≤ (i : Int) := by omega
    have hi' : i < l.length := by omega
    have hm' : i < m.length := by omega
    simp only [laws_eqIntS.l0, h1, h2, h0, ↓reduceIte, rd_nat hi', rd_nat hm', w64_nat hi' hl]
    refine ev_ite (fun h => ?_) (fun h => ?_)
    · refine ev_eq (ih (i + 1) (by omega)) ?_
      rw [drop_cons hi', drop_cons hm', decide_eq_decide, h, List.cons.injEq]
      exact (and_iff_right rfl).symm
    · refine ev_eq (Ev.now _) ?_
      rw [drop_cons hi', drop_cons hm']
      symm
      rw [decide_eq_false_iff_not, List.cons.injEq]
      exact fun hc => h hc.1
theorem ev_laws_eqIntS (l m : List Int) (hl : l.length ≤ 9223372036854775807) : Ev (fun k => laws_eqIntS.f k l m) (decide (l = m)) := by
  unfold laws_eqIntS.f
  refine ev_ite (fun h => ?_) (fun h => ?_)
  · simpa using ev_laws_eqIntS_l0 l m hl (by omega) l.length 0 (by omega)
  · refine ev_eq (Ev.now _) ?_
    symm
    rw [decide_eq_false_iff_not]
    rintro rfl
    exact h rfl
theorem ev_laws_eqIntS_self (l : List Int) (hl : l.length ≤ 9223372036854775807) : Ev (fun k => laws_eqIntS.f k l l) true := by
  simpa using ev_laws_eqIntS l l hl

theorem ev_laws_eqMarket_self (l : List Int) (p m f : Int) (hl : l.length ≤ 9223372036854775807) : Ev (fun k => laws_eqMarket.f k l p m f l p m f) true := by
  unfold laws_eqMarket.f
  refine Ev.bind (ev_laws_eqIntS_self l hl) ?_
  simp only [if_true]
  exact Ev.now _

theorem ev_spec_l2Sum_l0 (l : List Int) (hl : l.length ≤ 9223372036854775807) (d : Nat) : ∀ (i : Nat) (s : Int), i + d = l.length → wrap64 s = s → Ev (fun k => spec_l2Sum.l0 k l s (i : Int)) (wrap64 (s + (l.drop i).sum)) := by
  induction d with
  | zero =>
    intro i s hi hs
    refine ev_succ ?_
    have h1 : ¬ (i : Int) < (l.length : Int) := by omega
    simp only [spec_l2Sum.l0, h1, ↓reduceIte]
    rw [List.drop_eq_nil_of_le (by omega)]
    simp only [List.sum_nil, Int.add_zero, hs]
    exact Ev.now _
  | succ d ih =>
    intro i s hi hs
    refine ev_succ ?_
    have h1 : (i : Int) < (l.length : Int) := by omega
    have h0 : (0 : Int) ≤ (i : Int) := by omega
    have hi' : i < l.length := by omega
    simp only [spec_l2Sum.l0, h1, h0, ↓reduceIte, rd_nat hi', w64_nat hi' hl]
    refine ev_eq (ih (i + 1) _ (by omega) (w64_idem _)) ?_
    rw [drop_cons hi', List.sum_cons, w64_add_l, Int.add_assoc]
theorem ev_spec_l2Sum (l : List Int) (hl : l.length ≤ 9223372036854775807) : Ev (fun k => spec_l2Sum.f k l) (wrap64 l.sum) := by
  unfold spec_l2Sum.f
  simpa using ev_spec_l2Sum_l0 l hl l.length 0 0 (by omega) w64_zero

theorem spec_l1In_f (a b c : Int) : spec_l1In.f a b c = some (inB a b c) := by
  unfold spec_l1In.f inB
  by_cases h : a ≥ b
  · rw [if_pos h]; congr 1; rw [decide_eq_decide]; omega
  · rw [if_neg h]; congr 1; symm; rw [decide_eq_false_iff_not]; omega

theorem ev_spec_l2Row_l0 (n b : Int) (l : List Int) (hl : l.length ≤ 9223372036854775807) (d : Nat) : ∀ i : Nat, i + d = l.length → Ev (fun k => spec_l2Row.l0 k l n b (i : Int)) (allB (l.drop i) 0 b && ((l.length : Int) == n)) := by
  induction d with
  | zero =>
    intro i hi
    refine ev_succ ?_
    have h1 : ¬ (i : Int) < (l.length : Int) := by omega
    simp only [spec_l2Row.l0, h1, ↓reduceIte]
    rw [List.drop_eq_nil_of_le (by omega)]
    exact Ev.now _
  | succ d ih =>
    intro i hi
    refine ev_succ ?_
    have h1 : (i : Int) < (l.length : Int) := by omega
    have h0 : (0 : Int) ≤ (i : Int) := by omega
    have hi' : i < l.length := by omega
    simp only [spec_l2Row.l0, h1, h0, ↓reduceIte, spec_l1In_f, Option.bind_some, rd_nat hi', w64_nat hi' hl]
    rw [drop_cons hi']
    show Ev _ ((inB l[i] 0 b && allB (l.drop (i + 1)) 0 b) && _)
    cases inB l[i] 0 b with
    | true => simpa using ih (i + 1) (by omega)
    | false => simpa using Ev.now false
theorem ev_spec_l2Row (l : List Int) (n b : Int) (hl : l.length ≤ 9223372036854775807) : Ev (fun k => spec_l2Row.f k l n b) (allB l 0 b && ((l.length : Int) == n)) := by
  unfold spec_l2Row.f
  simpa using ev_spec_l2Row_l0 n b l hl l.length 0 (by omega)

def marketB (l : List Int) (p m f : Int) : Bool := inB (l.length : Int) 1 9 && (allB l 0 4 && (decide (wrap64 l.sum > 0) && (inB p 1 99 && (inB m 0 p && inB f 0 m))))
theorem marketB_mem {l : List Int} {p m f : Int} (h : marketB l p m f = true) : 1 ≤ l.length ∧ l.length ≤ 9 ∧ (∀ x ∈ l, 0 ≤ x ∧ x ≤ 4) ∧ (0 < l.sum ∧ l.sum ≤ 36) ∧ (1 ≤ p ∧ p ≤ 99) ∧ (0 ≤ m ∧ m ≤ p) ∧ (0 ≤ f ∧ f ≤ m) := by
  unfold marketB at h
  simp only [Bool.and_eq_true, inB_iff, decide_eq_true_eq] at h
  obtain ⟨h1, h2, h3, h4, h5, h6⟩ := h
  have hm := allB_mem h2
  have s1 := sum_le (b := 4) (fun y hy => (hm y hy).2)
  have s2 := le_sum (b := 0) (fun y hy => (hm y hy).1)
  rw [w64 (by omega) (by omega)] at h3
  exact ⟨by omega, by omega, hm, by omega, h4, h5, h6⟩
def contractB (a b c : Int) : Bool := inB a 0 99 && (inB b 0 99 && inB c 0 100)
theorem contractB_mem {a b c : Int} (h : contractB a b c = true) : (0 ≤ a ∧ a ≤ 99) ∧ (0 ≤ b ∧ b ≤ 99) ∧ 0 ≤ c ∧ c ≤ 100 := by
  unfold contractB at h
  simpa only [Bool.and_eq_true, inB_iff] using h

theorem ev_spec_l10Market (l : List Int) (p m f : Int) (hl : l.length ≤ 9223372036854775807) : Ev (fun k => spec_l10Market.f k l p m f) (marketB l p m f) := by
  unfold spec_l10Market.f marketB
  simp only [spec_l1In_f, Option.bind_some]
  refine ev_ite (fun h1 => ?_) (fun h1 => ?_)
  · refine Ev.bind (ev_spec_l2Row l _ 4 hl) ?_
    simp only [beq_self_eq_true, Bool.and_true]
    refine ev_ite (fun h2 => ?_) (fun h2 => ?_)
    · refine Ev.bind (ev_spec_l2Sum l hl) ?_
      refine ev_ite (fun h3 => ?_) (fun h3 => ?_)
      · refine ev_eq (ev_pure (x := _) (r := inB p 1 99 && (inB m 0 p && inB f 0 m)) ?_) ?_
        · cases inB p 1 99 <;> cases inB m 0 p <;> rfl
        · simp [h1, h2, h3]
      · exact ev_eq (Ev.now _) (by simp [h3])
    · exact ev_eq (Ev.now _) (by simp [h2])
  · exact ev_eq (Ev.now _) (by simp [h1])

def propB (p m f a b c : Int) : Bool := if (wrap64 ((wrap64 (c * p)) - (wrap64 (100 * (wrap64 (f + b)))))) > 0 then ((wrap64 ((wrap64 ((wrap64 (c * p)) - (wrap64 (100 * (wrap64 (f + b)))))) * (wrap64 (f - m)))) == (wrap64 ((wrap64 (100 * (wrap64 ((wrap64 (f + b)) - a)))) * (wrap64 (p - f))))) else false
/-- What a product of two small numbers is. -/
theorem mul_small {x y : Int} {A B : Nat} (hx : -(A : Int) ≤ x ∧ x ≤ A) (hy : -(B : Int) ≤ y ∧ y ≤ B) : -((A * B : Nat) : Int) ≤ x * y ∧ x * y ≤ ((A * B : Nat) : Int) := by
  have h1 : (x * y).natAbs ≤ A * B := by
    rw [Int.natAbs_mul]
    exact Nat.mul_le_mul (by omega) (by omega)
  omega
theorem w64_mul_small {x y : Int} (hx : -1000000000 ≤ x ∧ x ≤ 1000000000) (hy : -1000000000 ≤ y ∧ y ≤ 1000000000) : wrap64 (x * y) = x * y := by
  have := mul_small (A := 1000000000) (B := 1000000000) (x := x) (y := y) (by omega) (by omega)
  exact w64 (by omega) (by omega)
theorem propB_iff {p m f a b c : Int} (hp : 1 ≤ p ∧ p ≤ 99) (hm : 0 ≤ m ∧ m ≤ p) (hf : 0 ≤ f ∧ f ≤ m) (ha : 0 ≤ a ∧ a ≤ 99) (hb : 0 ≤ b ∧ b ≤ 99) (hc : 0 ≤ c ∧ c ≤ 100) :
    propB p m f a b c = true ↔ 0 < c * p - 100 * (f + b) ∧ (c * p - 100 * (f + b)) * (f - m) = 100 * (f + b - a) * (p - f) := by
  have e1 : wrap64 (c * p) = c * p := w64_mul_small (by omega) (by omega)
  have b1 := mul_small (A := 100) (B := 99) (x := c) (y := p) (by omega) (by omega)
  have e2 : wrap64 (f + b) = f + b := w64 (by omega) (by omega)
  have e3 : wrap64 (100 * (f + b)) = 100 * (f + b) := w64 (by omega) (by omega)
  have e4 : wrap64 (c * p - 100 * (f + b)) = c * p - 100 * (f + b) := w64 (by omega) (by omega)
  have e5 : wrap64 (f - m) = f - m := w64 (by omega) (by omega)
  have e6 : wrap64 (f + b - a) = f + b - a := w64 (by omega) (by omega)
  have e7 : wrap64 (p - f) = p - f := w64 (by omega) (by omega)
  have e8 : wrap64 (100 * (f + b - a)) = 100 * (f + b - a) := w64 (by omega) (by omega)
  have e9 : wrap64 ((c * p - 100 * (f + b)) * (f - m)) = (c * p - 100 * (f + b)) * (f - m) := w64_mul_small (by omega) (by omega)
  have e10 : wrap64 (100 * (f + b - a) * (p - f)) = 100 * (f + b - a) * (p - f) := w64_mul_small (by omega) (by omega)
  unfold propB
  rw [e1, e2, e3, e4, e5, e6, e7, e8, e9, e10]
  by_cases h : 0 < c * p - 100 * (f + b)
  · rw [if_pos h, beq_iff_eq]
    exact ⟨fun hq => ⟨h, hq⟩, fun hq => hq.2⟩
  · rw [if_neg h]
    exact ⟨fun hq => (by cases hq), fun hq => absurd hq.1 h⟩
/-- Where price and rest are the same, no contract is in proportion. -/
theorem propB_same {p m f a b c : Int} (hp : 1 ≤ p ∧ p ≤ 99) (hm : 0 ≤ m ∧ m ≤ p) (hf : 0 ≤ f ∧ f ≤ m) (ha : 0 ≤ a ∧ a ≤ 99) (hb : 0 ≤ b ∧ b ≤ 99) (hc : 0 ≤ c ∧ c ≤ 100) (he : p = f) : propB p m f a b c = false := by
  cases h : propB p m f a b c with
  | false => rfl
  | true =>
    have h1 := ((propB_iff hp hm hf ha hb hc).1 h).1
    subst he
    have : c * p ≤ 100 * p := Int.mul_le_mul_of_nonneg_right hc.2 (by omega)
    omega
/-- One pay at the most is in proportion. -/
theorem propB_one {p m f a a' b c : Int} (hp : 1 ≤ p ∧ p ≤ 99) (hm : 0 ≤ m ∧ m ≤ p) (hf : 0 ≤ f ∧ f ≤ m) (ha : 0 ≤ a ∧ a ≤ 99) (ha' : 0 ≤ a' ∧ a' ≤ 99) (hb : 0 ≤ b ∧ b ≤ 99) (hc : 0 ≤ c ∧ c ≤ 100) (h : propB p m f a b c = true) (h' : propB p m f a' b c = true) : a = a' := by
  have hne : p ≠ f := by
    intro he
    rw [propB_same hp hm hf ha hb hc he] at h
    cases h
  have h1 := ((propB_iff hp hm hf ha hb hc).1 h).2
  have h2 := ((propB_iff hp hm hf ha' hb hc).1 h').2
  have h3 : 100 * (f + b - a) * (p - f) = 100 * (f + b - a') * (p - f) := h1.symm.trans h2
  have h4 : 100 * (f + b - a) = 100 * (f + b - a') := Int.eq_of_mul_eq_mul_right (by omega) h3
  omega

def quotT (l : List Int) (p m f : Int) (q : Nat) : Bool := decide ((l.take (q + 1)).sum * (p - f) < l.sum * (p - m))
def quotFrom (g : Nat → Bool) : Nat → Nat → Int
  | 0, q => (q : Int)
  | d + 1, q => if g q = true then quotFrom g d (q + 1) else (q : Int)
def quotV (l : List Int) (p m f : Int) : Int × Bool := if marketB l p m f = true then (if p = f then (0, false) else (quotFrom (quotT l p m f) (l.length - 1) 0, true)) else (0, false)
theorem take_range {l : List Int} {b : Int} {n : Nat} (hb : 0 ≤ b) (h : ∀ x ∈ l, 0 ≤ x ∧ x ≤ b) (hn : l.length ≤ n) (q : Nat) : 0 ≤ (l.take q).sum ∧ (l.take q).sum ≤ n * b := by
  have hm : ∀ y ∈ l.take q, 0 ≤ y ∧ y ≤ b := fun y hy => h y (List.mem_of_mem_take hy)
  have h1 := sum_le (b := b) (fun y hy => (hm y hy).2)
  have h2 := le_sum (b := 0) (fun y hy => (hm y hy).1)
  have h3 : (l.take q).length ≤ n := by rw [List.length_take]; omega
  have h4 : ((l.take q).length : Int) * b ≤ n * b := Int.mul_le_mul_of_nonneg_right (by omega) hb
  omega
theorem take_snoc_sum {l : List Int} {q : Nat} (h : q < l.length) : (l.take (q + 1)).sum = (l.take q).sum + l[q] := by
  rw [List.take_add_one, List.getElem?_eq_getElem h, Option.toList_some, List.sum_append, List.sum_singleton]
theorem quot_end {l : List Int} {p m f : Int} (h : marketB l p m f = true) (hf : p ≠ f) (q : Nat) (hq : l.length ≤ q + 1) : quotT l p m f q = false := by
  have hm := marketB_mem h
  unfold quotT
  rw [List.take_of_length_le hq, decide_eq_false_iff_not]
  have : l.sum * (p - m) ≤ l.sum * (p - f) := Int.mul_le_mul_of_nonneg_left (by omega) (by omega)
  omega

theorem ev_spec_QuotientOrder_l0 (l : List Int) (p m f : Int) (h : marketB l p m f = true) (hf : p ≠ f) (d : Nat) : ∀ q : Nat, q + 1 + d = l.length → Ev (fun k => spec_QuotientOrder.l0 k (l.take (q + 1)).sum (q : Int) l p m f) (quotFrom (quotT l p m f) d q, true) := by
  have hm := marketB_mem h
  have e1 : wrap64 (p - f) = p - f := w64 (by omega) (by omega)
  have e2 : wrap64 (p - m) = p - m := w64 (by omega) (by omega)
  have e3 : wrap64 l.sum = l.sum := w64 (by omega) (by omega)
  have e4 : wrap64 (l.sum * (p - m)) = l.sum * (p - m) := w64_mul_small (by omega) (by omega)
  have E1 := Aside0.mk e1
  have E2 := Aside0.mk e2
  have E3 := Aside0.mk e3
  have E4 := Aside0.mk e4
  have hx0 := hm.2.2.1
  have hn9 := hm.2.1
  have hpf : -99 ≤ p - f ∧ p - f ≤ 99 := by omega
  clear e1 e2 e3 e4
  have ht := fun q => take_range (l := l) (b := 4) (n := 9) (by omega) hm.2.2.1 hm.2.1 q
  have HM := Aside0.mk hm
  have HF := Aside0.mk hf
  clear hm hf
  induction d with
  | zero =>
    intro q hq
    refine ev_succ ?_
    have t1 := ht (q + 1)
    have E5 := Aside0.mk (show wrap64 ((l.take (q + 1)).sum * (p - f)) = (l.take (q + 1)).sum * (p - f) from w64_mul_small (by omega) (by omega))
    have hg := quot_end h HF.out q (by omega)
    unfold quotT at hg
    simp only [spec_QuotientOrder.l0]
    refine Ev.bind (ev_spec_l2Sum l (by omega)) ?_
    rw [E1.out, E2.out, E3.out, E4.out, E5.out]
    have hg2 := of_decide_eq_false hg
    simp only [hg2, ↓reduceIte]
    exact Ev.now _
  | succ d ih =>
    intro q hq
    refine ev_succ ?_
    have t1 := ht (q + 1)
    have E5 := Aside0.mk (show wrap64 ((l.take (q + 1)).sum * (p - f)) = (l.take (q + 1)).sum * (p - f) from w64_mul_small (by omega) (by omega))
    have e6 : wrap64 ((q : Int) + 1) = ((q + 1 : Nat) : Int) := by rw [w64 (by omega) (by omega)]; omega
    have h1 : (0 : Int) ≤ ((q + 1 : Nat) : Int) := by omega
    have h2 : ((q + 1 : Nat) : Int) < (l.length : Int) := by omega
    have hq' : q + 1 < l.length := by omega
    have hx := hx0 l[q + 1] (List.getElem_mem hq')
    have e7 : wrap64 ((l.take (q + 1)).sum + l[q + 1]) = (l.take (q + 1 + 1)).sum := by rw [take_snoc_sum hq', w64 (by omega) (by omega)]
    simp only [spec_QuotientOrder.l0]
    refine Ev.bind (ev_spec_l2Sum l (by omega)) ?_
    rw [E1.out, E2.out, E3.out, E4.out, E5.out, e6]
    simp only [h1, h2, ↓reduceIte, rd_nat hq', e7]
    rw [quotFrom]
    refine ev_ite (fun c => ?_) (fun c => ?_)
    · have : quotT l p m f q = true := decide_eq_true c
      rw [if_pos this]
      exact ih (q + 1) (by omega)
    · have : ¬ quotT l p m f q = true := by rw [quotT, decide_eq_false c]; simp
      rw [if_neg this]
      exact Ev.now _
theorem ev_spec_QuotientOrder_no (l : List Int) (p m f : Int) : Ev (fun k => spec_QuotientOrder.j0 k true l p m f) (0, false) := by
  refine ev_succ ?_
  simp only [spec_QuotientOrder.j0, ↓reduceIte]
  exact Ev.now _
theorem ev_spec_QuotientOrder (l : List Int) (p m f : Int) (hl : l.length ≤ 9223372036854775807) : Ev (fun k => spec_QuotientOrder.f k l p m f) (quotV l p m f) := by
  unfold spec_QuotientOrder.f quotV
  refine Ev.bind (ev_spec_l10Market l p m f hl) ?_
  refine ev_ite (fun h => ?_) (fun h => ?_)
  · rw [if_pos h]
    have hm := marketB_mem h
    by_cases hf : p = f
    · rw [if_pos hf, show (p == f) = true by simp [hf]]
      exact ev_spec_QuotientOrder_no l p m f
    · rw [if_neg hf, show (p == f) = false by simp [hf]]
      refine ev_succ ?_
      have h0 : (0 : Int) < (l.length : Int) := by omega
      simp only [spec_QuotientOrder.j0, h0, Bool.false_eq_true, ↓reduceIte]
      have e : rd l 0 = (l.take (0 + 1)).sum := by
        rw [take_snoc_sum (by omega)]
        have := rd_nat (l := l) (i := 0) (by omega)
        simpa using this
      rw [e]
      exact ev_spec_QuotientOrder_l0 l p m f h hf (l.length - 1) 0 (by omega)
  · rw [if_neg h]
    exact ev_spec_QuotientOrder_no l p m f

theorem impl_within_f (a b c : Int) : impl_within.f a b c = some (inB a b c) := by
  unfold impl_within.f inB
  by_cases h : a ≥ b
  · rw [if_pos h]; congr 1; rw [decide_eq_decide]; omega
  · rw [if_neg h]; congr 1; symm; rw [decide_eq_false_iff_not]; omega

theorem ev_impl_allWithin_l0 (a b : Int) (l : List Int) (hl : l.length ≤ 9223372036854775807) (d : Nat) : ∀ i : Nat, i + d = l.length → Ev (fun k => impl_allWithin.l0 k a b l (l.length : Int) (i : Int)) (allB (l.drop i) a b) := by
  induction d with
  | zero =>
    intro i hi
    refine ev_succ ?_
    have h1 : ¬ (i : Int) < (l.length : Int) := by omega
    simp only [impl_allWithin.l0, h1, ↓reduceIte]
    rw [List.drop_eq_nil_of_le (by omega)]
    exact Ev.now _
  | succ d ih =>
    intro i hi
    refine ev_succ ?_
    have h1 : (i : Int) < (l.length : Int) := by omega
    have h0 : (0 : Int) ≤ (i : Int) := by omega
    have hi' : i < l.length := by omega
    simp only [impl_allWithin.l0, h1, h0, ↓reduceIte, impl_within_f, Option.bind_some, rd_nat hi', w64_nat hi' hl]
    rw [drop_cons hi']
    show Ev _ (inB l[i] a b && allB (l.drop (i + 1)) a b)
    cases inB l[i] a b with
    | true => simpa using ih (i + 1) (by omega)
    | false => simpa using Ev.now false
theorem ev_impl_allWithin (l : List Int) (a b : Int) (hl : l.length ≤ 9223372036854775807) : Ev (fun k => impl_allWithin.f k l a b) (allB l a b) := by
  unfold impl_allWithin.f
  simpa using ev_impl_allWithin_l0 a b l hl l.length 0 (by omega)

theorem ev_impl_total_l0 (l : List Int) (hl : l.length ≤ 9223372036854775807) (d : Nat) : ∀ (i : Nat) (s : Int), i + d = l.length → wrap64 s = s → Ev (fun k => impl_total.l0 k s l (l.length : Int) (i : Int)) (wrap64 (s + (l.drop i).sum)) := by
  induction d with
  | zero =>
    intro i s hi hs
    refine ev_succ ?_
    have h1 : ¬ (i : Int) < (l.length : Int) := by omega
    simp only [impl_total.l0, h1, ↓reduceIte]
    rw [List.drop_eq_nil_of_le (by omega)]
    simp only [List.sum_nil, Int.add_zero, hs]
    exact Ev.now _
  | succ d ih =>
    intro i s hi hs
    refine ev_succ ?_
    have h1 : (i : Int) < (l.length : Int) := by omega
    have h0 : (0 : Int) ≤ (i : Int) := by omega
    have hi' : i < l.length := by omega
    simp only [impl_total.l0, h1, h0, ↓reduceIte, rd_nat hi', w64_nat hi' hl]
    refine ev_eq (ih (i + 1) _ (by omega) (w64_idem _)) ?_
    rw [drop_cons hi', List.sum_cons, w64_add_l, Int.add_assoc]
theorem ev_impl_total (l : List Int) (hl : l.length ≤ 9223372036854775807) : Ev (fun k => impl_total.f k l) (wrap64 l.sum) := by
  unfold impl_total.f
  simpa using ev_impl_total_l0 l hl l.length 0 0 (by omega) w64_zero

theorem ev_impl_IsMarket (l : List Int) (p m f : Int) (hl : l.length ≤ 9223372036854775807) : Ev (fun k => impl_IsMarket.f k l p m f) (marketB l p m f) := by
  unfold impl_IsMarket.f marketB
  simp only [impl_within_f, Option.bind_some]
  refine ev_ite (fun h1 => ?_) (fun h1 => ?_)
  · refine Ev.bind (ev_impl_allWithin l 0 4 hl) ?_
    refine ev_ite (fun h2 => ?_) (fun h2 => ?_)
    · refine Ev.bind (ev_impl_total l hl) ?_
      refine ev_ite (fun h3 => ?_) (fun h3 => ?_)
      · refine ev_eq (ev_pure (x := _) (r := inB p 1 99 && (inB m 0 p && inB f 0 m)) ?_) ?_
        · cases inB p 1 99 <;> cases inB m 0 p <;> rfl
        · simp [h1, h2, h3]
      · exact ev_eq (Ev.now _) (by simp [h3])
    · exact ev_eq (Ev.now _) (by simp [h2])
  · exact ev_eq (Ev.now _) (by simp [h1])

theorem ev_impl_upTo (l : List Int) (q : Nat) (hl : l.length ≤ 100000) (hq : q ≤ 100000) (h : ∀ x ∈ l, 0 ≤ x ∧ x ≤ 100000) : Ev (fun k => impl_upTo.f k l (q : Int)) ((l.take (q + 1)).sum) := by
  unfold impl_upTo.f
  have e : wrap64 ((q : Int) + 1) = ((q + 1 : Nat) : Int) := by rw [w64 (by omega) (by omega)]; omega
  have t := take_range (l := l) (b := 100000) (n := 100000) (by omega) h hl (q + 1)
  rw [e]
  by_cases hc : q + 1 ≤ l.length
  · have e2 : mn ((q + 1 : Nat) : Int) (l.length : Int) = ((q + 1 : Nat) : Int) := by unfold mn; split <;> omega
    have h1 : (0 : Int) ≤ ((q + 1 : Nat) : Int) := by omega
    have h2 : ((q + 1 : Nat) : Int) ≤ (l.length : Int) := by omega
    simp only [e2, h1, h2, ↓reduceIte, Int.toNat_natCast]
    refine Ev.bind (ev_impl_total _ (by rw [List.length_take]; omega)) ?_
    rw [w64 (by omega) (by omega)]
    exact Ev.now _
  · have e2 : mn ((q + 1 : Nat) : Int) (l.length : Int) = (l.length : Int) := by unfold mn; split <;> omega
    have h1 : (0 : Int) ≤ (l.length : Int) := by omega
    have h2 : (l.length : Int) ≤ (l.length : Int) := by omega
    simp only [e2, h1, h2, ↓reduceIte, Int.toNat_natCast]
    rw [List.take_of_length_le (Nat.le_refl _)]
    rw [List.take_of_length_le (by omega)] at t ⊢
    refine Ev.bind (ev_impl_total _ (by omega)) ?_
    rw [w64 (by omega) (by omega)]
    exact Ev.now _

theorem ev_impl_QuotientOrder_l0 (l : List Int) (p m f : Int) (h : marketB l p m f = true) (hf : p ≠ f) (d : Nat) : ∀ q : Nat, q + 1 + d = l.length → Ev (fun k => impl_QuotientOrder.l0 k (q : Int) l p m f) (quotFrom (quotT l p m f) d q, true) := by
  have hm := marketB_mem h
  have e1 : wrap64 (p - f) = p - f := w64 (by omega) (by omega)
  have e2 : wrap64 (p - m) = p - m := w64 (by omega) (by omega)
  have e3 : wrap64 l.sum = l.sum := w64 (by omega) (by omega)
  have e4 : wrap64 (l.sum * (p - m)) = l.sum * (p - m) := w64_mul_small (by omega) (by omega)
  have E1 := Aside0.mk e1
  have E2 := Aside0.mk e2
  have E3 := Aside0.mk e3
  have E4 := Aside0.mk e4
  have hx0 := hm.2.2.1
  have hn9 := hm.2.1
  have hpf : -99 ≤ p - f ∧ p - f ≤ 99 := by omega
  clear e1 e2 e3 e4
  have ht := fun q => take_range (l := l) (b := 4) (n := 9) (by omega) hm.2.2.1 hm.2.1 q
  have HM := Aside0.mk hm
  have HF := Aside0.mk hf
  clear hm hf
  induction d with
  | zero =>
    intro q hq
    refine ev_succ ?_
    have t1 := ht (q + 1)
    have E5 := Aside0.mk (show wrap64 ((l.take (q + 1)).sum * (p - f)) = (l.take (q + 1)).sum * (p - f) from w64_mul_small (by omega) (by omega))
    have hg := quot_end h HF.out q (by omega)
    unfold quotT at hg
    simp only [impl_QuotientOrder.l0]
    refine Ev.bind (ev_impl_upTo l q (by omega) (by omega) (fun x hx => by have := hx0 x hx; omega)) ?_
    refine Ev.bind (ev_impl_total l (by omega)) ?_
    rw [E1.out, E2.out, E3.out, E4.out, E5.out]
    have hg2 := of_decide_eq_false hg
    simp only [hg2, ↓reduceIte]
    exact Ev.now _
  | succ d ih =>
    intro q hq
    refine ev_succ ?_
    have t1 := ht (q + 1)
    have E5 := Aside0.mk (show wrap64 ((l.take (q + 1)).sum * (p - f)) = (l.take (q + 1)).sum * (p - f) from w64_mul_small (by omega) (by omega))
    have e6 : wrap64 ((q : Int) + 1) = ((q + 1 : Nat) : Int) := by rw [w64 (by omega) (by omega)]; omega
    simp only [impl_QuotientOrder.l0]
    refine Ev.bind (ev_impl_upTo l q (by omega) (by omega) (fun x hx => by have := hx0 x hx; omega)) ?_
    refine Ev.bind (ev_impl_total l (by omega)) ?_
    rw [E1.out, E2.out, E3.out, E4.out, E5.out, e6]
    rw [quotFrom]
    refine ev_ite (fun c => ?_) (fun c => ?_)
    · have : quotT l p m f q = true := decide_eq_true c
      rw [if_pos this]
      exact ih (q + 1) (by omega)
    · have : ¬ quotT l p m f q = true := by rw [quotT, decide_eq_false c]; simp
      rw [if_neg this]
      exact Ev.now _
theorem ev_impl_QuotientOrder_no (l : List Int) (p m f : Int) : Ev (fun k => impl_QuotientOrder.j0 k true l p m f) (0, false) := by
  refine ev_succ ?_
  simp only [impl_QuotientOrder.j0, ↓reduceIte]
  exact Ev.now _
theorem ev_impl_QuotientOrder (l : List Int) (p m f : Int) (hl : l.length ≤ 9223372036854775807) : Ev (fun k => impl_QuotientOrder.f k l p m f) (quotV l p m f) := by
  unfold impl_QuotientOrder.f quotV
  refine Ev.bind (ev_impl_IsMarket l p m f hl) ?_
  refine ev_ite (fun h => ?_) (fun h => ?_)
  · rw [if_pos h]
    have hm := marketB_mem h
    by_cases hf : p = f
    · rw [if_pos hf, show (p == f) = true by simp [hf]]
      exact ev_impl_QuotientOrder_no l p m f
    · rw [if_neg hf, show (p == f) = false by simp [hf]]
      refine ev_succ ?_
      simp only [impl_QuotientOrder.j0, Bool.false_eq_true, ↓reduceIte]
      exact ev_impl_QuotientOrder_l0 l p m f h hf (l.length - 1) 0 (by omega)
  · rw [if_neg h]
    exact ev_impl_QuotientOrder_no l p m f

theorem FnExactQuotientOrder (l0_0 : List (Int)) (a0_1 : Int) (a0_2 : Int) (a0_3 : Int) (h0_0 : l0_0.length ≤ 9223372036854775807) (w0_0 : ∀ y ∈ l0_0, (Lit.int .i64 y).wf = true) (w0_1 : (Lit.int .i64 a0_1).wf = true) (w0_2 : (Lit.int .i64 a0_2).wf = true) (w0_3 : (Lit.int .i64 a0_3).wf = true) : ∃ k, laws_FnExactQuotientOrder.f k l0_0 a0_1 a0_2 a0_3 = some true := by
  refine Ev.rounds ?_
  unfold laws_FnExactQuotientOrder.f
  by_cases hn : l0_0.length ≤ 1048576
  · have hs := ev_spec_QuotientOrder l0_0 a0_1 a0_2 a0_3 h0_0
    have hi := ev_impl_QuotientOrder l0_0 a0_1 a0_2 a0_3 h0_0
    simp only [laws_szMarket_le l0_0 a0_1 a0_2 a0_3 hn, Option.bind_some]
    repeat first
      | exact Ev.now _
      | (refine Ev.bind ht ?_; try dsimp only)
      | (refine Ev.bind hs ?_; try dsimp only)
      | (refine Ev.bind hi ?_; try dsimp only)
      | (refine Ev.bind (ev_laws_toIntS _ (by first | assumption | omega)) ?_; try dsimp only)
      | (refine Ev.bind (ev_laws_toMarket _ _ _ _ (by first | assumption | omega)) ?_; try dsimp only)
      | (refine Ev.bind (ev_laws_eqIntS_self _ (by omega)) ?_; try dsimp only)
      | (refine Ev.bind (ev_laws_eqMarket_self _ _ _ _ (by omega)) ?_; try dsimp only)
      | (refine ev_ite (fun h => absurd h (by omega)) (fun _ => ?_))
      | (refine ev_ite (fun _ => ?_) (fun h => absurd (by omega) h))
      | (simp only [bne_self_eq_false, Bool.false_eq_true, ↓reduceIte])
      | (refine ev_succ ?_; simp only [laws_FnExactQuotientOrder.j0])
  · simp only [laws_szMarket_gt l0_0 a0_1 a0_2 a0_3 h0_0 (by omega), Option.bind_some]
    exact Ev.now _

end Go.Proofs.Ytpjiianlailbkaa.Pure
