/- The pure side of FnExactBackContracts: what the program's text computes and what the reference's text computes are the same value, for every argument. No condition. -/
import Derived.Test.YtiniocecpgjikaaPFnExactBackContractsx5
namespace Go.Proofs.Ytiniocecpgjikaa.Pure
open Go.RowKit Go.Proofs.Ytiniocecpgjikaa.PFnExactBackContracts Go.Proofs.YtiniocecpgjikaaW.PrintWords Go.Proofs.YtiniocecpgjikaaW.PrintLast
set_option linter.unusedVariables false
set_option linter.unusedSimpArgs false

theorem ev_succ {α : Type} {g : Nat → Option α} {r : α} (h : Ev (fun k => g (k + 1)) r) : Ev g r := Ev.step (fun _ => rfl) h
theorem ev_pure {α : Type} {x : Option α} {r : α} (h : x = some r) : Ev (fun _ => x) r := ⟨0, fun _ _ => h⟩
theorem ev_eq {α : Type} {g : Nat → Option α} {r r' : α} (h : Ev g r) (e : r = r') : Ev g r' := e ▸ h
theorem ev_ite {α : Type} {c : Prop} [Decidable c] {g f : Nat → Option α} {r : α} (h1 : c → Ev g r) (h2 : ¬ c → Ev f r) : Ev (fun k => if c then g k else f k) r := by
  by_cases h : c
  · simp only [h, if_true]; exact h1 h
  · simp only [h, if_false]; exact h2 h
theorem w64 {x : Int} (h : -9223372036854775808 ≤ x) (h' : x ≤ 9223372036854775807) : wrap64 x = x := by unfold wrap64; omega
theorem w64_zero : wrap64 0 = 0 := w64 (by omega) (by omega)
theorem w64_idem (x : Int) : wrap64 (wrap64 x) = wrap64 x := by unfold wrap64; omega
theorem w64_add_l (x y : Int) : wrap64 (wrap64 x + y) = wrap64 (x + y) := by unfold wrap64; omega
theorem w64_add_r (x y : Int) : wrap64 (x + wrap64 y) = wrap64 (x + y) := by unfold wrap64; omega
theorem w64_sub_l (x y : Int) : wrap64 (wrap64 x - y) = wrap64 (x - y) := by unfold wrap64; omega
theorem w64_sub_r (x y : Int) : wrap64 (x - wrap64 y) = wrap64 (x - y) := by unfold wrap64; omega
theorem w64_range (x : Int) : -9223372036854775808 ≤ wrap64 x ∧ wrap64 x ≤ 9223372036854775807 := by unfold wrap64; omega
theorem w64_nat {i n : Nat} (h : i < n) (hn : n ≤ 9223372036854775807) : wrap64 ((i : Int) + 1) = ((i + 1 : Nat) : Int) := by rw [w64 (by omega) (by omega)]; rfl
theorem wf_range {x : Int} (h : (Lit.int .i64 x).wf = true) : -9223372036854775808 ≤ x ∧ x ≤ 9223372036854775807 := by
  simp [Lit.wf, IntKind.min, IntKind.max, IntKind.signed, IntKind.bits] at h
  omega
theorem rd_nat {l : List Int} {i : Nat} (h : i < l.length) : rd l (i : Int) = l[i] := by
  unfold rd
  simp [List.getD_eq_getElem?_getD, h]
def allB (l : List Int) (a b : Int) : Bool := l.all fun x => decide (a ≤ x ∧ x ≤ b)
def inB (x a b : Int) : Bool := decide (a ≤ x ∧ x ≤ b)
theorem allB_mem {l : List Int} {a b : Int} (h : allB l a b = true) : ∀ x ∈ l, a ≤ x ∧ x ≤ b := by
  intro x hx
  have := List.all_eq_true.1 h x hx
  simpa using this
theorem inB_iff {x a b : Int} : inB x a b = true ↔ a ≤ x ∧ x ≤ b := by unfold inB; simp
theorem sum_le {l : List Int} {b : Int} (hb : ∀ x ∈ l, x ≤ b) : l.sum ≤ l.length * b := by
  induction l with
  | nil => simp
  | cons x l ih =>
    have h1 := hb x (by simp)
    have h2 := ih (fun y hy => hb y (by simp [hy]))
    rw [List.sum_cons, List.length_cons]
    have : ((l.length + 1 : Nat) : Int) * b = l.length * b + b := by rw [Int.natCast_add, Int.add_mul]; simp
    rw [this]; omega
theorem le_sum {l : List Int} {b : Int} (hb : ∀ x ∈ l, b ≤ x) : l.length * b ≤ l.sum := by
  induction l with
  | nil => simp
  | cons x l ih =>
    have h1 := hb x (by simp)
    have h2 := ih (fun y hy => hb y (by simp [hy]))
    rw [List.sum_cons, List.length_cons]
    have : ((l.length + 1 : Nat) : Int) * b = l.length * b + b := by rw [Int.natCast_add, Int.add_mul]; simp
    rw [this]; omega
theorem drop_cons {α : Type} {l : List α} {i : Nat} (h : i < l.length) : l.drop i = l[i] :: l.drop (i + 1) := List.drop_eq_getElem_cons h

theorem laws_szIntS_le (l : List Int) (hl : l.length ≤ 1048576) : laws_szIntS.f l 1048576 = some (1048576 - (l.length : Int)) := by
  unfold laws_szIntS.f
  rw [w64 (by omega) (by omega), if_neg (by omega)]
theorem laws_szIntS_gt (l : List Int) (h : l.length ≤ 9223372036854775807) (hl : 1048576 < l.length) : laws_szIntS.f l 1048576 = some (-1) := by
  unfold laws_szIntS.f
  rw [w64 (by omega) (by omega), if_pos (by omega)]

theorem laws_szMarket_le (l : List Int) (p m f : Int) (hl : l.length ≤ 1048576) : laws_szMarket.f l p m f 1048576 = some (1048576 - (l.length : Int)) := by
  unfold laws_szMarket.f
  rw [laws_szIntS_le l hl, Option.bind_some, if_neg (by omega)]
theorem laws_szMarket_gt (l : List Int) (p m f : Int) (h : l.length ≤ 9223372036854775807) (hl : 1048576 < l.length) : laws_szMarket.f l p m f 1048576 = some (-1) := by
  unfold laws_szMarket.f
  rw [laws_szIntS_gt l h hl, Option.bind_some, if_pos (by omega)]

theorem ev_laws_toIntS_l0 (l : List Int) (hl : l.length ≤ 9223372036854775807) (d : Nat) : ∀ (i : Nat) (o : List Int), i + d = l.length → o.length = l.length → Ev (fun k => laws_toIntS.l0 k l o (i : Int)) (o.take i ++ l.drop i) := by
  induction d with
  | zero =>
    intro i o hi ho
    refine ev_succ ?_
    have h1 : ¬ (i : Int) < (l.length : Int) := by omega
    simp only [laws_toIntS.l0, h1, ↓reduceIte]
    rw [List.drop_eq_nil_of_le (by omega), List.take_of_length_le (by omega), List.append_nil]
    exact Ev.now _
  | succ d ih =>
    intro i o hi ho
    refine ev_succ ?_
    have h1 : (i : Int) < (l.length : Int) := by omega
    have h2 : (i : Int) < (o.length : Int) := by omega
    have h0 : (0 : Int) ≤ (i : Int) := by omega
    have hi' : i < l.length := by omega
    simp only [laws_toIntS.l0, h1, h2, h0, ↓reduceIte, rd_nat hi', w64_nat hi' hl, Int.toNat_natCast]
    refine ev_eq (ih (i + 1) _ (by omega) (by simp [ho])) ?_
    rw [drop_cons hi', List.take_add_one]
    simp [ho, hi', List.take_set_of_le (Nat.le_refl i)]
theorem ev_laws_toIntS (l : List Int) (hl : l.length ≤ 1048576) : Ev (fun k => laws_toIntS.f k l) l := by
  unfold laws_toIntS.f
  have h0 : (0 : Int) ≤ (l.length : Int) := by omega
  have h1 : ((l.length : Int) : Int).toNat ≤ 35184372088832 := by omega
  simp only [h0, h1, ↓reduceIte]
  simpa using ev_laws_toIntS_l0 l (by omega) l.length 0 (List.replicate ((l.length : Int) : Int).toNat 0) (by omega) (by simp)

theorem ev_laws_toMarket (l : List Int) (p m f : Int) (hl : l.length ≤ 1048576) : Ev (fun k => laws_toMarket.f k l p m f) (l, p, m, f) := by
  unfold laws_toMarket.f
  refine Ev.bind (ev_laws_toIntS l hl) ?_
  exact Ev.now _

theorem ev_laws_eqIntS_l0 (l m : List Int) (hl : l.length ≤ 9223372036854775807) (he : l.length = m.length) (d : Nat) : ∀ (i : Nat), i + d = l.length → Ev (fun k => laws_eqIntS.l0 k l m (i : Int)) (decide (l.drop i = m.drop i)) := by
  induction d with
  | zero =>
    intro i hi
    refine ev_succ ?_
    have h1 : ¬ (i : Int) < (l.length : Int) := by omega
    simp only [laws_eqIntS.l0, h1, ↓reduceIte]
    rw [List.drop_eq_nil_of_le (by omega), List.drop_eq_nil_of_le (by omega)]
    exact Ev.now _
  | succ d ih =>
    intro i hi
    refine ev_succ ?_
    have h1 : (i : Int) < (l.length : Int) := by omega
    have h2 : (i : Int) < (m.length : Int) := by omega
    have h0 : (0 : Int) ≤ (i : Int) := by omega
    have hi' : i < l.length := by omega
    have hm' : i < m.length := by omega
    simp only [laws_eqIntS.l0, h1, h2, h0, ↓reduceIte, rd_nat hi', rd_nat hm', w64_nat hi' hl]
    refine ev_ite (fun h => ?_) (fun h => ?_)
    · refine ev_eq (ih (i + 1) (by omega)) ?_
      rw [drop_cons hi', drop_cons hm', decide_eq_decide, h, List.cons.injEq]
      exact (and_iff_right rfl).symm
    · refine ev_eq (Ev.now _) ?_
      rw [drop_cons hi', drop_cons hm']
      symm
      rw [decide_eq_false_iff_not, List.cons.injEq]
      exact fun hc => h hc.1
theorem ev_laws_eqIntS (l m : List Int) (hl : l.length ≤ 9223372036854775807) : Ev (fun k => laws_eqIntS.f k l m) (decide (l = m)) := by
  unfold laws_eqIntS.f
  refine ev_ite (fun h => ?_) (fun h => ?_)
  · simpa using ev_laws_eqIntS_l0 l m hl (by omega) l.length 0 (by omega)
  · refine ev_eq (Ev.now _) ?_
    symm
    rw [decide_eq_false_iff_not]
    rintro rfl
    exact h rfl
theorem ev_laws_eqIntS_self (l : List Int) (hl : l.length ≤ 9223372036854775807) : Ev (fun k => laws_eqIntS.f k l l) true := by
  simpa using ev_laws_eqIntS l l hl

theorem ev_laws_eqMarket_self (l : List Int) (p m f : Int) (hl : l.length ≤ 9223372036854775807) : Ev (fun k => laws_eqMarket.f k l p m f l p m f) true := by
  unfold laws_eqMarket.f
  refine Ev.bind (ev_laws_eqIntS_self l hl) ?_
  simp only [if_true]
  exact Ev.now _

theorem spec_l1In_f (a b c : Int) : spec_l1In.f a b c = some (inB a b c) := by
  unfold spec_l1In.f inB
  by_cases h : a ≥ b
  · rw [if_pos h]; congr 1; rw [decide_eq_decide]; omega
  · rw [if_neg h]; congr 1; symm; rw [decide_eq_false_iff_not]; omega

theorem ev_spec_l2Sum_l0 (l : List Int) (hl : l.length ≤ 9223372036854775807) (d : Nat) : ∀ (i : Nat) (s : Int), i + d = l.length → wrap64 s = s → Ev (fun k => spec_l2Sum.l0 k l s (i : Int)) (wrap64 (s + (l.drop i).sum)) := by
  induction d with
  | zero =>
    intro i s hi hs
    refine ev_succ ?_
    have h1 : ¬ (i : Int) < (l.length : Int) := by omega
    simp only [spec_l2Sum.l0, h1, ↓reduceIte]
    rw [List.drop_eq_nil_of_le (by omega)]
    simp only [List.sum_nil, Int.add_zero, hs]
    exact Ev.now _
  | succ d ih =>
    intro i s hi hs
    refine ev_succ ?_
    have h1 : (i : Int) < (l.length : Int) := by omega
    have h0 : (0 : Int) ≤ (i : Int) := by omega
    have hi' : i < l.length := by omega
    simp only [spec_l2Sum.l0, h1, h0, ↓reduceIte, rd_nat hi', w64_nat hi' hl]
    refine ev_eq (ih (i + 1) _ (by omega) (w64_idem _)) ?_
    rw [drop_cons hi', List.sum_cons, w64_add_l, Int.add_assoc]
theorem ev_spec_l2Sum (l : List Int) (hl : l.length ≤ 9223372036854775807) : Ev (fun k => spec_l2Sum.f k l) (wrap64 l.sum) := by
  unfold spec_l2Sum.f
  simpa using ev_spec_l2Sum_l0 l hl l.length 0 0 (by omega) w64_zero

theorem ev_spec_l2Row_l0 (n b : Int) (l : List Int) (hl : l.length ≤ 9223372036854775807) (d : Nat) : ∀ i : Nat, i + d = l.length → Ev (fun k => spec_l2Row.l0 k l n b (i : Int)) (allB (l.drop i) 0 b && ((l.length : Int) == n)) := by
  induction d with
  | zero =>
    intro i hi
    refine ev_succ ?_
    have h1 : ¬ (i : Int) < (l.length : Int) := by omega
    simp only [spec_l2Row.l0, h1, ↓reduceIte]
    rw [List.drop_eq_nil_of_le (by omega)]
    exact Ev.now _
  | succ d ih =>
    intro i hi
    refine ev_succ ?_
    have h1 : (i : Int) < (l.length : Int) := by omega
    have h0 : (0 : Int) ≤ (i : Int) := by omega
    have hi' : i < l.length := by omega
    simp only [spec_l2Row.l0, h1, h0, ↓reduceIte, spec_l1In_f, Option.bind_some, rd_nat hi', w64_nat hi' hl]
    rw [drop_cons hi']
    show Ev _ ((inB l[i] 0 b && allB (l.drop (i + 1)) 0 b) && _)
    cases inB l[i] 0 b with
    | true => simpa using ih (i + 1) (by omega)
    | false => simpa using Ev.now false
theorem ev_spec_l2Row (l : List Int) (n b : Int) (hl : l.length ≤ 9223372036854775807) : Ev (fun k => spec_l2Row.f k l n b) (allB l 0 b && ((l.length : Int) == n)) := by
  unfold spec_l2Row.f
  simpa using ev_spec_l2Row_l0 n b l hl l.length 0 (by omega)

def marketB (l : List Int) (p m f : Int) : Bool := inB (l.length : Int) 1 9 && (allB l 0 4 && (decide (wrap64 l.sum > 0) && (inB p 1 99 && (inB m 0 p && inB f 0 m))))
theorem marketB_mem {l : List Int} {p m f : Int} (h : marketB l p m f = true) : 1 ≤ l.length ∧ l.length ≤ 9 ∧ (∀ x ∈ l, 0 ≤ x ∧ x ≤ 4) ∧ (0 < l.sum ∧ l.sum ≤ 36) ∧ (1 ≤ p ∧ p ≤ 99) ∧ (0 ≤ m ∧ m ≤ p) ∧ (0 ≤ f ∧ f ≤ m) := by
  unfold marketB at h
  simp only [Bool.and_eq_true, inB_iff, decide_eq_true_eq] at h
  obtain ⟨h1, h2, h3, h4, h5, h6⟩ := h
  have hm := allB_mem h2
  have s1 := sum_le (b := 4) (fun y hy => (hm y hy).2)
  have s2 := le_sum (b := 0) (fun y hy => (hm y hy).1)
  rw [w64 (by omega) (by omega)] at h3
  exact ⟨by omega, by omega, hm, by omega, h4, h5, h6⟩
def contractB (a b c : Int) : Bool := inB a 0 99 && (inB b 0 99 && inB c 0 100)
theorem contractB_mem {a b c : Int} (h : contractB a b c = true) : (0 ≤ a ∧ a ≤ 99) ∧ (0 ≤ b ∧ b ≤ 99) ∧ 0 ≤ c ∧ c ≤ 100 := by
  unfold contractB at h
  simpa only [Bool.and_eq_true, inB_iff] using h

theorem ev_spec_l10Market (l : List Int) (p m f : Int) (hl : l.length ≤ 9223372036854775807) : Ev (fun k => spec_l10Market.f k l p m f) (marketB l p m f) := by
  unfold spec_l10Market.f marketB
  simp only [spec_l1In_f, Option.bind_some]
  refine ev_ite (fun h1 => ?_) (fun h1 => ?_)
  · refine Ev.bind (ev_spec_l2Row l _ 4 hl) ?_
    simp only [beq_self_eq_true, Bool.and_true]
    refine ev_ite (fun h2 => ?_) (fun h2 => ?_)
    · refine Ev.bind (ev_spec_l2Sum l hl) ?_
      refine ev_ite (fun h3 => ?_) (fun h3 => ?_)
      · refine ev_eq (ev_pure (x := _) (r := inB p 1 99 && (inB m 0 p && inB f 0 m)) ?_) ?_
        · cases inB p 1 99 <;> cases inB m 0 p <;> rfl
        · simp [h1, h2, h3]
      · exact ev_eq (Ev.now _) (by simp [h3])
    · exact ev_eq (Ev.now _) (by simp [h2])
  · exact ev_eq (Ev.now _) (by simp [h1])

def propB (p m f a b c : Int) : Bool := if (wrap64 ((wrap64 (c * p)) - (wrap64 (100 * (wrap64 (f + b)))))) > 0 then ((wrap64 ((wrap64 ((wrap64 (c * p)) - (wrap64 (100 * (wrap64 (f + b)))))) * (wrap64 (f - m)))) == (wrap64 ((wrap64 (100 * (wrap64 ((wrap64 (f + b)) - a)))) * (wrap64 (p - f))))) else false
/-- What a product of two small numbers is. -/
theorem mul_small {x y : Int} {A B : Nat} (hx : -(A : Int) ≤ x ∧ x ≤ A) (hy : -(B : Int) ≤ y ∧ y ≤ B) : -((A * B : Nat) : Int) ≤ x * y ∧ x * y ≤ ((A * B : Nat) : Int) := by
  have h1 : (x * y).natAbs ≤ A * B := by
    rw [Int.natAbs_mul]
    exact Nat.mul_le_mul (by omega) (by omega)
  omega
theorem w64_mul_small {x y : Int} (hx : -1000000000 ≤ x ∧ x ≤ 1000000000) (hy : -1000000000 ≤ y ∧ y ≤ 1000000000) : wrap64 (x * y) = x * y := by
  have := mul_small (A := 1000000000) (B := 1000000000) (x := x) (y := y) (by omega) (by omega)
  exact w64 (by omega) (by omega)
theorem propB_iff {p m f a b c : Int} (hp : 1 ≤ p ∧ p ≤ 99) (hm : 0 ≤ m ∧ m ≤ p) (hf : 0 ≤ f ∧ f ≤ m) (ha : 0 ≤ a ∧ a ≤ 99) (hb : 0 ≤ b ∧ b ≤ 99) (hc : 0 ≤ c ∧ c ≤ 100) :
    propB p m f a b c = true ↔ 0 < c * p - 100 * (f + b) ∧ (c * p - 100 * (f + b)) * (f - m) = 100 * (f + b - a) * (p - f) := by
  have e1 : wrap64 (c * p) = c * p := w64_mul_small (by omega) (by omega)
  have b1 := mul_small (A := 100) (B := 99) (x := c) (y := p) (by omega) (by omega)
  have e2 : wrap64 (f + b) = f + b := w64 (by omega) (by omega)
  have e3 : wrap64 (100 * (f + b)) = 100 * (f + b) := w64 (by omega) (by omega)
  have e4 : wrap64 (c * p - 100 * (f + b)) = c * p - 100 * (f + b) := w64 (by omega) (by omega)
  have e5 : wrap64 (f - m) = f - m := w64 (by omega) (by omega)
  have e6 : wrap64 (f + b - a) = f + b - a := w64 (by omega) (by omega)
  have e7 : wrap64 (p - f) = p - f := w64 (by omega) (by omega)
  have e8 : wrap64 (100 * (f + b - a)) = 100 * (f + b - a) := w64 (by omega) (by omega)
  have e9 : wrap64 ((c * p - 100 * (f + b)) * (f - m)) = (c * p - 100 * (f + b)) * (f - m) := w64_mul_small (by omega) (by omega)
  have e10 : wrap64 (100 * (f + b - a) * (p - f)) = 100 * (f + b - a) * (p - f) := w64_mul_small (by omega) (by omega)
  unfold propB
  rw [e1, e2, e3, e4, e5, e6, e7, e8, e9, e10]
  by_cases h : 0 < c * p - 100 * (f + b)
  · rw [if_pos h, beq_iff_eq]
    exact ⟨fun hq => ⟨h, hq⟩, fun hq => hq.2⟩
  · rw [if_neg h]
    exact ⟨fun hq => (by cases hq), fun hq => absurd hq.1 h⟩
/-- Where price and rest are the same, no contract is in proportion. -/
theorem propB_same {p m f a b c : Int} (hp : 1 ≤ p ∧ p ≤ 99) (hm : 0 ≤ m ∧ m ≤ p) (hf : 0 ≤ f ∧ f ≤ m) (ha : 0 ≤ a ∧ a ≤ 99) (hb : 0 ≤ b ∧ b ≤ 99) (hc : 0 ≤ c ∧ c ≤ 100) (he : p = f) : propB p m f a b c = false := by
  cases h : propB p m f a b c with
  | false => rfl
  | true =>
    have h1 := ((propB_iff hp hm hf ha hb hc).1 h).1
    subst he
    have : c * p ≤ 100 * p := Int.mul_le_mul_of_nonneg_right hc.2 (by omega)
    omega
/-- One pay at the most is in proportion. -/
theorem propB_one {p m f a a' b c : Int} (hp : 1 ≤ p ∧ p ≤ 99) (hm : 0 ≤ m ∧ m ≤ p) (hf : 0 ≤ f ∧ f ≤ m) (ha : 0 ≤ a ∧ a ≤ 99) (ha' : 0 ≤ a' ∧ a' ≤ 99) (hb : 0 ≤ b ∧ b ≤ 99) (hc : 0 ≤ c ∧ c ≤ 100) (h : propB p m f a b c = true) (h' : propB p m f a' b c = true) : a = a' := by
  have hne : p ≠ f := by
    intro he
    rw [propB_same hp hm hf ha hb hc he] at h
    cases h
  have h1 := ((propB_iff hp hm hf ha hb hc).1 h).2
  have h2 := ((propB_iff hp hm hf ha' hb hc).1 h').2
  have h3 : 100 * (f + b - a) * (p - f) = 100 * (f + b - a') * (p - f) := h1.symm.trans h2
  have h4 : 100 * (f + b - a) = 100 * (f + b - a') := Int.eq_of_mul_eq_mul_right (by omega) h3
  omega

theorem spec_l10Proportion_f (l : List Int) (p m f a b c : Int) : spec_l10Proportion.f l p m f a b c = some (propB p m f a b c) := by
  unfold spec_l10Proportion.f propB
  split <;> rfl

/-- The first pay from n on that is in proportion. -/
def firstPay (g : Int → Bool) : Nat → Int → Int × Bool
  | 0, _ => (0, false)
  | d + 1, n => if g n = true then (n, true) else firstPay g d (n + 1)
def payForV (l : List Int) (p m f b c : Int) : Int × Bool := if (marketB l p m f && contractB 0 b c) = true then firstPay (fun a => propB p m f a b c) 100 0 else (0, false)
theorem firstPay_none {g : Int → Bool} (d : Nat) : ∀ n : Int, (∀ a, n ≤ a → a < n + d → g a = false) → firstPay g d n = (0, false) := by
  induction d with
  | zero => intro n _; rfl
  | succ d ih =>
    intro n h
    unfold firstPay
    rw [if_neg (by rw [h n (by omega) (by omega)]; simp)]
    exact ih (n + 1) (fun a h1 h2 => h a (by omega) (by omega))
theorem firstPay_some {g : Int → Bool} (d : Nat) : ∀ n : Int, (firstPay g d n).2 = true → (n ≤ (firstPay g d n).1 ∧ (firstPay g d n).1 < n + d) ∧ g (firstPay g d n).1 = true ∧ ∀ a, n ≤ a → a < (firstPay g d n).1 → g a = false := by
  induction d with
  | zero => intro n h; simp [firstPay] at h
  | succ d ih =>
    intro n h
    unfold firstPay at h ⊢
    by_cases hg : g n = true
    · rw [if_pos hg]
      exact ⟨⟨by omega, by simp; omega⟩, hg, fun a h1 h2 => by simp at h2; omega⟩
    · rw [if_neg hg] at h ⊢
      obtain ⟨h1, h2, h3⟩ := ih (n + 1) h
      refine ⟨by omega, h2, fun a h4 h5 => ?_⟩
      by_cases hn : a = n
      · subst hn; simpa using hg
      · exact h3 a (by omega) h5

def gather (g : Int → Bool) (b : Int) : Nat → Int → List S32
  | 0, _ => []
  | d + 1, n => (if g n = true then [⟨n, b, 100⟩] else []) ++ gather g b d (n + 1)
def one (b : Int) (v : Int × Bool) : List S32 := if v.2 = true then [⟨v.1, b, 100⟩] else []
def backFrom (p m f : Int) : Nat → Int → List S32
  | 0, _ => []
  | d + 1, b => one b (firstPay (fun a => propB p m f a b 100) 100 0) ++ backFrom p m f d (b + 1)
def backV (l : List Int) (p m f : Int) : List S32 × Bool := if marketB l p m f = true then (backFrom p m f 100 0, true) else ([], false)
theorem gather_none {g : Int → Bool} {b : Int} (d : Nat) : ∀ n : Int, (∀ a, n ≤ a → a < n + d → g a = false) → gather g b d n = [] := by
  induction d with
  | zero => intro n _; rfl
  | succ d ih =>
    intro n h
    rw [gather, if_neg (by rw [h n (by omega) (by omega)]; simp), ih (n + 1) (fun a h1 h2 => h a (by omega) (by omega))]
    rfl
theorem gather_one {g : Int → Bool} {b : Int} (d : Nat) : ∀ n : Int, (∀ a a', n ≤ a → a < n + d → n ≤ a' → a' < n + d → g a = true → g a' = true → a = a') → gather g b d n = one b (firstPay g d n) := by
  induction d with
  | zero => intro n _; rfl
  | succ d ih =>
    intro n h
    rw [gather, firstPay]
    by_cases hg : g n = true
    · rw [if_pos hg, if_pos hg, gather_none d (n + 1)]
      · rfl
      · intro a h1 h2
        cases ha : g a with
        | false => rfl
        | true => have := h n a (by omega) (by omega) (by omega) (by omega) hg ha; omega
    · rw [if_neg hg, if_neg hg, List.nil_append]
      exact ih (n + 1) (fun a a' h1 h2 h3 h4 => h a a' (by omega) (by omega) (by omega) (by omega))
theorem one_length (b : Int) (v : Int × Bool) : (one b v).length ≤ 1 := by unfold one; split <;> simp
theorem backFrom_length (p m f : Int) (d : Nat) : ∀ b, (backFrom p m f d b).length ≤ d := by
  induction d with
  | zero => intro b; exact Nat.le_refl _
  | succ d ih =>
    intro b
    rw [backFrom, List.length_append]
    have := ih (b + 1)
    have := one_length b (firstPay (fun a => propB p m f a b 100) 100 0)
    omega
theorem backV_length (l : List Int) (p m f : Int) : (backV l p m f).1.length ≤ 100 := by
  unfold backV
  split
  · exact backFrom_length p m f 100 0
  · simp

theorem ev_spec_BackContracts_l1 (l : List Int) (p m f : Int) (b : Int) (r : List S32 × Bool) (d : Nat) : ∀ (n : Nat) (o : List S32), n + d = 100 → o.length ≤ 1000000 + n → Ev (fun k => spec_BackContracts.l0 k (o ++ gather (fun a => propB p m f a b 100) b d (n : Int)) (wrap64 (b + 1)) l p m f) r → Ev (fun k => spec_BackContracts.l1 k o b (n : Int) l p m f) r := by
  induction d with
  | zero =>
    intro n o hn ho K
    refine ev_succ ?_
    have h1 : ¬ (n : Int) ≤ 99 := by omega
    simp only [spec_BackContracts.l1, h1, ↓reduceIte]
    simpa [gather] using K
  | succ d ih =>
    intro n o hn ho K
    refine ev_succ ?_
    have h1 : (n : Int) ≤ 99 := by omega
    have h2 : o.length < 5864062014805 := by omega
    simp only [spec_BackContracts.l1, h1, h2, ↓reduceIte, spec_l10Proportion_f, Option.bind_some, w64_nat (show n < 100 by omega) (by omega)]
    have hb1 : ((n + 1 : Nat) : Int) = (n : Int) + 1 := by omega
    rw [gather] at K
    refine ev_ite (fun h => ?_) (fun h => ?_)
    · rw [if_pos h] at K
      refine ih (n + 1) _ (by omega) (by simp; omega) ?_
      rw [hb1]
      simpa using K
    · rw [if_neg h] at K
      refine ih (n + 1) o (by omega) (by omega) ?_
      rw [hb1]
      simpa using K
theorem ev_spec_BackContracts_l0 (l : List Int) (p m f : Int) (hv : marketB l p m f = true) (d : Nat) : ∀ (b : Nat) (o : List S32), b + d = 100 → o.length ≤ b → Ev (fun k => spec_BackContracts.l0 k o (b : Int) l p m f) (o ++ backFrom p m f d (b : Int), true) := by
  have hm := marketB_mem hv
  induction d with
  | zero =>
    intro b o hb ho
    refine ev_succ ?_
    have h1 : ¬ (b : Int) ≤ 99 := by omega
    simp only [spec_BackContracts.l0, h1, ↓reduceIte]
    exact ev_eq (Ev.now _) (by simp [backFrom])
  | succ d ih =>
    intro b o hb ho
    refine ev_succ ?_
    have h1 : (b : Int) ≤ 99 := by omega
    simp only [spec_BackContracts.l0, h1, ↓reduceIte]
    have hb1 : ((b + 1 : Nat) : Int) = (b : Int) + 1 := by omega
    refine ev_spec_BackContracts_l1 l p m f (b : Int) _ 100 0 o (by omega) (by omega) ?_
    rw [w64_nat (show b < 100 by omega) (by omega)]
    have hg : gather (fun a => propB p m f a (b : Int) 100) (b : Int) 100 0 = one (b : Int) (firstPay (fun a => propB p m f a (b : Int) 100) 100 0) :=
      gather_one 100 0 (fun a a' h1 h2 h3 h4 h5 h6 => propB_one hm.2.2.2.2.1 hm.2.2.2.2.2.1 hm.2.2.2.2.2.2 (by omega) (by omega) (by omega) (by omega) h5 h6)
    rw [show ((0 : Nat) : Int) = 0 from rfl, hg]
    have := one_length (b : Int) (firstPay (fun a => propB p m f a (b : Int) 100) 100 0)
    refine ev_eq (ih (b + 1) _ (by omega) (by rw [List.length_append]; omega)) ?_
    rw [backFrom, hb1]; simp
theorem ev_spec_BackContracts (l : List Int) (p m f : Int) (hl : l.length ≤ 9223372036854775807) : Ev (fun k => spec_BackContracts.f k l p m f) (backV l p m f) := by
  unfold spec_BackContracts.f backV
  simp only [Option.bind_some]
  refine Ev.bind (ev_spec_l10Market l p m f hl) ?_
  refine ev_ite (fun h => ?_) (fun h => ?_)
  · rw [if_pos h]
    have hz := ev_spec_BackContracts_l0 l p m f h 100 0 [] (by omega) (by simp)
    rw [List.nil_append, show ((0 : Nat) : Int) = 0 from rfl] at hz
    exact hz
  · rw [if_neg h]; exact Ev.now _

theorem impl_within_f (a b c : Int) : impl_within.f a b c = some (inB a b c) := by
  unfold impl_within.f inB
  by_cases h : a ≥ b
  · rw [if_pos h]; congr 1; rw [decide_eq_decide]; omega
  · rw [if_neg h]; congr 1; symm; rw [decide_eq_false_iff_not]; omega

theorem ev_impl_allWithin_l0 (a b : Int) (l : List Int) (hl : l.length ≤ 9223372036854775807) (d : Nat) : ∀ i : Nat, i + d = l.length → Ev (fun k => impl_allWithin.l0 k a b l (l.length : Int) (i : Int)) (allB (l.drop i) a b) := by
  induction d with
  | zero =>
    intro i hi
    refine ev_succ ?_
    have h1 : ¬ (i : Int) < (l.length : Int) := by omega
    simp only [impl_allWithin.l0, h1, ↓reduceIte]
    rw [List.drop_eq_nil_of_le (by omega)]
    exact Ev.now _
  | succ d ih =>
    intro i hi
    refine ev_succ ?_
    have h1 : (i : Int) < (l.length : Int) := by omega
    have h0 : (0 : Int) ≤ (i : Int) := by omega
    have hi' : i < l.length := by omega
    simp only [impl_allWithin.l0, h1, h0, ↓reduceIte, impl_within_f, Option.bind_some, rd_nat hi', w64_nat hi' hl]
    rw [drop_cons hi']
    show Ev _ (inB l[i] a b && allB (l.drop (i + 1)) a b)
    cases inB l[i] a b with
    | true => simpa using ih (i + 1) (by omega)
    | false => simpa using Ev.now false
theorem ev_impl_allWithin (l : List Int) (a b : Int) (hl : l.length ≤ 9223372036854775807) : Ev (fun k => impl_allWithin.f k l a b) (allB l a b) := by
  unfold impl_allWithin.f
  simpa using ev_impl_allWithin_l0 a b l hl l.length 0 (by omega)

theorem ev_impl_total_l0 (l : List Int) (hl : l.length ≤ 9223372036854775807) (d : Nat) : ∀ (i : Nat) (s : Int), i + d = l.length → wrap64 s = s → Ev (fun k => impl_total.l0 k s l (l.length : Int) (i : Int)) (wrap64 (s + (l.drop i).sum)) := by
  induction d with
  | zero =>
    intro i s hi hs
    refine ev_succ ?_
    have h1 : ¬ (i : Int) < (l.length : Int) := by omega
    simp only [impl_total.l0, h1, ↓reduceIte]
    rw [List.drop_eq_nil_of_le (by omega)]
    simp only [List.sum_nil, Int.add_zero, hs]
    exact Ev.now _
  | succ d ih =>
    intro i s hi hs
    refine ev_succ ?_
    have h1 : (i : Int) < (l.length : Int) := by omega
    have h0 : (0 : Int) ≤ (i : Int) := by omega
    have hi' : i < l.length := by omega
    simp only [impl_total.l0, h1, h0, ↓reduceIte, rd_nat hi', w64_nat hi' hl]
    refine ev_eq (ih (i + 1) _ (by omega) (w64_idem _)) ?_
    rw [drop_cons hi', List.sum_cons, w64_add_l, Int.add_assoc]
theorem ev_impl_total (l : List Int) (hl : l.length ≤ 9223372036854775807) : Ev (fun k => impl_total.f k l) (wrap64 l.sum) := by
  unfold impl_total.f
  simpa using ev_impl_total_l0 l hl l.length 0 0 (by omega) w64_zero

theorem ev_impl_IsMarket (l : List Int) (p m f : Int) (hl : l.length ≤ 9223372036854775807) : Ev (fun k => impl_IsMarket.f k l p m f) (marketB l p m f) := by
  unfold impl_IsMarket.f marketB
  simp only [impl_within_f, Option.bind_some]
  refine ev_ite (fun h1 => ?_) (fun h1 => ?_)
  · refine Ev.bind (ev_impl_allWithin l 0 4 hl) ?_
    refine ev_ite (fun h2 => ?_) (fun h2 => ?_)
    · refine Ev.bind (ev_impl_total l hl) ?_
      refine ev_ite (fun h3 => ?_) (fun h3 => ?_)
      · refine ev_eq (ev_pure (x := _) (r := inB p 1 99 && (inB m 0 p && inB f 0 m)) ?_) ?_
        · cases inB p 1 99 <;> cases inB m 0 p <;> rfl
        · simp [h1, h2, h3]
      · exact ev_eq (Ev.now _) (by simp [h3])
    · exact ev_eq (Ev.now _) (by simp [h2])
  · exact ev_eq (Ev.now _) (by simp [h1])

theorem impl_Market_proportion_f (l : List Int) (p m f a b c : Int) : impl_Market_proportion.f l p m f a b c = some (propB p m f a b c) := by
  unfold impl_Market_proportion.f propB
  split <;> rfl

theorem ev_impl_Market_payFor_l0 (l : List Int) (p m f b c : Int) (d : Nat) : ∀ n : Nat, n + d = 100 → Ev (fun k => impl_Market_payFor.l0 k b c (n : Int) l p m f) (firstPay (fun a => propB p m f a b c) d (n : Int)) := by
  induction d with
  | zero =>
    intro n hn
    refine ev_succ ?_
    have h1 : ¬ (n : Int) < 100 := by omega
    simp only [impl_Market_payFor.l0, h1, ↓reduceIte]
    exact Ev.now _
  | succ d ih =>
    intro n hn
    refine ev_succ ?_
    have h1 : (n : Int) < 100 := by omega
    simp only [impl_Market_payFor.l0, h1, ↓reduceIte, impl_Market_proportion_f, Option.bind_some, w64_nat (show n < 100 by omega) (by omega)]
    unfold firstPay
    refine ev_ite (fun h => ?_) (fun h => ?_)
    · rw [if_pos h]; exact Ev.now _
    · rw [if_neg h]; exact ih (n + 1) (by omega)
theorem ev_impl_Market_payFor (l : List Int) (p m f b c : Int) : Ev (fun k => impl_Market_payFor.f k l p m f b c) (firstPay (fun a => propB p m f a b c) 100 0) := by
  unfold impl_Market_payFor.f
  exact ev_impl_Market_payFor_l0 l p m f b c 100 0 (by omega)

theorem ev_impl_BackContracts_l0 (l : List Int) (p m f : Int) (d : Nat) : ∀ (b : Nat) (o : List S32), b + d = 100 → o.length ≤ b → Ev (fun k => impl_BackContracts.l0 k o (b : Int) l p m f) (o ++ backFrom p m f d (b : Int), true) := by
  induction d with
  | zero =>
    intro b o hb ho
    refine ev_succ ?_
    have h1 : ¬ (b : Int) < 100 := by omega
    simp only [impl_BackContracts.l0, h1, ↓reduceIte]
    exact ev_eq (Ev.now _) (by simp [backFrom])
  | succ d ih =>
    intro b o hb ho
    refine ev_succ ?_
    have h1 : (b : Int) < 100 := by omega
    have h2 : o.length < 5864062014805 := by omega
    simp only [impl_BackContracts.l0, h1, h2, ↓reduceIte, w64_nat (show b < 100 by omega) (by omega)]
    refine Ev.bind (ev_impl_Market_payFor l p m f (b : Int) 100) ?_
    rw [backFrom]
    have hb1 : ((b + 1 : Nat) : Int) = (b : Int) + 1 := by omega
    refine ev_ite (fun h => ?_) (fun h => ?_)
    · refine ev_eq (ih (b + 1) (o ++ [⟨(firstPay (fun a => propB p m f a (b : Int) 100) 100 0).1, (b : Int), 100⟩]) (by omega) (by simp; omega)) ?_
      rw [one, if_pos h, hb1]; simp
    · refine ev_eq (ih (b + 1) o (by omega) (by omega)) ?_
      rw [one, if_neg h, hb1]; simp
theorem ev_impl_BackContracts (l : List Int) (p m f : Int) (hl : l.length ≤ 9223372036854775807) : Ev (fun k => impl_BackContracts.f k l p m f) (backV l p m f) := by
  unfold impl_BackContracts.f backV
  refine Ev.bind (ev_impl_IsMarket l p m f hl) ?_
  refine ev_ite (fun h => ?_) (fun h => ?_)
  · rw [if_pos h]
    have hz := ev_impl_BackContracts_l0 l p m f 100 0 [] (by omega) (by simp)
    rw [List.nil_append, show ((0 : Nat) : Int) = 0 from rfl] at hz
    exact hz
  · rw [if_neg h]; exact Ev.now _

theorem rdEContract_nat {l : List S32} {i : Nat} (h : i < l.length) : rd_T32 l (i : Int) = l[i] := by
  unfold rd_T32
  simp [List.getD_eq_getElem?_getD, h]
theorem ev_laws_eqContractS_self_l0 (l : List S32) (hl : l.length ≤ 9223372036854775807) (d : Nat) : ∀ (i : Nat), i + d = l.length → Ev (fun k => laws_eqContractS.l0 k l l (i : Int)) true := by
  induction d with
  | zero =>
    intro i hi
    refine ev_succ ?_
    have h1 : ¬ (i : Int) < (l.length : Int) := by omega
    simp only [laws_eqContractS.l0, h1, ↓reduceIte]
    exact Ev.now _
  | succ d ih =>
    intro i hi
    refine ev_succ ?_
    have h1 : (i : Int) < (l.length : Int) := by omega
    have h0 : (0 : Int) ≤ (i : Int) := by omega
    have hi' : i < l.length := by omega
    simp only [laws_eqContractS.l0, laws_eqContract.f, h1, h0, ↓reduceIte, w64_nat hi' hl, Option.bind_some]
    exact ih (i + 1) (by omega)
theorem ev_laws_eqContractS_self (l : List S32) (hl : l.length ≤ 9223372036854775807) : Ev (fun k => laws_eqContractS.f k l l) true := by
  unfold laws_eqContractS.f
  simp only [if_true]
  exact ev_laws_eqContractS_self_l0 l hl l.length 0 (by omega)

def marked (m : Int) : Nat → List Int
  | 0 => []
  | n + 1 => m :: marked (m + 1) n
theorem marked_length (m : Int) (n : Nat) : (marked m n).length = n := by
  induction n generalizing m with
  | zero => rfl
  | succ n ih => simp [marked, ih]
theorem marked_get (m : Int) (n i : Nat) (h : i < (marked m n).length) : (marked m n)[i] = m + i := by
  induction n generalizing m i with
  | zero => simp [marked] at h
  | succ n ih =>
    cases i with
    | zero => simp [marked]
    | succ i =>
      simp only [marked, List.getElem_cons_succ]
      rw [ih]
      omega
theorem ev_laws_markIntS_l0 (l0 : List Int) (hl : l0.length ≤ 4611686018427387904) (m0 : Int) (h0 : 0 ≤ m0) (h1 : m0 ≤ 1000000000) (d : Nat) : ∀ (i : Nat) (l : List Int), i + d = l.length → l.length = l0.length → Ev (fun k => laws_markIntS.l0 k l (m0 + (i : Int)) (i : Int)) (m0 + (l.length : Int), l.take i ++ marked (m0 + i) d) := by
  induction d with
  | zero =>
    intro i l hi hle
    refine ev_succ ?_
    have h1 : ¬ (i : Int) < (l.length : Int) := by omega
    simp only [laws_markIntS.l0, h1, ↓reduceIte]
    rw [List.take_of_length_le (by omega)]
    have : i = l.length := by omega
    subst this
    simp only [marked, List.append_nil]
    exact Ev.now _
  | succ d ih =>
    intro i l hi hle
    refine ev_succ ?_
    have h1' : (i : Int) < (l.length : Int) := by omega
    have h0' : (0 : Int) ≤ (i : Int) := by omega
    have hi' : i < l.length := by omega
    have e1 : wrap64 (m0 + (i : Int) + 1) = m0 + ((i + 1 : Nat) : Int) := by rw [w64 (by omega) (by omega)]; omega
    simp only [laws_markIntS.l0, h1', h0', ↓reduceIte, w64_nat hi' (by omega : l.length ≤ 9223372036854775807), Int.toNat_natCast, e1]
    refine ev_eq (ih (i + 1) (l.set i (m0 + (i : Int))) (by simp; omega) (by simp [hle])) ?_
    rw [List.length_set]
    congr 1
    rw [List.take_add_one]
    simp only [List.getElem?_set_self hi', List.take_set_of_le (Nat.le_refl i)]
    simp only [Option.toList_some, List.append_assoc, List.singleton_append, marked]
    congr 3
    omega
theorem ev_laws_markIntS (l : List Int) (m : Int) (hl : l.length ≤ 4611686018427387904) (h0 : 0 ≤ m) (h1 : m ≤ 1000000000) : Ev (fun k => laws_markIntS.f k l m) (m + (l.length : Int), marked m l.length) := by
  unfold laws_markIntS.f
  simpa using ev_laws_markIntS_l0 l hl m h0 h1 l.length 0 l (by omega) rfl

theorem ev_laws_markMarket (l : List Int) (p m f x : Int) (hl : l.length ≤ 4611686018427387904) (h0 : 0 ≤ x) (h1 : x ≤ 1000000000) : Ev (fun k => laws_markMarket.f k l p m f x) (x + (l.length : Int), marked x l.length) := by
  unfold laws_markMarket.f
  exact Ev.bind (ev_laws_markIntS l x hl h0 h1) (Ev.now _)

def markedContract (m : Int) : Nat → List S32
  | 0 => []
  | n + 1 => ⟨m, m + 1, m + 2⟩ :: markedContract (m + 3) n
theorem markedContract_length (m : Int) (n : Nat) : (markedContract m n).length = n := by
  induction n generalizing m with
  | zero => rfl
  | succ n ih => simp [markedContract, ih]
theorem markedContract_get (m : Int) (n i : Nat) (h : i < (markedContract m n).length) : (markedContract m n)[i] = ⟨m + 3 * i, m + 3 * i + 1, m + 3 * i + 2⟩ := by
  induction n generalizing m i with
  | zero => simp [markedContract] at h
  | succ n ih =>
    cases i with
    | zero => simp [markedContract]
    | succ i =>
      simp only [markedContract, List.getElem_cons_succ]
      rw [ih]
      simp only [Int.natCast_add, Int.cast_ofNat_Int, Int.mul_add]
      congr 1 <;> omega
theorem rdKContract_nat {l : List S32} {i : Nat} (h : i < l.length) : rd_T32 l (i : Int) = l[i] := by
  unfold rd_T32
  simp [List.getD_eq_getElem?_getD, h]
theorem ev_laws_markContractS_l0 (n0 : Nat) (hl : n0 ≤ 1000000000000) (m0 : Int) (h0 : 0 ≤ m0) (h1 : m0 ≤ 1000000000) (d : Nat) : ∀ (i : Nat) (l : List S32), i + d = l.length → l.length = n0 → Ev (fun k => laws_markContractS.l0 k l (m0 + 3 * (i : Int)) (i : Int)) (m0 + 3 * (l.length : Int), l.take i ++ markedContract (m0 + 3 * i) d) := by
  induction d with
  | zero =>
    intro i l hi hle
    refine ev_succ ?_
    have h1 : ¬ (i : Int) < (l.length : Int) := by omega
    simp only [laws_markContractS.l0, h1, ↓reduceIte]
    rw [List.take_of_length_le (by omega)]
    have : i = l.length := by omega
    subst this
    simp only [markedContract, List.append_nil]
    exact Ev.now _
  | succ d ih =>
    intro i l hi hle
    refine ev_succ ?_
    have h1' : (i : Int) < (l.length : Int) := by omega
    have h0' : (0 : Int) ≤ (i : Int) := by omega
    have hi' : i < l.length := by omega
    have e1 : wrap64 (m0 + 3 * (i : Int) + 1) = m0 + 3 * (i : Int) + 1 := w64 (by omega) (by omega)
    have e2 : wrap64 (m0 + 3 * (i : Int) + 1 + 1) = m0 + 3 * (i : Int) + 2 := by rw [w64 (by omega) (by omega)]; omega
    have e3 : wrap64 (m0 + 3 * (i : Int) + 2 + 1) = m0 + 3 * ((i + 1 : Nat) : Int) := by rw [w64 (by omega) (by omega)]; omega
    simp only [laws_markContractS.l0, h1', h0', ↓reduceIte, w64_nat hi' (by omega : l.length ≤ 9223372036854775807), Int.toNat_natCast, Option.bind_some, e1, e2, e3]
    have r1 : ∀ x, rd_T32 (l.set i x) (i : Int) = x := fun x => by rw [rdKContract_nat (by simpa using hi')]; simp
    have r2 : ∀ x y, rd_T32 ((l.set i x).set i y) (i : Int) = y := fun x y => by rw [rdKContract_nat (by simpa using hi')]; simp
    simp only [r1, r2, List.set_set]
    refine ev_eq (ih (i + 1) (l.set i _) (by simp; omega) (by simp [hle])) ?_
    rw [List.length_set]
    congr 1
    rw [List.take_add_one]
    simp only [List.getElem?_set_self hi', List.take_set_of_le (Nat.le_refl i)]
    simp only [Option.toList_some, List.append_assoc, List.singleton_append, markedContract]
    congr 3
    omega
theorem ev_laws_markContractS (l : List S32) (m : Int) (hl : l.length ≤ 1000000000000) (h0 : 0 ≤ m) (h1 : m ≤ 1000000000) : Ev (fun k => laws_markContractS.f k l m) (m + 3 * (l.length : Int), markedContract m l.length) := by
  unfold laws_markContractS.f
  simpa using ev_laws_markContractS_l0 l.length hl m h0 h1 l.length 0 l (by omega) rfl

theorem ev_laws_heldContractS_l0 (m0 : Int) (n : Nat) (hn : n ≤ 1000000000000) (h0 : 0 ≤ m0) (h1 : m0 ≤ 1000000000) (d : Nat) : ∀ (i : Nat), i + d = n → Ev (fun k => laws_heldContractS.l0 k (markedContract m0 n) (m0 + 3 * (i : Int)) (i : Int)) (m0 + 3 * (n : Int)) := by
  induction d with
  | zero =>
    intro i hi
    refine ev_succ ?_
    have h1 : ¬ (i : Int) < ((markedContract m0 n).length : Int) := by rw [markedContract_length]; omega
    simp only [laws_heldContractS.l0, h1, ↓reduceIte]
    have : i = n := by omega
    subst this
    exact Ev.now _
  | succ d ih =>
    intro i hi
    refine ev_succ ?_
    have h1' : (i : Int) < ((markedContract m0 n).length : Int) := by rw [markedContract_length]; omega
    have h0' : (0 : Int) ≤ (i : Int) := by omega
    have hi' : i < (markedContract m0 n).length := by rw [markedContract_length]; omega
    have e1 : wrap64 (m0 + 3 * (i : Int) + 1) = m0 + 3 * (i : Int) + 1 := w64 (by omega) (by omega)
    have e2 : wrap64 (m0 + 3 * (i : Int) + 1 + 1) = m0 + 3 * (i : Int) + 2 := by rw [w64 (by omega) (by omega)]; omega
    have e3 : wrap64 (m0 + 3 * (i : Int) + 2 + 1) = m0 + 3 * ((i + 1 : Nat) : Int) := by rw [w64 (by omega) (by omega)]; omega
    have e4 : wrap64 ((i : Int) + 1) = ((i + 1 : Nat) : Int) := w64_nat (n := n) (by omega) (by omega)
    simp only [laws_heldContractS.l0, h1', h0', ↓reduceIte, rdKContract_nat hi', markedContract_get, e1, e2, e3, e4]
    exact ih (i + 1) (by omega)
theorem ev_laws_heldContractS (m : Int) (n : Nat) (hn : n ≤ 1000000000000) (h0 : 0 ≤ m) (h1 : m ≤ 1000000000) : Ev (fun k => laws_heldContractS.f k (markedContract m n) m) (m + 3 * (n : Int)) := by
  unfold laws_heldContractS.f
  simpa using ev_laws_heldContractS_l0 m n hn h0 h1 n 0 (by omega)

theorem FnExactBackContracts (l0_0 : List (Int)) (a0_1 : Int) (a0_2 : Int) (a0_3 : Int) (h0_0 : l0_0.length ≤ 9223372036854775807) (w0_0 : ∀ y ∈ l0_0, (Lit.int .i64 y).wf = true) (w0_1 : (Lit.int .i64 a0_1).wf = true) (w0_2 : (Lit.int .i64 a0_2).wf = true) (w0_3 : (Lit.int .i64 a0_3).wf = true) : ∃ k, laws_FnExactBackContracts.f k l0_0 a0_1 a0_2 a0_3 = some true := by
  refine Ev.rounds ?_
  unfold laws_FnExactBackContracts.f
  by_cases hn : l0_0.length ≤ 1048576
  · have hs := ev_spec_BackContracts l0_0 a0_1 a0_2 a0_3 h0_0
    have hi := ev_impl_BackContracts l0_0 a0_1 a0_2 a0_3 h0_0
    have hv := backV_length l0_0 a0_1 a0_2 a0_3
    generalize backV l0_0 a0_1 a0_2 a0_3 = v at hs hi hv
    obtain ⟨v, b⟩ := v
    dsimp only at hv
    simp only [laws_szMarket_le l0_0 a0_1 a0_2 a0_3 hn, Option.bind_some]
    repeat first
      | exact Ev.now _
      | (refine Ev.bind ht ?_; try dsimp only)
      | (refine Ev.bind hs ?_; try dsimp only)
      | (refine Ev.bind hi ?_; try dsimp only)
      | (refine Ev.bind (ev_laws_toIntS _ (by first | assumption | omega)) ?_; try dsimp only)
      | (refine Ev.bind (ev_laws_toMarket _ _ _ _ (by first | assumption | omega)) ?_; try dsimp only)
      | (refine Ev.bind (ev_laws_eqIntS_self _ (by omega)) ?_; try dsimp only)
      | (refine Ev.bind (ev_laws_eqMarket_self _ _ _ _ (by omega)) ?_; try dsimp only)
      | (refine Ev.bind (ev_laws_eqContract_self _ _ _ (by omega)) ?_; try dsimp only)
      | (refine Ev.bind (ev_laws_eqContractS_self _ (by omega)) ?_; try dsimp only)
      | (refine Ev.bind (ev_laws_markIntS _ _ (by omega) (by omega) (by omega)) ?_; try dsimp only)
      | (refine Ev.bind (ev_laws_markMarket _ _ _ _ _ (by omega) (by omega) (by omega)) ?_; try dsimp only)
      | (refine Ev.bind (ev_laws_markContractS _ _ (by omega) (by omega) (by omega)) ?_; try dsimp only)
      | (refine Ev.bind (ev_laws_heldContractS _ _ (by omega) (by omega) (by omega)) ?_; try dsimp only)
      | (refine ev_ite (fun h => absurd h (by omega)) (fun _ => ?_))
      | (refine ev_ite (fun _ => ?_) (fun h => absurd (by omega) h))
      | (simp only [bne_self_eq_false, Bool.false_eq_true, ↓reduceIte])
      | (refine ev_succ ?_; simp only [laws_FnExactBackContracts.j0])
      | (refine ev_succ ?_; simp only [laws_FnExactBackContracts.j1])
      | (refine ev_succ ?_; simp only [laws_FnExactBackContracts.j2])
  · simp only [laws_szMarket_gt l0_0 a0_1 a0_2 a0_3 h0_0 (by omega), Option.bind_some]
    exact Ev.now _

end Go.Proofs.Ytiniocecpgjikaa.Pure
