/- The pure side of FnExactBestUpTo: what the program's text computes and what the reference's text computes are the same value, for every argument. No condition. -/
import Derived.Test.YtjenbljkjmkbfaaPFnExactBestUpTox3
namespace Go.Proofs.Ytjenbljkjmkbfaa.Pure
open Go.RowKit Go.Proofs.Ytjenbljkjmkbfaa.PFnExactBestUpTo Go.Proofs.YtjenbljkjmkbfaaW.PrintWords Go.Proofs.YtjenbljkjmkbfaaW.PrintLast
set_option linter.unusedVariables false
set_option linter.unusedSimpArgs false

theorem ev_succ {α : Type} {g : Nat → Option α} {r : α} (h : Ev (fun k => g (k + 1)) r) : Ev g r := Ev.step (fun _ => rfl) h
theorem ev_pure {α : Type} {x : Option α} {r : α} (h : x = some r) : Ev (fun _ => x) r := ⟨0, fun _ _ => h⟩
theorem ev_eq {α : Type} {g : Nat → Option α} {r r' : α} (h : Ev g r) (e : r = r') : Ev g r' := e ▸ h
theorem ev_ite {α : Type} {c : Prop} [Decidable c] {g f : Nat → Option α} {r : α} (h1 : c → Ev g r) (h2 : ¬ c → Ev f r) : Ev (fun k => if c then g k else f k) r := by
  by_cases h : c
  · simp only [h, if_true]; exact h1 h
  · simp only [h, if_false]; exact h2 h
theorem w64 {x : Int} (h : -9223372036854775808 ≤ x) (h' : x ≤ 9223372036854775807) : wrap64 x = x := by unfold wrap64; omega
theorem w64_zero : wrap64 0 = 0 := w64 (by omega) (by omega)
theorem w64_idem (x : Int) : wrap64 (wrap64 x) = wrap64 x := by unfold wrap64; omega
theorem w64_add_l (x y : Int) : wrap64 (wrap64 x + y) = wrap64 (x + y) := by unfold wrap64; omega
theorem w64_add_r (x y : Int) : wrap64 (x + wrap64 y) = wrap64 (x + y) := by unfold wrap64; omega
theorem w64_range (x : Int) : -9223372036854775808 ≤ wrap64 x ∧ wrap64 x ≤ 9223372036854775807 := by unfold wrap64; omega
theorem w64_nat {i n : Nat} (h : i < n) (hn : n ≤ 9223372036854775807) : wrap64 ((i : Int) + 1) = ((i + 1 : Nat) : Int) := by rw [w64 (by omega) (by omega)]; rfl
theorem wf_range {x : Int} (h : (Lit.int .i64 x).wf = true) : -9223372036854775808 ≤ x ∧ x ≤ 9223372036854775807 := by
  simp [Lit.wf, IntKind.min, IntKind.max, IntKind.signed, IntKind.bits] at h
  omega
theorem rd_nat {l : List Int} {i : Nat} (h : i < l.length) : rd l (i : Int) = l[i] := by
  unfold rd
  simp [List.getD_eq_getElem?_getD, h]
def allB (l : List Int) (a b : Int) : Bool := l.all fun x => decide (a ≤ x ∧ x ≤ b)
def inB (x a b : Int) : Bool := decide (a ≤ x ∧ x ≤ b)
theorem allB_mem {l : List Int} {a b : Int} (h : allB l a b = true) : ∀ x ∈ l, a ≤ x ∧ x ≤ b := by
  intro x hx
  have := List.all_eq_true.1 h x hx
  simpa using this
theorem inB_iff {x a b : Int} : inB x a b = true ↔ a ≤ x ∧ x ≤ b := by unfold inB; simp
theorem sum_le {l : List Int} {b : Int} (hb : ∀ x ∈ l, x ≤ b) : l.sum ≤ l.length * b := by
  induction l with
  | nil => simp
  | cons x l ih =>
    have h1 := hb x (by simp)
    have h2 := ih (fun y hy => hb y (by simp [hy]))
    rw [List.sum_cons, List.length_cons]
    have : ((l.length + 1 : Nat) : Int) * b = l.length * b + b := by rw [Int.natCast_add, Int.add_mul]; simp
    rw [this]; omega
theorem le_sum {l : List Int} {b : Int} (hb : ∀ x ∈ l, b ≤ x) : l.length * b ≤ l.sum := by
  induction l with
  | nil => simp
  | cons x l ih =>
    have h1 := hb x (by simp)
    have h2 := ih (fun y hy => hb y (by simp [hy]))
    rw [List.sum_cons, List.length_cons]
    have : ((l.length + 1 : Nat) : Int) * b = l.length * b + b := by rw [Int.natCast_add, Int.add_mul]; simp
    rw [this]; omega
theorem drop_cons {α : Type} {l : List α} {i : Nat} (h : i < l.length) : l.drop i = l[i] :: l.drop (i + 1) := List.drop_eq_getElem_cons h

theorem ev_laws_toIntS_l0 (l : List Int) (hl : l.length ≤ 9223372036854775807) (d : Nat) : ∀ (i : Nat) (o : List Int), i + d = l.length → o.length = l.length → Ev (fun k => laws_toIntS.l0 k l o (i : Int)) (o.take i ++ l.drop i) := by
  induction d with
  | zero =>
    intro i o hi ho
    refine ev_succ ?_
    have h1 : ¬ (i : Int) < (l.length : Int) := by omega
    simp only [laws_toIntS.l0, h1, ↓reduceIte]
    rw [List.drop_eq_nil_of_le (by omega), List.take_of_length_le (by omega), List.append_nil]
    exact Ev.now _
  | succ d ih =>
    intro i o hi ho
    refine ev_succ ?_
    have h1 : (i : Int) < (l.length : Int) := by omega
    have h2 : (i : Int) < (o.length : Int) := by omega
    have h0 : (0 : Int) ≤ (i : Int) := by omega
    have hi' : i < l.length := by omega
    simp only [laws_toIntS.l0, h1, h2, h0, ↓reduceIte, rd_nat hi', w64_nat hi' hl, Int.toNat_natCast]
    refine ev_eq (ih (i + 1) _ (by omega) (by simp [ho])) ?_
    rw [drop_cons hi', List.take_add_one]
    simp [ho, hi', List.take_set_of_le (Nat.le_refl i)]
theorem ev_laws_toIntS (l : List Int) (hl : l.length ≤ 1048576) : Ev (fun k => laws_toIntS.f k l) l := by
  unfold laws_toIntS.f
  have h0 : (0 : Int) ≤ (l.length : Int) := by omega
  have h1 : ((l.length : Int) : Int).toNat ≤ 35184372088832 := by omega
  simp only [h0, h1, ↓reduceIte]
  simpa using ev_laws_toIntS_l0 l (by omega) l.length 0 (List.replicate ((l.length : Int) : Int).toNat 0) (by omega) (by simp)

theorem ev_laws_eqIntS_l0 (l m : List Int) (hl : l.length ≤ 9223372036854775807) (he : l.length = m.length) (d : Nat) : ∀ (i : Nat), i + d = l.length → Ev (fun k => laws_eqIntS.l0 k l m (i : Int)) (decide (l.drop i = m.drop i)) := by
  induction d with
  | zero =>
    intro i hi
    refine ev_succ ?_
    have h1 : ¬ (i : Int) < (l.length : Int) := by omega
    simp only [laws_eqIntS.l0, h1, ↓reduceIte]
    rw [List.drop_eq_nil_of_le (by omega), List.drop_eq_nil_of_le (by omega)]
    exact Ev.now _
  | succ d ih =>
    intro i hi
    refine ev_succ ?_
    have h1 : (i : Int) < (l.length : Int) := by omega
    have h2 : (i : Int) < (m.length : Int) := by omega
    have h0 : (0 : Int) ≤ (i : Int) := by omega
    have hi' : i < l.length := by omega
    have hm' : i < m.length := by omega
    simp only [laws_eqIntS.l0, h1, h2, h0, ↓reduceIte, rd_nat hi', rd_nat hm', w64_nat hi' hl]
    refine ev_ite (fun h => ?_) (fun h => ?_)
    · refine ev_eq (ih (i + 1) (by omega)) ?_
      rw [drop_cons hi', drop_cons hm', decide_eq_decide, h, List.cons.injEq]
      exact (and_iff_right rfl).symm
    · refine ev_eq (Ev.now _) ?_
      rw [drop_cons hi', drop_cons hm']
      symm
      rw [decide_eq_false_iff_not, List.cons.injEq]
      exact fun hc => h hc.1
theorem ev_laws_eqIntS (l m : List Int) (hl : l.length ≤ 9223372036854775807) : Ev (fun k => laws_eqIntS.f k l m) (decide (l = m)) := by
  unfold laws_eqIntS.f
  refine ev_ite (fun h => ?_) (fun h => ?_)
  · simpa using ev_laws_eqIntS_l0 l m hl (by omega) l.length 0 (by omega)
  · refine ev_eq (Ev.now _) ?_
    symm
    rw [decide_eq_false_iff_not]
    rintro rfl
    exact h rfl
theorem ev_laws_eqIntS_self (l : List Int) (hl : l.length ≤ 9223372036854775807) : Ev (fun k => laws_eqIntS.f k l l) true := by
  simpa using ev_laws_eqIntS l l hl

theorem spec_l1In_f (a b c : Int) : spec_l1In.f a b c = some (inB a b c) := by
  unfold spec_l1In.f inB
  by_cases h : a ≥ b
  · rw [if_pos h]; congr 1; rw [decide_eq_decide]; omega
  · rw [if_neg h]; congr 1; symm; rw [decide_eq_false_iff_not]; omega

def cst (h b x : Int) : Int := if x > 0 then wrap64 (h * x) else wrap64 (wrap64 (-b) * x)
def ratesB (h b : Int) : Bool := inB h 0 9 && inB b 0 9
def costV (l : List Int) (h b : Int) : Int := wrap64 (l.map (cst h b)).sum
def stockV (l : List Int) (h b : Int) : Int × Bool := if (decide ((l.length : Int) ≤ 20) && ratesB h b && allB l (-200) 200) = true then (costV l h b, true) else (0, false)
theorem ratesB_mem {h b : Int} (hr : ratesB h b = true) : (0 ≤ h ∧ h ≤ 9) ∧ 0 ≤ b ∧ b ≤ 9 := by
  unfold ratesB at hr
  simp only [Bool.and_eq_true, inB_iff] at hr
  exact hr
theorem cst_impl {h b x : Int} (hh : 0 ≤ h ∧ h ≤ 9) (hb : 0 ≤ b ∧ b ≤ 9) (hx : -100000 ≤ x ∧ x ≤ 100000) : wrap64 (wrap64 (h * mx 0 x) + wrap64 (b * mx 0 (wrap64 (-x)))) = cst h b x := by
  have e : wrap64 (-x) = -x := w64 (by omega) (by omega)
  have e2 : wrap64 (-b) = -b := w64 (by omega) (by omega)
  rw [e]
  unfold cst
  rw [e2]
  by_cases hp : x > 0
  · have m1 : mx 0 x = x := by unfold mx; omega
    have m2 : mx 0 (-x) = 0 := by unfold mx; omega
    rw [m1, m2, if_pos hp, Int.mul_zero, w64_add_l, w64_add_r, Int.add_zero]
  · have m1 : mx 0 x = 0 := by unfold mx; omega
    have m2 : mx 0 (-x) = -x := by unfold mx; omega
    rw [m1, m2, if_neg hp, Int.mul_zero, w64_add_l, w64_add_r, Int.zero_add, Int.mul_neg, Int.neg_mul]
theorem cst_range {h b x : Int} (hh : 0 ≤ h ∧ h ≤ 9) (hb : 0 ≤ b ∧ b ≤ 9) (hx : -100000 ≤ x ∧ x ≤ 100000) : 0 ≤ cst h b x ∧ cst h b x ≤ 900000 := by
  unfold cst
  rw [w64 (x := -b) (by omega) (by omega)]
  by_cases hp : x > 0
  · rw [if_pos hp]
    have h1 : 0 ≤ h * x := Int.mul_nonneg hh.1 (by omega)
    have h2 : h * x ≤ 9 * x := Int.mul_le_mul_of_nonneg_right hh.2 (by omega)
    rw [w64 (by omega) (by omega)]
    omega
  · rw [if_neg hp, Int.neg_mul, ← Int.mul_neg]
    have h1 : 0 ≤ b * -x := Int.mul_nonneg hb.1 (by omega)
    have h2 : b * -x ≤ 9 * -x := Int.mul_le_mul_of_nonneg_right hb.2 (by omega)
    rw [w64 (by omega) (by omega)]
    omega

theorem spec_l11Rates_f (h b : Int) : spec_l11Rates.f h b = some (ratesB h b) := by
  unfold spec_l11Rates.f ratesB
  simp only [spec_l1In_f, Option.bind_some]
  cases inB h 0 9 <;> simp

theorem spec_l11Cost_f (x h b : Int) : spec_l11Cost.f x h b = some (cst h b x) := by
  unfold spec_l11Cost.f cst
  split <;> rfl

theorem ev_spec_l2Row_l0 (n b : Int) (l : List Int) (hl : l.length ≤ 9223372036854775807) (d : Nat) : ∀ i : Nat, i + d = l.length → Ev (fun k => spec_l2Row.l0 k l n b (i : Int)) (allB (l.drop i) 0 b && ((l.length : Int) == n)) := by
  induction d with
  | zero =>
    intro i hi
    refine ev_succ ?_
    have h1 : ¬ (i : Int) < (l.length : Int) := by omega
    simp only [spec_l2Row.l0, h1, ↓reduceIte]
    rw [List.drop_eq_nil_of_le (by omega)]
    exact Ev.now _
  | succ d ih =>
    intro i hi
    refine ev_succ ?_
    have h1 : (i : Int) < (l.length : Int) := by omega
    have h0 : (0 : Int) ≤ (i : Int) := by omega
    have hi' : i < l.length := by omega
    simp only [spec_l2Row.l0, h1, h0, ↓reduceIte, spec_l1In_f, Option.bind_some, rd_nat hi', w64_nat hi' hl]
    rw [drop_cons hi']
    show Ev _ ((inB l[i] 0 b && allB (l.drop (i + 1)) 0 b) && _)
    cases inB l[i] 0 b with
    | true => simpa using ih (i + 1) (by omega)
    | false => simpa using Ev.now false
theorem ev_spec_l2Row (l : List Int) (n b : Int) (hl : l.length ≤ 9223372036854775807) : Ev (fun k => spec_l2Row.f k l n b) (allB l 0 b && ((l.length : Int) == n)) := by
  unfold spec_l2Row.f
  simpa using ev_spec_l2Row_l0 n b l hl l.length 0 (by omega)

theorem ev_spec_l11Numbers (l : List Int) (n b : Int) (hl : l.length ≤ 9223372036854775807) : Ev (fun k => spec_l11Numbers.f k l n b) (decide ((l.length : Int) ≤ n) && allB l 0 b) := by
  unfold spec_l11Numbers.f
  refine ev_ite (fun h => ?_) (fun h => ?_)
  · refine Ev.bind (ev_spec_l2Row l _ b hl) ?_
    refine ev_eq (Ev.now _) ?_
    simp [h]
  · refine ev_eq (Ev.now _) ?_
    simp [h]

def needsFrom (l : List Int) (lead i d : Nat) : List Int := (List.range' i d).map fun j => wrap64 ((l.take (j + lead + 1)).drop j).sum
def askedB (l : List Int) (lead : Int) : Bool := (decide ((l.length : Int) ≤ 20) && allB l 0 20) && inB lead 0 4
def needsV (l : List Int) (lead : Int) : List Int := needsFrom l lead.toNat 0 (l.length - lead.toNat)
theorem needsFrom_length (l : List Int) (lead i d : Nat) : (needsFrom l lead i d).length = d := by simp [needsFrom]
theorem needsFrom_range {l : List Int} (hl : l.length ≤ 20) (h : ∀ x ∈ l, 0 ≤ x ∧ x ≤ 20) (lead i d : Nat) : ∀ x ∈ needsFrom l lead i d, 0 ≤ x ∧ x ≤ 400 := by
  intro x hx
  unfold needsFrom at hx
  obtain ⟨j, _, rfl⟩ := List.mem_map.1 hx
  have hm : ∀ y ∈ ((l.take (j + lead + 1)).drop j), 0 ≤ y ∧ y ≤ 20 := fun y hy => h y (List.mem_of_mem_take (List.mem_of_mem_drop hy))
  have h1 := sum_le (b := 20) (fun y hy => (hm y hy).2)
  have h2 := le_sum (b := 0) (fun y hy => (hm y hy).1)
  have h3 : ((l.take (j + lead + 1)).drop j).length ≤ 20 := by
    rw [List.length_drop, List.length_take]; omega
  rw [w64 (by omega) (by omega)]
  omega
theorem askedB_mem {l : List Int} {lead : Int} (h : askedB l lead = true) : l.length ≤ 20 ∧ (∀ x ∈ l, 0 ≤ x ∧ x ≤ 20) ∧ 0 ≤ lead ∧ lead ≤ 4 := by
  unfold askedB at h
  simp only [Bool.and_eq_true, decide_eq_true_eq] at h
  exact ⟨by omega, allB_mem h.1.2, inB_iff.1 h.2⟩
theorem needs_step (l : List Int) (lead i d : Nat) : needsFrom l lead i (d + 1) = wrap64 ((l.take (i + lead + 1)).drop i).sum :: needsFrom l lead (i + 1) d := by
  simp [needsFrom, List.range'_succ]

theorem ev_spec_l11Asked (l : List Int) (lead : Int) (hl : l.length ≤ 9223372036854775807) : Ev (fun k => spec_l11Asked.f k l lead) (askedB l lead) := by
  unfold spec_l11Asked.f askedB
  refine Ev.bind (ev_spec_l11Numbers l 20 20 hl) ?_
  refine ev_ite (fun h => ?_) (fun h => ?_)
  · simp only [spec_l1In_f, Option.bind_some]
    exact ev_eq (Ev.now _) (by simp [h])
  · exact ev_eq (Ev.now _) (by simp [h])

theorem ev_spec_l2Sum_l0 (l : List Int) (hl : l.length ≤ 9223372036854775807) (d : Nat) : ∀ (i : Nat) (s : Int), i + d = l.length → wrap64 s = s → Ev (fun k => spec_l2Sum.l0 k l s (i : Int)) (wrap64 (s + (l.drop i).sum)) := by
  induction d with
  | zero =>
    intro i s hi hs
    refine ev_succ ?_
    have h1 : ¬ (i : Int) < (l.length : Int) := by omega
    simp only [spec_l2Sum.l0, h1, ↓reduceIte]
    rw [List.drop_eq_nil_of_le (by omega)]
    simp only [List.sum_nil, Int.add_zero, hs]
    exact Ev.now _
  | succ d ih =>
    intro i s hi hs
    refine ev_succ ?_
    have h1 : (i : Int) < (l.length : Int) := by omega
    have h0 : (0 : Int) ≤ (i : Int) := by omega
    have hi' : i < l.length := by omega
    simp only [spec_l2Sum.l0, h1, h0, ↓reduceIte, rd_nat hi', w64_nat hi' hl]
    refine ev_eq (ih (i + 1) _ (by omega) (w64_idem _)) ?_
    rw [drop_cons hi', List.sum_cons, w64_add_l, Int.add_assoc]
theorem ev_spec_l2Sum (l : List Int) (hl : l.length ≤ 9223372036854775807) : Ev (fun k => spec_l2Sum.f k l) (wrap64 l.sum) := by
  unfold spec_l2Sum.f
  simpa using ev_spec_l2Sum_l0 l hl l.length 0 0 (by omega) w64_zero

theorem ev_spec_l11Needs_l0 (l : List Int) (lead : Nat) (hl : l.length ≤ 20) (hlead : lead ≤ 4) (d : Nat) : ∀ (i : Nat) (acc : List Int), acc.length ≤ i → (i + lead + d = l.length ∨ (d = 0 ∧ l.length ≤ i + lead)) → i ≤ 20 →
    Ev (fun k => spec_l11Needs.l0 k l (lead : Int) acc (i : Int)) (acc ++ needsFrom l lead i d) := by
  induction d with
  | zero =>
    intro i acc ha hi hi2
    refine ev_succ ?_
    have e1 : wrap64 ((i : Int) + (lead : Int)) = ((i + lead : Nat) : Int) := by rw [w64 (by omega) (by omega)]; omega
    have h1 : ¬ ((i + lead : Nat) : Int) < (l.length : Int) := by omega
    simp only [spec_l11Needs.l0, e1, h1, ↓reduceIte]
    exact ev_eq (Ev.now _) (by simp [needsFrom])
  | succ d ih =>
    intro i acc ha hi hi2
    refine ev_succ ?_
    have e1 : wrap64 ((i : Int) + (lead : Int)) = ((i + lead : Nat) : Int) := by rw [w64 (by omega) (by omega)]; omega
    have e2 : wrap64 (((i + lead : Nat) : Int) + 1) = ((i + lead + 1 : Nat) : Int) := by rw [w64 (by omega) (by omega)]; omega
    have e3 : wrap64 ((i : Int) + 1) = ((i + 1 : Nat) : Int) := by rw [w64 (by omega) (by omega)]; omega
    have h1 : ((i + lead : Nat) : Int) < (l.length : Int) := by omega
    have h2 : (0 : Int) ≤ (i : Int) := by omega
    have h3 : (i : Int) ≤ ((i + lead + 1 : Nat) : Int) := by omega
    have h4 : ((i + lead + 1 : Nat) : Int) ≤ (l.length : Int) := by omega
    have h5 : acc.length < 17592186044416 := by omega
    simp only [spec_l11Needs.l0, e1, e2, e3, h1, h2, h3, h4, h5, ↓reduceIte, Int.toNat_natCast]
    refine Ev.bind (ev_spec_l2Sum _ (by rw [List.length_drop, List.length_take]; omega)) ?_
    refine ev_eq (ih (i + 1) (acc ++ [wrap64 ((l.take (i + lead + 1)).drop i).sum]) (by simp; omega) (by omega) (by omega)) ?_
    rw [needs_step]; simp
theorem ev_spec_l11Needs (l : List Int) (lead : Int) (hl : l.length ≤ 20) (h0 : 0 ≤ lead) (h4 : lead ≤ 4) : Ev (fun k => spec_l11Needs.f k l lead) (needsV l lead) := by
  unfold spec_l11Needs.f needsV
  have := ev_spec_l11Needs_l0 l lead.toNat hl (by omega) (l.length - lead.toNat) 0 [] (by simp) (by omega) (by omega)
  rw [show ((lead.toNat : Nat) : Int) = lead by omega] at this
  simpa using this

def leadV (l : List Int) (lead : Int) : List Int × Bool := if askedB l lead = true then (needsV l lead, true) else ([], false)
theorem leadV_length {l : List Int} {lead : Int} (h : l.length ≤ 9223372036854775807) : (leadV l lead).1.length ≤ 20 := by
  unfold leadV
  split
  · rename_i h
    have := askedB_mem h
    simp only [needsV, needsFrom_length]
    omega
  · simp

def bup (c : Nat → Int) : Nat → Int × Int
  | 0 => (0, c 0)
  | n + 1 => if c (n + 1) < (bup c n).2 then (((n + 1 : Nat) : Int), c (n + 1)) else bup c n
theorem bup_yes {c : Nat → Int} {n : Nat} (h : c (n + 1) < (bup c n).2) : bup c (n + 1) = (((n + 1 : Nat) : Int), c (n + 1)) := by
  rw [bup]; exact if_pos h
theorem bup_no {c : Nat → Int} {n : Nat} (h : ¬ c (n + 1) < (bup c n).2) : bup c (n + 1) = bup c n := by
  rw [bup]; exact if_neg h
def upCost (needs : List Int) (h b : Int) (s : Nat) : Int := costV (needs.map fun x => (s : Int) - x) h b
def bupV (l : List Int) (lead h b : Int) : Int × Int × Bool :=
  if (askedB l lead && ratesB h b) = true then ((bup (upCost (needsV l lead) h b) 200).1, (bup (upCost (needsV l lead) h b) 200).2, true) else (0, 0, false)
theorem bup_mem (c : Nat → Int) (lo hi : Int) (h : ∀ s, s ≤ 200 → lo ≤ c s ∧ c s ≤ hi) : ∀ n, n ≤ 200 → lo ≤ (bup c n).2 ∧ (bup c n).2 ≤ hi
  | 0, _ => h 0 (by omega)
  | n + 1, hn => by
    unfold bup
    split
    · exact h (n + 1) hn
    · exact bup_mem c lo hi h n (by omega)
theorem upCost_range {needs : List Int} {h b : Int} (hr : ratesB h b = true) (hn : needs.length ≤ 20) (hx : ∀ x ∈ needs, 0 ≤ x ∧ x ≤ 400) (s : Nat) (hs : s ≤ 200) : 0 ≤ upCost needs h b s ∧ upCost needs h b s ≤ 18000000 := by
  have hm := ratesB_mem hr
  have hc : ∀ y ∈ (needs.map fun x => (s : Int) - x).map (cst h b), 0 ≤ y ∧ y ≤ 900000 := by
    intro y hy
    obtain ⟨z, hz, rfl⟩ := List.mem_map.1 hy
    obtain ⟨x, hx2, rfl⟩ := List.mem_map.1 hz
    have := hx x hx2
    exact cst_range hm.1 hm.2 (by omega)
  have h1 := sum_le (b := 900000) (fun y hy => (hc y hy).2)
  have h2 := le_sum (b := 0) (fun y hy => (hc y hy).1)
  simp only [List.length_map] at h1 h2
  unfold upCost costV
  rw [w64 (by omega) (by omega)]
  omega

theorem ev_spec_BestUpTo_l1 (h b best least : Int) (s : Nat) (hs : s ≤ 200) (needs : List Int) (hl : needs.length ≤ 20) (hx : ∀ x ∈ needs, 0 ≤ x ∧ x ≤ 400) (r : Int × Int × Bool)
    (K : Ev (fun k => if least < 0 then spec_BestUpTo.l0 k h b needs (s : Int) (upCost needs h b s) (wrap64 ((s : Int) + 1)) else if upCost needs h b s < least then spec_BestUpTo.l0 k h b needs (s : Int) (upCost needs h b s) (wrap64 ((s : Int) + 1)) else spec_BestUpTo.l0 k h b needs best least (wrap64 ((s : Int) + 1))) r) (d : Nat) :
    ∀ (i : Nat) (sum : Int), i + d = needs.length → wrap64 sum = sum → wrap64 (sum + ((needs.drop i).map fun x => cst h b ((s : Int) - x)).sum) = upCost needs h b s → Ev (fun k => spec_BestUpTo.l1 k h b needs best least (s : Int) sum (i : Int)) r := by
  induction d with
  | zero =>
    intro i sum hi hw hsum
    refine ev_succ ?_
    have h1 : ¬ (i : Int) < (needs.length : Int) := by omega
    simp only [spec_BestUpTo.l1, h1, ↓reduceIte]
    rw [List.drop_eq_nil_of_le (by omega), List.map_nil, List.sum_nil, Int.add_zero, hw] at hsum
    rw [hsum]
    exact K
  | succ d ih =>
    intro i sum hi hw hsum
    refine ev_succ ?_
    have h1 : (i : Int) < (needs.length : Int) := by omega
    have h0 : (0 : Int) ≤ (i : Int) := by omega
    have hi' : i < needs.length := by omega
    have hxi := hx needs[i] (List.getElem_mem hi')
    have e : wrap64 ((s : Int) - needs[i]) = (s : Int) - needs[i] := w64 (by omega) (by omega)
    simp only [spec_BestUpTo.l1, h1, h0, ↓reduceIte, rd_nat hi', w64_nat hi' (by omega : needs.length ≤ 9223372036854775807), e, spec_l11Cost_f, Option.bind_some]
    refine ih (i + 1) _ (by omega) (w64_idem _) ?_
    rw [← hsum, drop_cons hi', List.map_cons, List.sum_cons, w64_add_l, Int.add_assoc]
theorem ev_spec_BestUpTo_l0 (h b : Int) (hr : ratesB h b = true) (needs : List Int) (hl : needs.length ≤ 20) (hx : ∀ x ∈ needs, 0 ≤ x ∧ x ≤ 400) (d : Nat) :
    ∀ n : Nat, n + d = 200 → Ev (fun k => spec_BestUpTo.l0 k h b needs (bup (upCost needs h b) n).1 (bup (upCost needs h b) n).2 ((n + 1 : Nat) : Int)) ((bup (upCost needs h b) 200).1, (bup (upCost needs h b) 200).2, true) := by
  induction d with
  | zero =>
    intro n hn
    refine ev_succ ?_
    have h1 : ¬ ((n + 1 : Nat) : Int) ≤ 200 := by omega
    simp only [spec_BestUpTo.l0, h1, ↓reduceIte]
    obtain rfl : n = 200 := by omega
    exact Ev.now _
  | succ d ih =>
    intro n hn
    refine ev_succ ?_
    have h1 : ((n + 1 : Nat) : Int) ≤ 200 := by omega
    simp only [spec_BestUpTo.l0, h1, ↓reduceIte]
    refine ev_spec_BestUpTo_l1 h b _ _ (n + 1) (by omega) needs hl hx _ ?_ needs.length 0 0 (by omega) w64_zero ?_
    · have hm := bup_mem (upCost needs h b) 0 18000000 (fun s hs => upCost_range hr hl hx s hs) n (by omega)
      have e : wrap64 (((n + 1 : Nat) : Int) + 1) = ((n + 1 + 1 : Nat) : Int) := by rw [w64 (by omega) (by omega)]; omega
      rw [e]
      have h2 : ¬ (bup (upCost needs h b) n).2 < 0 := by omega
      simp only [h2, ↓reduceIte]
      have := ih (n + 1) (by omega)
      by_cases hc : upCost needs h b (n + 1) < (bup (upCost needs h b) n).2
      · simp only [hc, ↓reduceIte]
        rw [bup_yes hc] at this
        exact this
      · simp only [hc, ↓reduceIte]
        rw [bup_no hc] at this
        exact this
    · simp [upCost, costV, Function.comp_def]
theorem ev_spec_BestUpTo_j0_no (l : List Int) (lead h b : Int) : Ev (fun k => spec_BestUpTo.j0 k l lead h b true) (0, 0, false) := by
  refine ev_succ ?_
  simp only [spec_BestUpTo.j0, ↓reduceIte]
  exact Ev.now _
theorem ev_spec_BestUpTo (l : List Int) (lead h b : Int) (hl : l.length ≤ 9223372036854775807) : Ev (fun k => spec_BestUpTo.f k l lead h b) (bupV l lead h b) := by
  unfold spec_BestUpTo.f bupV
  simp only [spec_l11Rates_f, Option.bind_some]
  refine Ev.bind (ev_spec_l11Asked l lead hl) ?_
  refine ev_ite (fun ha => ?_) (fun ha => ?_)
  · cases hr : ratesB h b with
    | false => exact ev_eq (ev_spec_BestUpTo_j0_no _ _ _ _) (by simp)
    | true =>
      have hm := askedB_mem ha
      have hx : ∀ x ∈ needsV l lead, 0 ≤ x ∧ x ≤ 400 := needsFrom_range hm.1 hm.2.1 _ _ _
      have hn : (needsV l lead).length ≤ 20 := by simp only [needsV, needsFrom_length]; omega
      refine ev_succ ?_
      simp only [spec_BestUpTo.j0, Bool.not_true, Bool.false_eq_true, ↓reduceIte]
      refine Ev.bind (ev_spec_l11Needs l lead hm.1 hm.2.2.1 hm.2.2.2) ?_
      refine ev_succ ?_
      have h0 : (0 : Int) ≤ 200 := by omega
      simp only [spec_BestUpTo.l0, h0, ↓reduceIte]
      refine ev_spec_BestUpTo_l1 h b _ _ 0 (by omega) (needsV l lead) hn hx _ ?_ (needsV l lead).length 0 0 (by omega) w64_zero ?_
      · have e : wrap64 (((0 : Nat) : Int) + 1) = ((0 + 1 : Nat) : Int) := by rw [w64 (by omega) (by omega)]; omega
        rw [e]
        simp only [show ((-1 : Int) < 0) = True from by simp, ↓reduceIte]
        refine ev_eq (ev_spec_BestUpTo_l0 h b hr (needsV l lead) hn hx 200 0 (by omega)) ?_
        simp [ha]
      · simp [upCost, costV, Function.comp_def]
  · exact ev_eq (ev_spec_BestUpTo_j0_no _ _ _ _) (by simp [ha])

theorem impl_within_f (a b c : Int) : impl_within.f a b c = some (inB a b c) := by
  unfold impl_within.f inB
  by_cases h : a ≥ b
  · rw [if_pos h]; congr 1; rw [decide_eq_decide]; omega
  · rw [if_neg h]; congr 1; symm; rw [decide_eq_false_iff_not]; omega

theorem ev_impl_allWithin_l0 (a b : Int) (l : List Int) (hl : l.length ≤ 9223372036854775807) (d : Nat) : ∀ i : Nat, i + d = l.length → Ev (fun k => impl_allWithin.l0 k a b l (l.length : Int) (i : Int)) (allB (l.drop i) a b) := by
  induction d with
  | zero =>
    intro i hi
    refine ev_succ ?_
    have h1 : ¬ (i : Int) < (l.length : Int) := by omega
    simp only [impl_allWithin.l0, h1, ↓reduceIte]
    rw [List.drop_eq_nil_of_le (by omega)]
    exact Ev.now _
  | succ d ih =>
    intro i hi
    refine ev_succ ?_
    have h1 : (i : Int) < (l.length : Int) := by omega
    have h0 : (0 : Int) ≤ (i : Int) := by omega
    have hi' : i < l.length := by omega
    simp only [impl_allWithin.l0, h1, h0, ↓reduceIte, impl_within_f, Option.bind_some, rd_nat hi', w64_nat hi' hl]
    rw [drop_cons hi']
    show Ev _ (inB l[i] a b && allB (l.drop (i + 1)) a b)
    cases inB l[i] a b with
    | true => simpa using ih (i + 1) (by omega)
    | false => simpa using Ev.now false
theorem ev_impl_allWithin (l : List Int) (a b : Int) (hl : l.length ≤ 9223372036854775807) : Ev (fun k => impl_allWithin.f k l a b) (allB l a b) := by
  unfold impl_allWithin.f
  simpa using ev_impl_allWithin_l0 a b l hl l.length 0 (by omega)

theorem ev_impl_total_l0 (l : List Int) (hl : l.length ≤ 9223372036854775807) (d : Nat) : ∀ (i : Nat) (s : Int), i + d = l.length → wrap64 s = s → Ev (fun k => impl_total.l0 k s l (l.length : Int) (i : Int)) (wrap64 (s + (l.drop i).sum)) := by
  induction d with
  | zero =>
    intro i s hi hs
    refine ev_succ ?_
    have h1 : ¬ (i : Int) < (l.length : Int) := by omega
    simp only [impl_total.l0, h1, ↓reduceIte]
    rw [List.drop_eq_nil_of_le (by omega)]
    simp only [List.sum_nil, Int.add_zero, hs]
    exact Ev.now _
  | succ d ih =>
    intro i s hi hs
    refine ev_succ ?_
    have h1 : (i : Int) < (l.length : Int) := by omega
    have h0 : (0 : Int) ≤ (i : Int) := by omega
    have hi' : i < l.length := by omega
    simp only [impl_total.l0, h1, h0, ↓reduceIte, rd_nat hi', w64_nat hi' hl]
    refine ev_eq (ih (i + 1) _ (by omega) (w64_idem _)) ?_
    rw [drop_cons hi', List.sum_cons, w64_add_l, Int.add_assoc]
theorem ev_impl_total (l : List Int) (hl : l.length ≤ 9223372036854775807) : Ev (fun k => impl_total.f k l) (wrap64 l.sum) := by
  unfold impl_total.f
  simpa using ev_impl_total_l0 l hl l.length 0 0 (by omega) w64_zero

theorem ev_impl_LeadNeeds_l0 (l : List Int) (lead : Nat) (hl : l.length ≤ 20) (hlead : lead ≤ 4) (d : Nat) : ∀ (i : Nat) (acc : List Int), acc.length ≤ i → (i + lead + d = l.length ∨ (d = 0 ∧ l.length ≤ i + lead)) → i ≤ 20 →
    Ev (fun k => impl_LeadNeeds.l0 k l (lead : Int) acc (i : Int)) (acc ++ needsFrom l lead i d, true) := by
  induction d with
  | zero =>
    intro i acc ha hi hi2
    refine ev_succ ?_
    have e1 : wrap64 ((i : Int) + (lead : Int)) = ((i + lead : Nat) : Int) := by rw [w64 (by omega) (by omega)]; omega
    have h1 : ¬ ((i + lead : Nat) : Int) < (l.length : Int) := by omega
    simp only [impl_LeadNeeds.l0, e1, h1, ↓reduceIte]
    exact ev_eq (Ev.now _) (by simp [needsFrom])
  | succ d ih =>
    intro i acc ha hi hi2
    refine ev_succ ?_
    have e1 : wrap64 ((i : Int) + (lead : Int)) = ((i + lead : Nat) : Int) := by rw [w64 (by omega) (by omega)]; omega
    have e2 : wrap64 (((i + lead : Nat) : Int) + 1) = ((i + lead + 1 : Nat) : Int) := by rw [w64 (by omega) (by omega)]; omega
    have e3 : wrap64 ((i : Int) + 1) = ((i + 1 : Nat) : Int) := by rw [w64 (by omega) (by omega)]; omega
    have h1 : ((i + lead : Nat) : Int) < (l.length : Int) := by omega
    have h2 : (0 : Int) ≤ (i : Int) := by omega
    have h3 : (i : Int) ≤ ((i + lead + 1 : Nat) : Int) := by omega
    have h4 : ((i + lead + 1 : Nat) : Int) ≤ (l.length : Int) := by omega
    have h5 : acc.length < 17592186044416 := by omega
    simp only [impl_LeadNeeds.l0, e1, e2, e3, h1, h2, h3, h4, h5, ↓reduceIte, Int.toNat_natCast]
    refine Ev.bind (ev_impl_total _ (by rw [List.length_drop, List.length_take]; omega)) ?_
    refine ev_eq (ih (i + 1) (acc ++ [wrap64 ((l.take (i + lead + 1)).drop i).sum]) (by simp; omega) (by omega) (by omega)) ?_
    rw [needs_step]; simp
theorem ev_impl_LeadNeeds_j0_no (l : List Int) (lead : Int) : Ev (fun k => impl_LeadNeeds.j0 k l lead true) ([], false) := by
  refine ev_succ ?_
  simp only [impl_LeadNeeds.j0, ↓reduceIte]
  exact Ev.now _
theorem ev_impl_LeadNeeds (l : List Int) (lead : Int) (hl : l.length ≤ 9223372036854775807) : Ev (fun k => impl_LeadNeeds.f k l lead) (leadV l lead) := by
  unfold impl_LeadNeeds.f leadV
  refine ev_ite (fun h => ?_) (fun h => ?_)
  · refine ev_eq (ev_impl_LeadNeeds_j0_no l lead) ?_
    have : askedB l lead = false := by
      cases hb : askedB l lead with
      | false => rfl
      | true => have := askedB_mem hb; omega
    simp [this]
  · refine Ev.bind (ev_impl_allWithin l 0 20 hl) ?_
    refine ev_ite (fun h2 => ?_) (fun h2 => ?_)
    · simp only [impl_within_f, Option.bind_some]
      cases h3 : inB lead 0 4 with
      | false =>
        refine ev_eq (ev_impl_LeadNeeds_j0_no l lead) ?_
        simp [askedB, h3]
      | true =>
        have hb : askedB l lead = true := by unfold askedB; simp [h2, h3]; omega
        have hm := askedB_mem hb
        refine ev_succ ?_
        simp only [impl_LeadNeeds.j0, Bool.not_true, Bool.false_eq_true, ↓reduceIte]
        have := ev_impl_LeadNeeds_l0 l lead.toNat hm.1 (by omega) (l.length - lead.toNat) 0 [] (by simp) (by omega) (by omega)
        rw [show ((lead.toNat : Nat) : Int) = lead by omega] at this
        refine ev_eq this ?_
        simp [hb, needsV]
    · refine ev_eq (ev_impl_LeadNeeds_j0_no l lead) ?_
      simp [askedB, h2]

theorem impl_areBillRates_f (h b : Int) : impl_areBillRates.f h b = some (ratesB h b) := by
  unfold impl_areBillRates.f ratesB
  simp only [impl_within_f, Option.bind_some]
  cases inB h 0 9 <;> simp

theorem ev_impl_charged_l0 (h b : Int) (hh : 0 ≤ h ∧ h ≤ 9) (hb : 0 ≤ b ∧ b ≤ 9) (l : List Int) (hl : l.length ≤ 9223372036854775807) (hx : ∀ x ∈ l, -100000 ≤ x ∧ x ≤ 100000) (d : Nat) : ∀ (i : Nat) (s : Int), i + d = l.length → wrap64 s = s →
    Ev (fun k => impl_charged.l0 k h b s l (l.length : Int) (i : Int)) (wrap64 (s + ((l.drop i).map (cst h b)).sum)) := by
  induction d with
  | zero =>
    intro i s hi hs
    refine ev_succ ?_
    have h1 : ¬ (i : Int) < (l.length : Int) := by omega
    simp only [impl_charged.l0, h1, ↓reduceIte]
    rw [List.drop_eq_nil_of_le (by omega)]
    exact ev_eq (Ev.now _) (by simp [hs])
  | succ d ih =>
    intro i s hi hs
    refine ev_succ ?_
    have h1 : (i : Int) < (l.length : Int) := by omega
    have h0 : (0 : Int) ≤ (i : Int) := by omega
    have hi' : i < l.length := by omega
    simp only [impl_charged.l0, h1, h0, ↓reduceIte, rd_nat hi', w64_nat hi' hl, cst_impl hh hb (hx l[i] (List.getElem_mem hi'))]
    refine ev_eq (ih (i + 1) _ (by omega) (w64_idem _)) ?_
    rw [drop_cons hi', List.map_cons, List.sum_cons, w64_add_l, Int.add_assoc]
theorem ev_impl_charged (l : List Int) (h b : Int) (hl : l.length ≤ 9223372036854775807) (hr : ratesB h b = true) (hx : ∀ x ∈ l, -100000 ≤ x ∧ x ≤ 100000) : Ev (fun k => impl_charged.f k l h b) (costV l h b) := by
  have hm := ratesB_mem hr
  unfold impl_charged.f costV
  simpa using ev_impl_charged_l0 h b hm.1 hm.2 l hl hx l.length 0 0 (by omega) w64_zero

theorem ev_impl_BestUpTo_l1 (h b best least : Int) (hr : ratesB h b = true) (s : Nat) (hs : s ≤ 200) (needs : List Int) (hl : needs.length ≤ 20) (hx : ∀ x ∈ needs, 0 ≤ x ∧ x ≤ 400) (r : Int × Int × Bool)
    (K : Ev (fun k => if upCost needs h b s < least then impl_BestUpTo.l0 k h b needs (s : Int) (upCost needs h b s) (wrap64 ((s : Int) + 1)) else impl_BestUpTo.l0 k h b needs best least (wrap64 ((s : Int) + 1))) r) (d : Nat) :
    ∀ (i : Nat), i + d = needs.length → Ev (fun k => impl_BestUpTo.l1 k h b needs best least (s : Int) ((needs.take i).map fun x => (s : Int) - x) (s : Int) needs (needs.length : Int) (i : Int)) r := by
  induction d with
  | zero =>
    intro i hi
    refine ev_succ ?_
    have h1 : ¬ (i : Int) < (needs.length : Int) := by omega
    simp only [impl_BestUpTo.l1, h1, ↓reduceIte]
    rw [List.take_of_length_le (by omega)]
    refine Ev.bind (ev_impl_charged _ h b (by simp; omega) hr ?_) ?_
    · intro y hy
      obtain ⟨x, hx2, rfl⟩ := List.mem_map.1 hy
      have := hx x hx2
      omega
    · exact K
  | succ d ih =>
    intro i hi
    refine ev_succ ?_
    have h1 : (i : Int) < (needs.length : Int) := by omega
    have h0 : (0 : Int) ≤ (i : Int) := by omega
    have hi' : i < needs.length := by omega
    have hxi := hx needs[i] (List.getElem_mem hi')
    have e : wrap64 ((s : Int) - needs[i]) = (s : Int) - needs[i] := w64 (by omega) (by omega)
    have h3 : ((needs.take i).map fun x => (s : Int) - x).length < 17592186044416 := by simp; omega
    simp only [impl_BestUpTo.l1, h1, h0, h3, ↓reduceIte, rd_nat hi', w64_nat hi' (by omega : needs.length ≤ 9223372036854775807), e]
    have := ih (i + 1) (by omega)
    rw [List.take_add_one, List.getElem?_eq_getElem hi', Option.toList_some, List.map_append, List.map_cons, List.map_nil] at this
    exact this
theorem ev_impl_BestUpTo_l0 (h b : Int) (hr : ratesB h b = true) (needs : List Int) (hl : needs.length ≤ 20) (hx : ∀ x ∈ needs, 0 ≤ x ∧ x ≤ 400) (d : Nat) :
    ∀ n : Nat, n + d = 200 → Ev (fun k => impl_BestUpTo.l0 k h b needs (bup (upCost needs h b) n).1 (bup (upCost needs h b) n).2 ((n + 1 : Nat) : Int)) ((bup (upCost needs h b) 200).1, (bup (upCost needs h b) 200).2, true) := by
  induction d with
  | zero =>
    intro n hn
    refine ev_succ ?_
    have h1 : ¬ ((n + 1 : Nat) : Int) < 201 := by omega
    simp only [impl_BestUpTo.l0, h1, ↓reduceIte]
    obtain rfl : n = 200 := by omega
    exact Ev.now _
  | succ d ih =>
    intro n hn
    refine ev_succ ?_
    have h1 : ((n + 1 : Nat) : Int) < 201 := by omega
    simp only [impl_BestUpTo.l0, h1, ↓reduceIte]
    refine ev_impl_BestUpTo_l1 h b _ _ hr (n + 1) (by omega) needs hl hx _ ?_ needs.length 0 (by omega)
    have e : wrap64 (((n + 1 : Nat) : Int) + 1) = ((n + 1 + 1 : Nat) : Int) := by rw [w64 (by omega) (by omega)]; omega
    rw [e]
    have := ih (n + 1) (by omega)
    by_cases hc : upCost needs h b (n + 1) < (bup (upCost needs h b) n).2
    · simp only [hc, ↓reduceIte]
      rw [bup_yes hc] at this
      exact this
    · simp only [hc, ↓reduceIte]
      rw [bup_no hc] at this
      exact this
theorem ev_impl_BestUpTo_j0_no (h b : Int) (needs : List Int) : Ev (fun k => impl_BestUpTo.j0 k h b needs true) (0, 0, false) := by
  refine ev_succ ?_
  simp only [impl_BestUpTo.j0, ↓reduceIte]
  exact Ev.now _
theorem ev_impl_BestUpTo (l : List Int) (lead h b : Int) (hl : l.length ≤ 9223372036854775807) : Ev (fun k => impl_BestUpTo.f k l lead h b) (bupV l lead h b) := by
  unfold impl_BestUpTo.f bupV
  simp only [impl_areBillRates_f, Option.bind_some]
  refine Ev.bind (ev_impl_LeadNeeds l lead hl) ?_
  unfold leadV
  cases ha : askedB l lead with
  | false =>
    simp only [Bool.false_eq_true, ↓reduceIte]
    exact ev_eq (ev_impl_BestUpTo_j0_no _ _ _) (by simp)
  | true =>
    simp only [↓reduceIte]
    cases hr : ratesB h b with
    | false => exact ev_eq (ev_impl_BestUpTo_j0_no _ _ _) (by simp)
    | true =>
      have hm := askedB_mem ha
      have hx : ∀ x ∈ needsV l lead, 0 ≤ x ∧ x ≤ 400 := needsFrom_range hm.1 hm.2.1 _ _ _
      have hn : (needsV l lead).length ≤ 20 := by simp only [needsV, needsFrom_length]; omega
      refine ev_succ ?_
      simp only [impl_BestUpTo.j0, Bool.not_true, Bool.false_eq_true, ↓reduceIte]
      refine ev_succ ?_
      have h0 : (0 : Int) < 201 := by omega
      simp only [impl_BestUpTo.l0, h0, ↓reduceIte]
      refine ev_impl_BestUpTo_l1 h b _ _ hr 0 (by omega) (needsV l lead) hn hx _ ?_ (needsV l lead).length 0 (by omega)
      have e : wrap64 (((0 : Nat) : Int) + 1) = ((0 + 1 : Nat) : Int) := by rw [w64 (by omega) (by omega)]; omega
      have hu := upCost_range hr hn hx 0 (by omega)
      have hc : upCost (needsV l lead) h b 0 < 1099511627776 := by omega
      rw [e]
      simp only [hc, ↓reduceIte]
      refine ev_eq (ev_impl_BestUpTo_l0 h b hr (needsV l lead) hn hx 200 0 (by omega)) ?_
      simp

theorem FnExactBestUpTo (l0 : List Int) (a1 : Int) (a2 : Int) (a3 : Int) (hm : l0.length ≤ 9223372036854775807) (w0 : ∀ y ∈ l0, (Lit.int .i64 y).wf = true) (w1 : (Lit.int .i64 a1).wf = true) (w2 : (Lit.int .i64 a2).wf = true) (w3 : (Lit.int .i64 a3).wf = true) : ∃ k, laws_FnExactBestUpTo.f k l0 a1 a2 a3 = some true := by
  refine Ev.rounds ?_
  unfold laws_FnExactBestUpTo.f
  refine ev_ite (fun h => Ev.now _) (fun h => ?_)
  have hn : l0.length ≤ 1048576 := by omega
  have hs := ev_spec_BestUpTo l0 a1 a2 a3 hm
  have hi := ev_impl_BestUpTo l0 a1 a2 a3 hm
  generalize bupV l0 a1 a2 a3 = v at hs hi
  obtain ⟨v, v2, b⟩ := v
  repeat first
    | exact Ev.now _
    | (refine Ev.bind hs ?_; try dsimp only)
    | (refine Ev.bind hi ?_; try dsimp only)
    | (refine Ev.bind (ev_laws_toIntS _ (by first | assumption | omega)) ?_; try dsimp only)
    | (refine Ev.bind (ev_laws_eqIntS_self _ (by omega)) ?_; try dsimp only)
    | (refine ev_ite (fun h => absurd h (by omega)) (fun _ => ?_))
    | (refine ev_ite (fun _ => ?_) (fun h => absurd (by omega) h))
    | (simp only [bne_self_eq_false, Bool.false_eq_true, ↓reduceIte])
    | (refine ev_succ ?_; simp only [laws_FnExactBestUpTo.j0])

end Go.Proofs.Ytjenbljkjmkbfaa.Pure
