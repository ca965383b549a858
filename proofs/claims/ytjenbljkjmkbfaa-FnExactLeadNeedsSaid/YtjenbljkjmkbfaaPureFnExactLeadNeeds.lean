/- The pure side of FnExactLeadNeeds: what the program's text computes and what the reference's text computes are the same value, for every argument. No condition. -/
import Derived.Test.YtjenbljkjmkbfaaPFnExactLeadNeedsx3
namespace Go.Proofs.Ytjenbljkjmkbfaa.Pure
open Go.RowKit Go.Proofs.Ytjenbljkjmkbfaa.PFnExactLeadNeeds Go.Proofs.YtjenbljkjmkbfaaW.PrintWords Go.Proofs.YtjenbljkjmkbfaaW.PrintLast
set_option linter.unusedVariables false
set_option linter.unusedSimpArgs false

theorem ev_succ {α : Type} {g : Nat → Option α} {r : α} (h : Ev (fun k => g (k + 1)) r) : Ev g r := Ev.step (fun _ => rfl) h
theorem ev_pure {α : Type} {x : Option α} {r : α} (h : x = some r) : Ev (fun _ => x) r := ⟨0, fun _ _ => h⟩
theorem ev_eq {α : Type} {g : Nat → Option α} {r r' : α} (h : Ev g r) (e : r = r') : Ev g r' := e ▸ h
theorem ev_ite {α : Type} {c : Prop} [Decidable c] {g f : Nat → Option α} {r : α} (h1 : c → Ev g r) (h2 : ¬ c → Ev f r) : Ev (fun k => if c then g k else f k) r := by
  by_cases h : c
  · simp only [h, if_true]; exact h1 h
  · simp only [h, if_false]; exact h2 h
theorem w64 {x : Int} (h : -9223372036854775808 ≤ x) (h' : x ≤ 9223372036854775807) : wrap64 x = x := by unfold wrap64; omega
theorem w64_zero : wrap64 0 = 0 := w64 (by omega) (by omega)
theorem w64_idem (x : Int) : wrap64 (wrap64 x) = wrap64 x := by unfold wrap64; omega
theorem w64_add_l (x y : Int) : wrap64 (wrap64 x + y) = wrap64 (x + y) := by unfold wrap64; omega
theorem w64_add_r (x y : Int) : wrap64 (x + wrap64 y) = wrap64 (x + y) := by unfold wrap64; omega
theorem w64_range (x : Int) : -9223372036854775808 ≤ wrap64 x ∧ wrap64 x ≤ 9223372036854775807 := by unfold wrap64; omega
theorem w64_nat {i n : Nat} (h : i < n) (hn : n ≤ 9223372036854775807) : wrap64 ((i : Int) + 1) = ((i + 1 : Nat) : Int) := by rw [w64 (by omega) (by omega)]; rfl
theorem wf_range {x : Int} (h : (Lit.int .i64 x).wf = true) : -9223372036854775808 ≤ x ∧ x ≤ 9223372036854775807 := by
  simp [Lit.wf, IntKind.min, IntKind.max, IntKind.signed, IntKind.bits] at h
  omega
theorem rd_nat {l : List Int} {i : Nat} (h : i < l.length) : rd l (i : Int) = l[i] := by
  unfold rd
  simp [List.getD_eq_getElem?_getD, h]
def allB (l : List Int) (a b : Int) : Bool := l.all fun x => decide (a ≤ x ∧ x ≤ b)
def inB (x a b : Int) : Bool := decide (a ≤ x ∧ x ≤ b)
theorem allB_mem {l : List Int} {a b : Int} (h : allB l a b = true) : ∀ x ∈ l, a ≤ x ∧ x ≤ b := by
  intro x hx
  have := List.all_eq_true.1 h x hx
  simpa using this
theorem inB_iff {x a b : Int} : inB x a b = true ↔ a ≤ x ∧ x ≤ b := by unfold inB; simp
theorem sum_le {l : List Int} {b : Int} (hb : ∀ x ∈ l, x ≤ b) : l.sum ≤ l.length * b := by
  induction l with
  | nil => simp
  | cons x l ih =>
    have h1 := hb x (by simp)
    have h2 := ih (fun y hy => hb y (by simp [hy]))
    rw [List.sum_cons, List.length_cons]
    have : ((l.length + 1 : Nat) : Int) * b = l.length * b + b := by rw [Int.natCast_add, Int.add_mul]; simp
    rw [this]; omega
theorem le_sum {l : List Int} {b : Int} (hb : ∀ x ∈ l, b ≤ x) : l.length * b ≤ l.sum := by
  induction l with
  | nil => simp
  | cons x l ih =>
    have h1 := hb x (by simp)
    have h2 := ih (fun y hy => hb y (by simp [hy]))
    rw [List.sum_cons, List.length_cons]
    have : ((l.length + 1 : Nat) : Int) * b = l.length * b + b := by rw [Int.natCast_add, Int.add_mul]; simp
    rw [this]; omega
theorem drop_cons {α : Type} {l : List α} {i : Nat} (h : i < l.length) : l.drop i = l[i] :: l.drop (i + 1) := List.drop_eq_getElem_cons h

theorem ev_laws_toIntS_l0 (l : List Int) (hl : l.length ≤ 9223372036854775807) (d : Nat) : ∀ (i : Nat) (o : List Int), i + d = l.length → o.length = l.length → Ev (fun k => laws_toIntS.l0 k l o (i : Int)) (o.take i ++ l.drop i) := by
  induction d with
  | zero =>
    intro i o hi ho
    refine ev_succ ?_
    have h1 : ¬ (i : Int) < (l.length : Int) := by omega
    simp only [laws_toIntS.l0, h1, ↓reduceIte]
    rw [List.drop_eq_nil_of_le (by omega), List.take_of_length_le (by omega), List.append_nil]
    exact Ev.now _
  | succ d ih =>
    intro i o hi ho
    refine ev_succ ?_
    have h1 : (i : Int) < (l.length : Int) := by omega
    have h2 : (i : Int) < (o.length : Int) := by omega
    have h0 : (0 : Int) ≤ (i : Int) := by omega
    have hi' : i < l.length := by omega
    simp only [laws_toIntS.l0, h1, h2, h0, ↓reduceIte, rd_nat hi', w64_nat hi' hl, Int.toNat_natCast]
    refine ev_eq (ih (i + 1) _ (by omega) (by simp [ho])) ?_
    rw [drop_cons hi', List.take_add_one]
    simp [ho, hi', List.take_set_of_le (Nat.le_refl i)]
theorem ev_laws_toIntS (l : List Int) (hl : l.length ≤ 1048576) : Ev (fun k => laws_toIntS.f k l) l := by
  unfold laws_toIntS.f
  have h0 : (0 : Int) ≤ (l.length : Int) := by omega
  have h1 : ((l.length : Int) : Int).toNat ≤ 35184372088832 := by omega
  simp only [h0, h1, ↓reduceIte]
  simpa using ev_laws_toIntS_l0 l (by omega) l.length 0 (List.replicate ((l.length : Int) : Int).toNat 0) (by omega) (by simp)

theorem ev_laws_eqIntS_l0 (l m : List Int) (hl : l.length ≤ 9223372036854775807) (he : l.length = m.length) (d : Nat) : ∀ (i : Nat), i + d = l.length → Ev (fun k => laws_eqIntS.l0 k l m (i : Int)) (decide (l.drop i = m.drop i)) := by
  induction d with
  | zero =>
    intro i hi
    refine ev_succ ?_
    have h1 : ¬ (i : Int) < (l.length : Int) := by omega
    simp only [laws_eqIntS.l0, h1, ↓reduceIte]
    rw [List.drop_eq_nil_of_le (by omega), List.drop_eq_nil_of_le (by omega)]
    exact Ev.now _
  | succ d ih =>
    intro i hi
    refine ev_succ ?_
    have h1 : (i : Int) < (l.length : Int) := by omega
    have h2 : (i : Int) < (m.length : Int) := by omega
    have h0 : (0 : Int) ≤ (i : Int) := by omega
    have hi' : i < l.length := by omega
    have hm' : i < m.length := by omega
    simp only [laws_eqIntS.l0, h1, h2, h0, ↓reduceIte, rd_nat hi', rd_nat hm', w64_nat hi' hl]
    refine ev_ite (fun h => ?_) (fun h => ?_)
    · refine ev_eq (ih (i + 1) (by omega)) ?_
      rw [drop_cons hi', drop_cons hm', decide_eq_decide, h, List.cons.injEq]
      exact (and_iff_right rfl).symm
    · refine ev_eq (Ev.now _) ?_
      rw [drop_cons hi', drop_cons hm']
      symm
      rw [decide_eq_false_iff_not, List.cons.injEq]
      exact fun hc => h hc.1
theorem ev_laws_eqIntS (l m : List Int) (hl : l.length ≤ 9223372036854775807) : Ev (fun k => laws_eqIntS.f k l m) (decide (l = m)) := by
  unfold laws_eqIntS.f
  refine ev_ite (fun h => ?_) (fun h => ?_)
  · simpa using ev_laws_eqIntS_l0 l m hl (by omega) l.length 0 (by omega)
  · refine ev_eq (Ev.now _) ?_
    symm
    rw [decide_eq_false_iff_not]
    rintro rfl
    exact h rfl
theorem ev_laws_eqIntS_self (l : List Int) (hl : l.length ≤ 9223372036854775807) : Ev (fun k => laws_eqIntS.f k l l) true := by
  simpa using ev_laws_eqIntS l l hl

theorem spec_l1In_f (a b c : Int) : spec_l1In.f a b c = some (inB a b c) := by
  unfold spec_l1In.f inB
  by_cases h : a ≥ b
  · rw [if_pos h]; congr 1; rw [decide_eq_decide]; omega
  · rw [if_neg h]; congr 1; symm; rw [decide_eq_false_iff_not]; omega

theorem ev_spec_l2Row_l0 (n b : Int) (l : List Int) (hl : l.length ≤ 9223372036854775807) (d : Nat) : ∀ i : Nat, i + d = l.length → Ev (fun k => spec_l2Row.l0 k l n b (i : Int)) (allB (l.drop i) 0 b && ((l.length : Int) == n)) := by
  induction d with
  | zero =>
    intro i hi
    refine ev_succ ?_
    have h1 : ¬ (i : Int) < (l.length : Int) := by omega
    simp only [spec_l2Row.l0, h1, ↓reduceIte]
    rw [List.drop_eq_nil_of_le (by omega)]
    exact Ev.now _
  | succ d ih =>
    intro i hi
    refine ev_succ ?_
    have h1 : (i : Int) < (l.length : Int) := by omega
    have h0 : (0 : Int) ≤ (i : Int) := by omega
    have hi' : i < l.length := by omega
    simp only [spec_l2Row.l0, h1, h0, ↓reduceIte, spec_l1In_f, Option.bind_some, rd_nat hi', w64_nat hi' hl]
    rw [drop_cons hi']
    show Ev _ ((inB l[i] 0 b && allB (l.drop (i + 1)) 0 b) && _)
    cases inB l[i] 0 b with
    | true => simpa using ih (i + 1) (by omega)
    | false => simpa using Ev.now false
theorem ev_spec_l2Row (l : List Int) (n b : Int) (hl : l.length ≤ 9223372036854775807) : Ev (fun k => spec_l2Row.f k l n b) (allB l 0 b && ((l.length : Int) == n)) := by
  unfold spec_l2Row.f
  simpa using ev_spec_l2Row_l0 n b l hl l.length 0 (by omega)

theorem ev_spec_l11Numbers (l : List Int) (n b : Int) (hl : l.length ≤ 9223372036854775807) : Ev (fun k => spec_l11Numbers.f k l n b) (decide ((l.length : Int) ≤ n) && allB l 0 b) := by
  unfold spec_l11Numbers.f
  refine ev_ite (fun h => ?_) (fun h => ?_)
  · refine Ev.bind (ev_spec_l2Row l _ b hl) ?_
    refine ev_eq (Ev.now _) ?_
    simp [h]
  · refine ev_eq (Ev.now _) ?_
    simp [h]

def needsFrom (l : List Int) (lead i d : Nat) : List Int := (List.range' i d).map fun j => wrap64 ((l.take (j + lead + 1)).drop j).sum
def askedB (l : List Int) (lead : Int) : Bool := (decide ((l.length : Int) ≤ 20) && allB l 0 20) && inB lead 0 4
def needsV (l : List Int) (lead : Int) : List Int := needsFrom l lead.toNat 0 (l.length - lead.toNat)
theorem needsFrom_length (l : List Int) (lead i d : Nat) : (needsFrom l lead i d).length = d := by simp [needsFrom]
theorem needsFrom_range {l : List Int} (hl : l.length ≤ 20) (h : ∀ x ∈ l, 0 ≤ x ∧ x ≤ 20) (lead i d : Nat) : ∀ x ∈ needsFrom l lead i d, 0 ≤ x ∧ x ≤ 400 := by
  intro x hx
  unfold needsFrom at hx
  obtain ⟨j, _, rfl⟩ := List.mem_map.1 hx
  have hm : ∀ y ∈ ((l.take (j + lead + 1)).drop j), 0 ≤ y ∧ y ≤ 20 := fun y hy => h y (List.mem_of_mem_take (List.mem_of_mem_drop hy))
  have h1 := sum_le (b := 20) (fun y hy => (hm y hy).2)
  have h2 := le_sum (b := 0) (fun y hy => (hm y hy).1)
  have h3 : ((l.take (j + lead + 1)).drop j).length ≤ 20 := by
    rw [List.length_drop, List.length_take]; omega
  rw [w64 (by omega) (by omega)]
  omega
theorem askedB_mem {l : List Int} {lead : Int} (h : askedB l lead = true) : l.length ≤ 20 ∧ (∀ x ∈ l, 0 ≤ x ∧ x ≤ 20) ∧ 0 ≤ lead ∧ lead ≤ 4 := by
  unfold askedB at h
  simp only [Bool.and_eq_true, decide_eq_true_eq] at h
  exact ⟨by omega, allB_mem h.1.2, inB_iff.1 h.2⟩
theorem needs_step (l : List Int) (lead i d : Nat) : needsFrom l lead i (d + 1) = wrap64 ((l.take (i + lead + 1)).drop i).sum :: needsFrom l lead (i + 1) d := by
  simp [needsFrom, List.range'_succ]

theorem ev_spec_l11Asked (l : List Int) (lead : Int) (hl : l.length ≤ 9223372036854775807) : Ev (fun k => spec_l11Asked.f k l lead) (askedB l lead) := by
  unfold spec_l11Asked.f askedB
  refine Ev.bind (ev_spec_l11Numbers l 20 20 hl) ?_
  refine ev_ite (fun h => ?_) (fun h => ?_)
  · simp only [spec_l1In_f, Option.bind_some]
    exact ev_eq (Ev.now _) (by simp [h])
  · exact ev_eq (Ev.now _) (by simp [h])

theorem ev_spec_l2Sum_l0 (l : List Int) (hl : l.length ≤ 9223372036854775807) (d : Nat) : ∀ (i : Nat) (s : Int), i + d = l.length → wrap64 s = s → Ev (fun k => spec_l2Sum.l0 k l s (i : Int)) (wrap64 (s + (l.drop i).sum)) := by
  induction d with
  | zero =>
    intro i s hi hs
    refine ev_succ ?_
    have h1 : ¬ (i : Int) < (l.length : Int) := by omega
    simp only [spec_l2Sum.l0, h1, ↓reduceIte]
    rw [List.drop_eq_nil_of_le (by omega)]
    simp only [List.sum_nil, Int.add_zero, hs]
    exact Ev.now _
  | succ d ih =>
    intro i s hi hs
    refine ev_succ ?_
    have h1 : (i : Int) < (l.length : Int) := by omega
    have h0 : (0 : Int) ≤ (i : Int) := by omega
    have hi' : i < l.length := by omega
    simp only [spec_l2Sum.l0, h1, h0, ↓reduceIte, rd_nat hi', w64_nat hi' hl]
    refine ev_eq (ih (i + 1) _ (by omega) (w64_idem _)) ?_
    rw [drop_cons hi', List.sum_cons, w64_add_l, Int.add_assoc]
theorem ev_spec_l2Sum (l : List Int) (hl : l.length ≤ 9223372036854775807) : Ev (fun k => spec_l2Sum.f k l) (wrap64 l.sum) := by
  unfold spec_l2Sum.f
  simpa using ev_spec_l2Sum_l0 l hl l.length 0 0 (by omega) w64_zero

theorem ev_spec_l11Needs_l0 (l : List Int) (lead : Nat) (hl : l.length ≤ 20) (hlead : lead ≤ 4) (d : Nat) : ∀ (i : Nat) (acc : List Int), acc.length ≤ i → (i + lead + d = l.length ∨ (d = 0 ∧ l.length ≤ i + lead)) → i ≤ 20 →
    Ev (fun k => spec_l11Needs.l0 k l (lead : Int) acc (i : Int)) (acc ++ needsFrom l lead i d) := by
  induction d with
  | zero =>
    intro i acc ha hi hi2
    refine ev_succ ?_
    have e1 : wrap64 ((i : Int) + (lead : Int)) = ((i + lead : Nat) : Int) := by rw [w64 (by omega) (by omega)]; omega
    have h1 : ¬ ((i + lead : Nat) : Int) < (l.length : Int) := by omega
    simp only [spec_l11Needs.l0, e1, h1, ↓reduceIte]
    exact ev_eq (Ev.now _) (by simp [needsFrom])
  | succ d ih =>
    intro i acc ha hi hi2
    refine ev_succ ?_
    have e1 : wrap64 ((i : Int) + (lead : Int)) = ((i + lead : Nat) : Int) := by rw [w64 (by omega) (by omega)]; omega
    have e2 : wrap64 (((i + lead : Nat) : Int) + 1) = ((i + lead + 1 : Nat) : Int) := by rw [w64 (by omega) (by omega)]; omega
    have e3 : wrap64 ((i : Int) + 1) = ((i + 1 : Nat) : Int) := by rw [w64 (by omega) (by omega)]; omega
    have h1 : ((i + lead : Nat) : Int) < (l.length : Int) := by omega
    have h2 : (0 : Int) ≤ (i : Int) := by omega
    have h3 : (i : Int) ≤ ((i + lead + 1 : Nat) : Int) := by omega
    have h4 : ((i + lead + 1 : Nat) : Int) ≤ (l.length : Int) := by omega
    have h5 : acc.length < 17592186044416 := by omega
    simp only [spec_l11Needs.l0, e1, e2, e3, h1, h2, h3, h4, h5, ↓reduceIte, Int.toNat_natCast]
    refine Ev.bind (ev_spec_l2Sum _ (by rw [List.length_drop, List.length_take]; omega)) ?_
    refine ev_eq (ih (i + 1) (acc ++ [wrap64 ((l.take (i + lead + 1)).drop i).sum]) (by simp; omega) (by omega) (by omega)) ?_
    rw [needs_step]; simp
theorem ev_spec_l11Needs (l : List Int) (lead : Int) (hl : l.length ≤ 20) (h0 : 0 ≤ lead) (h4 : lead ≤ 4) : Ev (fun k => spec_l11Needs.f k l lead) (needsV l lead) := by
  unfold spec_l11Needs.f needsV
  have := ev_spec_l11Needs_l0 l lead.toNat hl (by omega) (l.length - lead.toNat) 0 [] (by simp) (by omega) (by omega)
  rw [show ((lead.toNat : Nat) : Int) = lead by omega] at this
  simpa using this

def leadV (l : List Int) (lead : Int) : List Int × Bool := if askedB l lead = true then (needsV l lead, true) else ([], false)
theorem leadV_length {l : List Int} {lead : Int} (h : l.length ≤ 9223372036854775807) : (leadV l lead).1.length ≤ 20 := by
  unfold leadV
  split
  · rename_i h
    have := askedB_mem h
    simp only [needsV, needsFrom_length]
    omega
  · simp

theorem ev_spec_LeadNeeds (l : List Int) (lead : Int) (hl : l.length ≤ 9223372036854775807) : Ev (fun k => spec_LeadNeeds.f k l lead) (leadV l lead) := by
  unfold spec_LeadNeeds.f leadV
  refine Ev.bind (ev_spec_l11Asked l lead hl) ?_
  refine ev_ite (fun h => ?_) (fun h => ?_)
  · have hm := askedB_mem h
    refine Ev.bind (ev_spec_l11Needs l lead hm.1 hm.2.2.1 hm.2.2.2) ?_
    exact ev_eq (Ev.now _) (by simp [h])
  · exact ev_eq (Ev.now _) (by simp [h])

theorem impl_within_f (a b c : Int) : impl_within.f a b c = some (inB a b c) := by
  unfold impl_within.f inB
  by_cases h : a ≥ b
  · rw [if_pos h]; congr 1; rw [decide_eq_decide]; omega
  · rw [if_neg h]; congr 1; symm; rw [decide_eq_false_iff_not]; omega

theorem ev_impl_allWithin_l0 (a b : Int) (l : List Int) (hl : l.length ≤ 9223372036854775807) (d : Nat) : ∀ i : Nat, i + d = l.length → Ev (fun k => impl_allWithin.l0 k a b l (l.length : Int) (i : Int)) (allB (l.drop i) a b) := by
  induction d with
  | zero =>
    intro i hi
    refine ev_succ ?_
    have h1 : ¬ (i : Int) < (l.length : Int) := by omega
    simp only [impl_allWithin.l0, h1, ↓reduceIte]
    rw [List.drop_eq_nil_of_le (by omega)]
    exact Ev.now _
  | succ d ih =>
    intro i hi
    refine ev_succ ?_
    have h1 : (i : Int) < (l.length : Int) := by omega
    have h0 : (0 : Int) ≤ (i : Int) := by omega
    have hi' : i < l.length := by omega
    simp only [impl_allWithin.l0, h1, h0, ↓reduceIte, impl_within_f, Option.bind_some, rd_nat hi', w64_nat hi' hl]
    rw [drop_cons hi']
    show Ev _ (inB l[i] a b && allB (l.drop (i + 1)) a b)
    cases inB l[i] a b with
    | true => simpa using ih (i + 1) (by omega)
    | false => simpa using Ev.now false
theorem ev_impl_allWithin (l : List Int) (a b : Int) (hl : l.length ≤ 9223372036854775807) : Ev (fun k => impl_allWithin.f k l a b) (allB l a b) := by
  unfold impl_allWithin.f
  simpa using ev_impl_allWithin_l0 a b l hl l.length 0 (by omega)

theorem ev_impl_total_l0 (l : List Int) (hl : l.length ≤ 9223372036854775807) (d : Nat) : ∀ (i : Nat) (s : Int), i + d = l.length → wrap64 s = s → Ev (fun k => impl_total.l0 k s l (l.length : Int) (i : Int)) (wrap64 (s + (l.drop i).sum)) := by
  induction d with
  | zero =>
    intro i s hi hs
    refine ev_succ ?_
    have h1 : ¬ (i : Int) < (l.length : Int) := by omega
    simp only [impl_total.l0, h1, ↓reduceIte]
    rw [List.drop_eq_nil_of_le (by omega)]
    simp only [List.sum_nil, Int.add_zero, hs]
    exact Ev.now _
  | succ d ih =>
    intro i s hi hs
    refine ev_succ ?_
    have h1 : (i : Int) < (l.length : Int) := by omega
    have h0 : (0 : Int) ≤ (i : Int) := by omega
    have hi' : i < l.length := by omega
    simp only [impl_total.l0, h1, h0, ↓reduceIte, rd_nat hi', w64_nat hi' hl]
    refine ev_eq (ih (i + 1) _ (by omega) (w64_idem _)) ?_
    rw [drop_cons hi', List.sum_cons, w64_add_l, Int.add_assoc]
theorem ev_impl_total (l : List Int) (hl : l.length ≤ 9223372036854775807) : Ev (fun k => impl_total.f k l) (wrap64 l.sum) := by
  unfold impl_total.f
  simpa using ev_impl_total_l0 l hl l.length 0 0 (by omega) w64_zero

theorem ev_impl_LeadNeeds_l0 (l : List Int) (lead : Nat) (hl : l.length ≤ 20) (hlead : lead ≤ 4) (d : Nat) : ∀ (i : Nat) (acc : List Int), acc.length ≤ i → (i + lead + d = l.length ∨ (d = 0 ∧ l.length ≤ i + lead)) → i ≤ 20 →
    Ev (fun k => impl_LeadNeeds.l0 k l (lead : Int) acc (i : Int)) (acc ++ needsFrom l lead i d, true) := by
  induction d with
  | zero =>
    intro i acc ha hi hi2
    refine ev_succ ?_
    have e1 : wrap64 ((i : Int) + (lead : Int)) = ((i + lead : Nat) : Int) := by rw [w64 (by omega) (by omega)]; omega
    have h1 : ¬ ((i + lead : Nat) : Int) < (l.length : Int) := by omega
    simp only [impl_LeadNeeds.l0, e1, h1, ↓reduceIte]
    exact ev_eq (Ev.now _) (by simp [needsFrom])
  | succ d ih =>
    intro i acc ha hi hi2
    refine ev_succ ?_
    have e1 : wrap64 ((i : Int) + (lead : Int)) = ((i + lead : Nat) : Int) := by rw [w64 (by omega) (by omega)]; omega
    have e2 : wrap64 (((i + lead : Nat) : Int) + 1) = ((i + lead + 1 : Nat) : Int) := by rw [w64 (by omega) (by omega)]; omega
    have e3 : wrap64 ((i : Int) + 1) = ((i + 1 : Nat) : Int) := by rw [w64 (by omega) (by omega)]; omega
    have h1 : ((i + lead : Nat) : Int) < (l.length : Int) := by omega
    have h2 : (0 : Int) ≤ (i : Int) := by omega
    have h3 : (i : Int) ≤ ((i + lead + 1 : Nat) : Int) := by omega
    have h4 : ((i + lead + 1 : Nat) : Int) ≤ (l.length : Int) := by omega
    have h5 : acc.length < 17592186044416 := by omega
    simp only [impl_LeadNeeds.l0, e1, e2, e3, h1, h2, h3, h4, h5, ↓reduceIte, Int.toNat_natCast]
    refine Ev.bind (ev_impl_total _ (by rw [List.length_drop, List.length_take]; omega)) ?_
    refine ev_eq (ih (i + 1) (acc ++ [wrap64 ((l.take (i + lead + 1)).drop i).sum]) (by simp; omega) (by omega) (by omega)) ?_
    rw [needs_step]; simp
theorem ev_impl_LeadNeeds_j0_no (l : List Int) (lead : Int) : Ev (fun k => impl_LeadNeeds.j0 k l lead true) ([], false) := by
  refine ev_succ ?_
  simp only [impl_LeadNeeds.j0, ↓reduceIte]
  exact Ev.now _
theorem ev_impl_LeadNeeds (l : List Int) (lead : Int) (hl : l.length ≤ 9223372036854775807) : Ev (fun k => impl_LeadNeeds.f k l lead) (leadV l lead) := by
  unfold impl_LeadNeeds.f leadV
  refine ev_ite (fun h => ?_) (fun h => ?_)
  · refine ev_eq (ev_impl_LeadNeeds_j0_no l lead) ?_
    have : askedB l lead = false := by
      cases hb : askedB l lead with
      | false => rfl
      | true => have := askedB_mem hb; omega
    simp [this]
  · refine Ev.bind (ev_impl_allWithin l 0 20 hl) ?_
    refine ev_ite (fun h2 => ?_) (fun h2 => ?_)
    · simp only [impl_within_f, Option.bind_some]
      cases h3 : inB lead 0 4 with
      | false =>
        refine ev_eq (ev_impl_LeadNeeds_j0_no l lead) ?_
        simp [askedB, h3]
      | true =>
        have hb : askedB l lead = true := by unfold askedB; simp [h2, h3]; omega
        have hm := askedB_mem hb
        refine ev_succ ?_
        simp only [impl_LeadNeeds.j0, Bool.not_true, Bool.false_eq_true, ↓reduceIte]
        have := ev_impl_LeadNeeds_l0 l lead.toNat hm.1 (by omega) (l.length - lead.toNat) 0 [] (by simp) (by omega) (by omega)
        rw [show ((lead.toNat : Nat) : Int) = lead by omega] at this
        refine ev_eq this ?_
        simp [hb, needsV]
    · refine ev_eq (ev_impl_LeadNeeds_j0_no l lead) ?_
      simp [askedB, h2]

def marked (m : Int) : Nat → List Int
  | 0 => []
  | n + 1 => m :: marked (m + 1) n
theorem marked_length (m : Int) (n : Nat) : (marked m n).length = n := by
  induction n generalizing m with
  | zero => rfl
  | succ n ih => simp [marked, ih]
theorem marked_get (m : Int) (n i : Nat) (h : i < (marked m n).length) : (marked m n)[i] = m + i := by
  induction n generalizing m i with
  | zero => simp [marked] at h
  | succ n ih =>
    cases i with
    | zero => simp [marked]
    | succ i =>
      simp only [marked, List.getElem_cons_succ]
      rw [ih]
      omega
theorem ev_laws_markIntS_l0 (l0 : List Int) (hl : l0.length ≤ 4611686018427387904) (m0 : Int) (h0 : 0 ≤ m0) (h1 : m0 ≤ 1000000000) (d : Nat) : ∀ (i : Nat) (l : List Int), i + d = l.length → l.length = l0.length → Ev (fun k => laws_markIntS.l0 k l (m0 + (i : Int)) (i : Int)) (m0 + (l.length : Int), l.take i ++ marked (m0 + i) d) := by
  induction d with
  | zero =>
    intro i l hi hle
    refine ev_succ ?_
    have h1 : ¬ (i : Int) < (l.length : Int) := by omega
    simp only [laws_markIntS.l0, h1, ↓reduceIte]
    rw [List.take_of_length_le (by omega)]
    have : i = l.length := by omega
    subst this
    simp only [marked, List.append_nil]
    exact Ev.now _
  | succ d ih =>
    intro i l hi hle
    refine ev_succ ?_
    have h1' : (i : Int) < (l.length : Int) := by omega
    have h0' : (0 : Int) ≤ (i : Int) := by omega
    have hi' : i < l.length := by omega
    have e1 : wrap64 (m0 + (i : Int) + 1) = m0 + ((i + 1 : Nat) : Int) := by rw [w64 (by omega) (by omega)]; omega
    simp only [laws_markIntS.l0, h1', h0', ↓reduceIte, w64_nat hi' (by omega : l.length ≤ 9223372036854775807), Int.toNat_natCast, e1]
    refine ev_eq (ih (i + 1) (l.set i (m0 + (i : Int))) (by simp; omega) (by simp [hle])) ?_
    rw [List.length_set]
    congr 1
    rw [List.take_add_one]
    simp only [List.getElem?_set_self hi', List.take_set_of_le (Nat.le_refl i)]
    simp only [Option.toList_some, List.append_assoc, List.singleton_append, marked]
    congr 3
    omega
theorem ev_laws_markIntS (l : List Int) (m : Int) (hl : l.length ≤ 4611686018427387904) (h0 : 0 ≤ m) (h1 : m ≤ 1000000000) : Ev (fun k => laws_markIntS.f k l m) (m + (l.length : Int), marked m l.length) := by
  unfold laws_markIntS.f
  simpa using ev_laws_markIntS_l0 l hl m h0 h1 l.length 0 l (by omega) rfl

theorem ev_laws_heldIntS_l0 (m0 : Int) (n : Nat) (hn : n ≤ 4611686018427387904) (h0 : 0 ≤ m0) (h1 : m0 ≤ 1000000000) (d : Nat) : ∀ (i : Nat), i + d = n → Ev (fun k => laws_heldIntS.l0 k (marked m0 n) (m0 + (i : Int)) (i : Int)) (m0 + (n : Int)) := by
  induction d with
  | zero =>
    intro i hi
    refine ev_succ ?_
    have h1 : ¬ (i : Int) < ((marked m0 n).length : Int) := by rw [marked_length]; omega
    simp only [laws_heldIntS.l0, h1, ↓reduceIte]
    have : i = n := by omega
    subst this
    exact Ev.now _
  | succ d ih =>
    intro i hi
    refine ev_succ ?_
    have h1' : (i : Int) < ((marked m0 n).length : Int) := by rw [marked_length]; omega
    have h0' : (0 : Int) ≤ (i : Int) := by omega
    have hi' : i < (marked m0 n).length := by rw [marked_length]; omega
    have e1 : wrap64 (m0 + (i : Int) + 1) = m0 + ((i + 1 : Nat) : Int) := by rw [w64 (by omega) (by omega)]; omega
    have e2 : wrap64 ((i : Int) + 1) = ((i + 1 : Nat) : Int) := w64_nat (n := n) (by omega) (by omega)
    simp only [laws_heldIntS.l0, h1', h0', ↓reduceIte, rd_nat hi', marked_get, e1, e2]
    exact ih (i + 1) (by omega)
theorem ev_laws_heldIntS (m : Int) (n : Nat) (hn : n ≤ 4611686018427387904) (h0 : 0 ≤ m) (h1 : m ≤ 1000000000) : Ev (fun k => laws_heldIntS.f k (marked m n) m) (m + (n : Int)) := by
  unfold laws_heldIntS.f
  simpa using ev_laws_heldIntS_l0 m n hn h0 h1 n 0 (by omega)

theorem FnExactLeadNeeds (l0 : List Int) (a1 : Int) (hm : l0.length ≤ 9223372036854775807) (w0 : ∀ y ∈ l0, (Lit.int .i64 y).wf = true) (w1 : (Lit.int .i64 a1).wf = true) : ∃ k, laws_FnExactLeadNeeds.f k l0 a1 = some true := by
  refine Ev.rounds ?_
  unfold laws_FnExactLeadNeeds.f
  refine ev_ite (fun h => Ev.now _) (fun h => ?_)
  have hn : l0.length ≤ 1048576 := by omega
  have hs := ev_spec_LeadNeeds l0 a1 hm
  have hi := ev_impl_LeadNeeds l0 a1 hm
  have hv := leadV_length (lead := a1) hm
  generalize leadV l0 a1 = v at hs hi hv
  obtain ⟨v, b⟩ := v
  dsimp only at hv
  repeat first
    | exact Ev.now _
    | (refine Ev.bind hs ?_; try dsimp only)
    | (refine Ev.bind hi ?_; try dsimp only)
    | (refine Ev.bind (ev_laws_toIntS _ (by first | assumption | omega)) ?_; try dsimp only)
    | (refine Ev.bind (ev_laws_eqIntS_self _ (by omega)) ?_; try dsimp only)
    | (refine Ev.bind (ev_laws_markIntS _ _ (by omega) (by omega) (by omega)) ?_; try dsimp only)
    | (refine Ev.bind (ev_laws_heldIntS _ _ (by omega) (by omega) (by omega)) ?_; try dsimp only)
    | (refine ev_ite (fun h => absurd h (by omega)) (fun _ => ?_))
    | (refine ev_ite (fun _ => ?_) (fun h => absurd (by omega) h))
    | (simp only [bne_self_eq_false, Bool.false_eq_true, ↓reduceIte])
    | (refine ev_succ ?_; simp only [laws_FnExactLeadNeeds.j0])
    | (refine ev_succ ?_; simp only [laws_FnExactLeadNeeds.j1])
    | (refine ev_succ ?_; simp only [laws_FnExactLeadNeeds.j2])

end Go.Proofs.Ytjenbljkjmkbfaa.Pure
