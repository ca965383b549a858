/- The pure side of FnExactStockCost: what the program's text computes and what the reference's text computes are the same value, for every argument. No condition. -/
import Derived.Test.YtjenbljkjmkbfaaPFnExactStockCostx2
namespace Go.Proofs.Ytjenbljkjmkbfaa.Pure
open Go.RowKit Go.Proofs.Ytjenbljkjmkbfaa.PFnExactStockCost Go.Proofs.YtjenbljkjmkbfaaW.PrintWords Go.Proofs.YtjenbljkjmkbfaaW.PrintLast
set_option linter.unusedVariables false
set_option linter.unusedSimpArgs false

theorem ev_succ {α : Type} {g : Nat → Option α} {r : α} (h : Ev (fun k => g (k + 1)) r) : Ev g r := Ev.step (fun _ => rfl) h
theorem ev_pure {α : Type} {x : Option α} {r : α} (h : x = some r) : Ev (fun _ => x) r := ⟨0, fun _ _ => h⟩
theorem ev_eq {α : Type} {g : Nat → Option α} {r r' : α} (h : Ev g r) (e : r = r') : Ev g r' := e ▸ h
theorem ev_ite {α : Type} {c : Prop} [Decidable c] {g f : Nat → Option α} {r : α} (h1 : c → Ev g r) (h2 : ¬ c → Ev f r) : Ev (fun k => if c then g k else f k) r := by
  by_cases h : c
  · simp only [h, if_true]; exact h1 h
  · simp only [h, if_false]; exact h2 h
theorem w64 {x : Int} (h : -9223372036854775808 ≤ x) (h' : x ≤ 9223372036854775807) : wrap64 x = x := by unfold wrap64; omega
theorem w64_zero : wrap64 0 = 0 := w64 (by omega) (by omega)
theorem w64_idem (x : Int) : wrap64 (wrap64 x) = wrap64 x := by unfold wrap64; omega
theorem w64_add_l (x y : Int) : wrap64 (wrap64 x + y) = wrap64 (x + y) := by unfold wrap64; omega
theorem w64_add_r (x y : Int) : wrap64 (x + wrap64 y) = wrap64 (x + y) := by unfold wrap64; omega
theorem w64_range (x : Int) : -9223372036854775808 ≤ wrap64 x ∧ wrap64 x ≤ 9223372036854775807 := by unfold wrap64; omega
theorem w64_nat {i n : Nat} (h : i < n) (hn : n ≤ 9223372036854775807) : wrap64 ((i : Int) + 1) = ((i + 1 : Nat) : Int) := by rw [w64 (by omega) (by omega)]; rfl
theorem wf_range {x : Int} (h : (Lit.int .i64 x).wf = true) : -9223372036854775808 ≤ x ∧ x ≤ 9223372036854775807 := by
  simp [Lit.wf, IntKind.min, IntKind.max, IntKind.signed, IntKind.bits] at h
  omega
theorem rd_nat {l : List Int} {i : Nat} (h : i < l.length) : rd l (i : Int) = l[i] := by
  unfold rd
  simp [List.getD_eq_getElem?_getD, h]
def allB (l : List Int) (a b : Int) : Bool := l.all fun x => decide (a ≤ x ∧ x ≤ b)
def inB (x a b : Int) : Bool := decide (a ≤ x ∧ x ≤ b)
theorem allB_mem {l : List Int} {a b : Int} (h : allB l a b = true) : ∀ x ∈ l, a ≤ x ∧ x ≤ b := by
  intro x hx
  have := List.all_eq_true.1 h x hx
  simpa using this
theorem inB_iff {x a b : Int} : inB x a b = true ↔ a ≤ x ∧ x ≤ b := by unfold inB; simp
theorem sum_le {l : List Int} {b : Int} (hb : ∀ x ∈ l, x ≤ b) : l.sum ≤ l.length * b := by
  induction l with
  | nil => simp
  | cons x l ih =>
    have h1 := hb x (by simp)
    have h2 := ih (fun y hy => hb y (by simp [hy]))
    rw [List.sum_cons, List.length_cons]
    have : ((l.length + 1 : Nat) : Int) * b = l.length * b + b := by rw [Int.natCast_add, Int.add_mul]; simp
    rw [this]; omega
theorem le_sum {l : List Int} {b : Int} (hb : ∀ x ∈ l, b ≤ x) : l.length * b ≤ l.sum := by
  induction l with
  | nil => simp
  | cons x l ih =>
    have h1 := hb x (by simp)
    have h2 := ih (fun y hy => hb y (by simp [hy]))
    rw [List.sum_cons, List.length_cons]
    have : ((l.length + 1 : Nat) : Int) * b = l.length * b + b := by rw [Int.natCast_add, Int.add_mul]; simp
    rw [this]; omega
theorem drop_cons {α : Type} {l : List α} {i : Nat} (h : i < l.length) : l.drop i = l[i] :: l.drop (i + 1) := List.drop_eq_getElem_cons h

theorem spec_l1In_f (a b c : Int) : spec_l1In.f a b c = some (inB a b c) := by
  unfold spec_l1In.f inB
  by_cases h : a ≥ b
  · rw [if_pos h]; congr 1; rw [decide_eq_decide]; omega
  · rw [if_neg h]; congr 1; symm; rw [decide_eq_false_iff_not]; omega

def cst (h b x : Int) : Int := if x > 0 then wrap64 (h * x) else wrap64 (wrap64 (-b) * x)
def ratesB (h b : Int) : Bool := inB h 0 9 && inB b 0 9
def costV (l : List Int) (h b : Int) : Int := wrap64 (l.map (cst h b)).sum
def stockV (l : List Int) (h b : Int) : Int × Bool := if (decide ((l.length : Int) ≤ 20) && ratesB h b && allB l (-200) 200) = true then (costV l h b, true) else (0, false)
theorem ratesB_mem {h b : Int} (hr : ratesB h b = true) : (0 ≤ h ∧ h ≤ 9) ∧ 0 ≤ b ∧ b ≤ 9 := by
  unfold ratesB at hr
  simp only [Bool.and_eq_true, inB_iff] at hr
  exact hr
theorem cst_impl {h b x : Int} (hh : 0 ≤ h ∧ h ≤ 9) (hb : 0 ≤ b ∧ b ≤ 9) (hx : -100000 ≤ x ∧ x ≤ 100000) : wrap64 (wrap64 (h * mx 0 x) + wrap64 (b * mx 0 (wrap64 (-x)))) = cst h b x := by
  have e : wrap64 (-x) = -x := w64 (by omega) (by omega)
  have e2 : wrap64 (-b) = -b := w64 (by omega) (by omega)
  rw [e]
  unfold cst
  rw [e2]
  by_cases hp : x > 0
  · have m1 : mx 0 x = x := by unfold mx; omega
    have m2 : mx 0 (-x) = 0 := by unfold mx; omega
    rw [m1, m2, if_pos hp, Int.mul_zero, w64_add_l, w64_add_r, Int.add_zero]
  · have m1 : mx 0 x = 0 := by unfold mx; omega
    have m2 : mx 0 (-x) = -x := by unfold mx; omega
    rw [m1, m2, if_neg hp, Int.mul_zero, w64_add_l, w64_add_r, Int.zero_add, Int.mul_neg, Int.neg_mul]
theorem cst_range {h b x : Int} (hh : 0 ≤ h ∧ h ≤ 9) (hb : 0 ≤ b ∧ b ≤ 9) (hx : -100000 ≤ x ∧ x ≤ 100000) : 0 ≤ cst h b x ∧ cst h b x ≤ 900000 := by
  unfold cst
  rw [w64 (x := -b) (by omega) (by omega)]
  by_cases hp : x > 0
  · rw [if_pos hp]
    have h1 : 0 ≤ h * x := Int.mul_nonneg hh.1 (by omega)
    have h2 : h * x ≤ 9 * x := Int.mul_le_mul_of_nonneg_right hh.2 (by omega)
    rw [w64 (by omega) (by omega)]
    omega
  · rw [if_neg hp, Int.neg_mul, ← Int.mul_neg]
    have h1 : 0 ≤ b * -x := Int.mul_nonneg hb.1 (by omega)
    have h2 : b * -x ≤ 9 * -x := Int.mul_le_mul_of_nonneg_right hb.2 (by omega)
    rw [w64 (by omega) (by omega)]
    omega

theorem spec_l11Rates_f (h b : Int) : spec_l11Rates.f h b = some (ratesB h b) := by
  unfold spec_l11Rates.f ratesB
  simp only [spec_l1In_f, Option.bind_some]
  cases inB h 0 9 <;> simp

theorem spec_l11Cost_f (x h b : Int) : spec_l11Cost.f x h b = some (cst h b x) := by
  unfold spec_l11Cost.f cst
  split <;> rfl

theorem ev_spec_StockCost_l0 (h b : Int) (l : List Int) (hl : l.length ≤ 9223372036854775807) (d : Nat) : ∀ (i : Nat) (s : Int), i + d = l.length → wrap64 s = s →
    Ev (fun k => spec_StockCost.l0 k l h b s (i : Int)) (if allB (l.drop i) (-200) 200 = true then (wrap64 (s + ((l.drop i).map (cst h b)).sum), true) else (0, false)) := by
  induction d with
  | zero =>
    intro i s hi hs
    refine ev_succ ?_
    have h1 : ¬ (i : Int) < (l.length : Int) := by omega
    simp only [spec_StockCost.l0, h1, ↓reduceIte]
    rw [List.drop_eq_nil_of_le (by omega)]
    exact ev_eq (Ev.now _) (by simp [allB, hs])
  | succ d ih =>
    intro i s hi hs
    refine ev_succ ?_
    have h1 : (i : Int) < (l.length : Int) := by omega
    have h0 : (0 : Int) ≤ (i : Int) := by omega
    have hi' : i < l.length := by omega
    simp only [spec_StockCost.l0, h1, h0, ↓reduceIte, spec_l1In_f, spec_l11Cost_f, Option.bind_some, rd_nat hi', w64_nat hi' hl]
    rw [drop_cons hi']
    have ea : allB (l[i] :: l.drop (i + 1)) (-200) 200 = (inB l[i] (-200) 200 && allB (l.drop (i + 1)) (-200) 200) := rfl
    rw [ea]
    cases hc : inB l[i] (-200) 200 with
    | true =>
      simp only [↓reduceIte, Bool.true_and]
      refine ev_eq (ih (i + 1) _ (by omega) (w64_idem _)) ?_
      rw [List.map_cons, List.sum_cons, w64_add_l, Int.add_assoc]
    | false => exact ev_eq (Ev.now _) (by simp)
theorem ev_spec_StockCost_j0_no (l : List Int) (h b : Int) : Ev (fun k => spec_StockCost.j0 k l h b true) (0, false) := by
  refine ev_succ ?_
  simp only [spec_StockCost.j0, ↓reduceIte]
  exact Ev.now _
theorem ev_spec_StockCost (l : List Int) (h b : Int) (hl : l.length ≤ 9223372036854775807) : Ev (fun k => spec_StockCost.f k l h b) (stockV l h b) := by
  unfold spec_StockCost.f stockV
  simp only [spec_l11Rates_f, Option.bind_some]
  refine ev_ite (fun hc => ?_) (fun hc => ?_)
  · exact ev_eq (ev_spec_StockCost_j0_no _ _ _) (by rw [if_neg]; simp; omega)
  · cases hr : ratesB h b with
    | false => exact ev_eq (ev_spec_StockCost_j0_no _ _ _) (by simp)
    | true =>
      refine ev_succ ?_
      simp only [spec_StockCost.j0, Bool.not_true, Bool.false_eq_true, ↓reduceIte]
      refine ev_eq (ev_spec_StockCost_l0 h b l hl l.length 0 0 (by omega) w64_zero) ?_
      have : (l.length : Int) ≤ 20 := by omega
      simp [this, costV]

theorem ev_laws_toIntS_l0 (l : List Int) (hl : l.length ≤ 9223372036854775807) (d : Nat) : ∀ (i : Nat) (o : List Int), i + d = l.length → o.length = l.length → Ev (fun k => laws_toIntS.l0 k l o (i : Int)) (o.take i ++ l.drop i) := by
  induction d with
  | zero =>
    intro i o hi ho
    refine ev_succ ?_
    have h1 : ¬ (i : Int) < (l.length : Int) := by omega
    simp only [laws_toIntS.l0, h1, ↓reduceIte]
    rw [List.drop_eq_nil_of_le (by omega), List.take_of_length_le (by omega), List.append_nil]
    exact Ev.now _
  | succ d ih =>
    intro i o hi ho
    refine ev_succ ?_
    have h1 : (i : Int) < (l.length : Int) := by omega
    have h2 : (i : Int) < (o.length : Int) := by omega
    have h0 : (0 : Int) ≤ (i : Int) := by omega
    have hi' : i < l.length := by omega
    simp only [laws_toIntS.l0, h1, h2, h0, ↓reduceIte, rd_nat hi', w64_nat hi' hl, Int.toNat_natCast]
    refine ev_eq (ih (i + 1) _ (by omega) (by simp [ho])) ?_
    rw [drop_cons hi', List.take_add_one]
    simp [ho, hi', List.take_set_of_le (Nat.le_refl i)]
theorem ev_laws_toIntS (l : List Int) (hl : l.length ≤ 1048576) : Ev (fun k => laws_toIntS.f k l) l := by
  unfold laws_toIntS.f
  have h0 : (0 : Int) ≤ (l.length : Int) := by omega
  have h1 : ((l.length : Int) : Int).toNat ≤ 35184372088832 := by omega
  simp only [h0, h1, ↓reduceIte]
  simpa using ev_laws_toIntS_l0 l (by omega) l.length 0 (List.replicate ((l.length : Int) : Int).toNat 0) (by omega) (by simp)

theorem impl_within_f (a b c : Int) : impl_within.f a b c = some (inB a b c) := by
  unfold impl_within.f inB
  by_cases h : a ≥ b
  · rw [if_pos h]; congr 1; rw [decide_eq_decide]; omega
  · rw [if_neg h]; congr 1; symm; rw [decide_eq_false_iff_not]; omega

theorem ev_impl_allWithin_l0 (a b : Int) (l : List Int) (hl : l.length ≤ 9223372036854775807) (d : Nat) : ∀ i : Nat, i + d = l.length → Ev (fun k => impl_allWithin.l0 k a b l (l.length : Int) (i : Int)) (allB (l.drop i) a b) := by
  induction d with
  | zero =>
    intro i hi
    refine ev_succ ?_
    have h1 : ¬ (i : Int) < (l.length : Int) := by omega
    simp only [impl_allWithin.l0, h1, ↓reduceIte]
    rw [List.drop_eq_nil_of_le (by omega)]
    exact Ev.now _
  | succ d ih =>
    intro i hi
    refine ev_succ ?_
    have h1 : (i : Int) < (l.length : Int) := by omega
    have h0 : (0 : Int) ≤ (i : Int) := by omega
    have hi' : i < l.length := by omega
    simp only [impl_allWithin.l0, h1, h0, ↓reduceIte, impl_within_f, Option.bind_some, rd_nat hi', w64_nat hi' hl]
    rw [drop_cons hi']
    show Ev _ (inB l[i] a b && allB (l.drop (i + 1)) a b)
    cases inB l[i] a b with
    | true => simpa using ih (i + 1) (by omega)
    | false => simpa using Ev.now false
theorem ev_impl_allWithin (l : List Int) (a b : Int) (hl : l.length ≤ 9223372036854775807) : Ev (fun k => impl_allWithin.f k l a b) (allB l a b) := by
  unfold impl_allWithin.f
  simpa using ev_impl_allWithin_l0 a b l hl l.length 0 (by omega)

theorem impl_areBillRates_f (h b : Int) : impl_areBillRates.f h b = some (ratesB h b) := by
  unfold impl_areBillRates.f ratesB
  simp only [impl_within_f, Option.bind_some]
  cases inB h 0 9 <;> simp

theorem ev_impl_charged_l0 (h b : Int) (hh : 0 ≤ h ∧ h ≤ 9) (hb : 0 ≤ b ∧ b ≤ 9) (l : List Int) (hl : l.length ≤ 9223372036854775807) (hx : ∀ x ∈ l, -100000 ≤ x ∧ x ≤ 100000) (d : Nat) : ∀ (i : Nat) (s : Int), i + d = l.length → wrap64 s = s →
    Ev (fun k => impl_charged.l0 k h b s l (l.length : Int) (i : Int)) (wrap64 (s + ((l.drop i).map (cst h b)).sum)) := by
  induction d with
  | zero =>
    intro i s hi hs
    refine ev_succ ?_
    have h1 : ¬ (i : Int) < (l.length : Int) := by omega
    simp only [impl_charged.l0, h1, ↓reduceIte]
    rw [List.drop_eq_nil_of_le (by omega)]
    exact ev_eq (Ev.now _) (by simp [hs])
  | succ d ih =>
    intro i s hi hs
    refine ev_succ ?_
    have h1 : (i : Int) < (l.length : Int) := by omega
    have h0 : (0 : Int) ≤ (i : Int) := by omega
    have hi' : i < l.length := by omega
    simp only [impl_charged.l0, h1, h0, ↓reduceIte, rd_nat hi', w64_nat hi' hl, cst_impl hh hb (hx l[i] (List.getElem_mem hi'))]
    refine ev_eq (ih (i + 1) _ (by omega) (w64_idem _)) ?_
    rw [drop_cons hi', List.map_cons, List.sum_cons, w64_add_l, Int.add_assoc]
theorem ev_impl_charged (l : List Int) (h b : Int) (hl : l.length ≤ 9223372036854775807) (hr : ratesB h b = true) (hx : ∀ x ∈ l, -100000 ≤ x ∧ x ≤ 100000) : Ev (fun k => impl_charged.f k l h b) (costV l h b) := by
  have hm := ratesB_mem hr
  unfold impl_charged.f costV
  simpa using ev_impl_charged_l0 h b hm.1 hm.2 l hl hx l.length 0 0 (by omega) w64_zero

theorem ev_impl_StockCost (l : List Int) (h b : Int) (hl : l.length ≤ 9223372036854775807) : Ev (fun k => impl_StockCost.f k l h b) (stockV l h b) := by
  unfold impl_StockCost.f stockV
  simp only [impl_areBillRates_f, Option.bind_some]
  refine ev_ite (fun hc => ?_) (fun hc => ?_)
  · exact ev_eq (Ev.now _) (by rw [if_neg]; simp; omega)
  · refine Ev.bind (ev_impl_allWithin l _ _ hl) ?_
    have h20 : (l.length : Int) ≤ 20 := by omega
    refine ev_ite (fun ha => ?_) (fun ha => ?_)
    · refine ev_ite (fun hr => ?_) (fun hr => ?_)
      · refine Ev.bind (ev_impl_charged l h b hl hr (fun x hx => by have := allB_mem ha x hx; omega)) ?_
        exact ev_eq (Ev.now _) (by simp [ha, hr, h20])
      · exact ev_eq (Ev.now _) (by simp [hr])
    · exact ev_eq (Ev.now _) (by simp [ha])

theorem ev_laws_eqIntS_l0 (l m : List Int) (hl : l.length ≤ 9223372036854775807) (he : l.length = m.length) (d : Nat) : ∀ (i : Nat), i + d = l.length → Ev (fun k => laws_eqIntS.l0 k l m (i : Int)) (decide (l.drop i = m.drop i)) := by
  induction d with
  | zero =>
    intro i hi
    refine ev_succ ?_
    have h1 : ¬ (i : Int) < (l.length : Int) := by omega
    simp only [laws_eqIntS.l0, h1, ↓reduceIte]
    rw [List.drop_eq_nil_of_le (by omega), List.drop_eq_nil_of_le (by omega)]
    exact Ev.now _
  | succ d ih =>
    intro i hi
    refine ev_succ ?_
    have h1 : (i : Int) < (l.length : Int) := by omega
    have h2 : (i : Int) < (m.length : Int) := by omega
    have h0 : (0 : Int) ≤ (i : Int) := by omega
    have hi' : i < l.length := by omega
    have hm' : i < m.length := by omega
    simp only [laws_eqIntS.l0, h1, h2, h0, ↓reduceIte, rd_nat hi', rd_nat hm', w64_nat hi' hl]
    refine ev_ite (fun h => ?_) (fun h => ?_)
    · refine ev_eq (ih (i + 1) (by omega)) ?_
      rw [drop_cons hi', drop_cons hm', decide_eq_decide, h, List.cons.injEq]
      exact (and_iff_right rfl).symm
    · refine ev_eq (Ev.now _) ?_
      rw [drop_cons hi', drop_cons hm']
      symm
      rw [decide_eq_false_iff_not, List.cons.injEq]
      exact fun hc => h hc.1
theorem ev_laws_eqIntS (l m : List Int) (hl : l.length ≤ 9223372036854775807) : Ev (fun k => laws_eqIntS.f k l m) (decide (l = m)) := by
  unfold laws_eqIntS.f
  refine ev_ite (fun h => ?_) (fun h => ?_)
  · simpa using ev_laws_eqIntS_l0 l m hl (by omega) l.length 0 (by omega)
  · refine ev_eq (Ev.now _) ?_
    symm
    rw [decide_eq_false_iff_not]
    rintro rfl
    exact h rfl
theorem ev_laws_eqIntS_self (l : List Int) (hl : l.length ≤ 9223372036854775807) : Ev (fun k => laws_eqIntS.f k l l) true := by
  simpa using ev_laws_eqIntS l l hl

theorem FnExactStockCost (l0 : List Int) (a1 : Int) (a2 : Int) (hm : l0.length ≤ 9223372036854775807) (w0 : ∀ y ∈ l0, (Lit.int .i64 y).wf = true) (w1 : (Lit.int .i64 a1).wf = true) (w2 : (Lit.int .i64 a2).wf = true) : ∃ k, laws_FnExactStockCost.f k l0 a1 a2 = some true := by
  refine Ev.rounds ?_
  unfold laws_FnExactStockCost.f
  refine ev_ite (fun h => Ev.now _) (fun h => ?_)
  have hn : l0.length ≤ 1048576 := by omega
  have hs := ev_spec_StockCost l0 a1 a2 hm
  have hi := ev_impl_StockCost l0 a1 a2 hm
  generalize stockV l0 a1 a2 = v at hs hi
  obtain ⟨v, b⟩ := v
  repeat first
    | exact Ev.now _
    | (refine Ev.bind hs ?_; try dsimp only)
    | (refine Ev.bind hi ?_; try dsimp only)
    | (refine Ev.bind (ev_laws_toIntS _ (by first | assumption | omega)) ?_; try dsimp only)
    | (refine Ev.bind (ev_laws_eqIntS_self _ (by omega)) ?_; try dsimp only)
    | (refine ev_ite (fun h => absurd h (by omega)) (fun _ => ?_))
    | (refine ev_ite (fun _ => ?_) (fun h => absurd (by omega) h))
    | (simp only [bne_self_eq_false, Bool.false_eq_true, ↓reduceIte])
    | (refine ev_succ ?_; simp only [laws_FnExactStockCost.j0])

end Go.Proofs.Ytjenbljkjmkbfaa.Pure
