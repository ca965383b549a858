/- The pure side of FnExactRunRule: what the program's text computes and what the reference's text computes are the same value, for every argument. No condition. -/
import Derived.Test.YtfgclhojgaaepaaPFnExactRunRulex8
namespace Go.Proofs.Ytfgclhojgaaepaa.Pure
open Go.RowKit Go.Proofs.Ytfgclhojgaaepaa.PFnExactRunRule Go.Proofs.YtfgclhojgaaepaaW.PrintWords Go.Proofs.YtfgclhojgaaepaaW.PrintLast
set_option linter.unusedVariables false
set_option linter.unusedSimpArgs false

theorem ev_succ {α : Type} {g : Nat → Option α} {r : α} (h : Ev (fun k => g (k + 1)) r) : Ev g r := Ev.step (fun _ => rfl) h
theorem ev_pure {α : Type} {x : Option α} {r : α} (h : x = some r) : Ev (fun _ => x) r := ⟨0, fun _ _ => h⟩
theorem ev_eq {α : Type} {g : Nat → Option α} {r r' : α} (h : Ev g r) (e : r = r') : Ev g r' := e ▸ h
theorem ev_ite {α : Type} {c : Prop} [Decidable c] {g f : Nat → Option α} {r : α} (h1 : c → Ev g r) (h2 : ¬ c → Ev f r) : Ev (fun k => if c then g k else f k) r := by
  by_cases h : c
  · simp only [h, if_true]; exact h1 h
  · simp only [h, if_false]; exact h2 h
theorem w64 {x : Int} (h : -9223372036854775808 ≤ x) (h' : x ≤ 9223372036854775807) : wrap64 x = x := by unfold wrap64; omega
theorem w64_zero : wrap64 0 = 0 := w64 (by omega) (by omega)
theorem w64_idem (x : Int) : wrap64 (wrap64 x) = wrap64 x := by unfold wrap64; omega
theorem w64_add_l (x y : Int) : wrap64 (wrap64 x + y) = wrap64 (x + y) := by unfold wrap64; omega
theorem w64_add_r (x y : Int) : wrap64 (x + wrap64 y) = wrap64 (x + y) := by unfold wrap64; omega
theorem w64_sub_l (x y : Int) : wrap64 (wrap64 x - y) = wrap64 (x - y) := by unfold wrap64; omega
theorem w64_sub_r (x y : Int) : wrap64 (x - wrap64 y) = wrap64 (x - y) := by unfold wrap64; omega
theorem w64_shift (x k : Int) : wrap64 (x + 18446744073709551616 * k) = wrap64 x := by unfold wrap64; omega
theorem w64_ex (x : Int) : ∃ k, wrap64 x = x + 18446744073709551616 * k := by
  unfold wrap64
  exact ⟨-((x + 9223372036854775808) / 18446744073709551616), by omega⟩
theorem w64_mul_l (x y : Int) : wrap64 (wrap64 x * y) = wrap64 (x * y) := by
  obtain ⟨k, hk⟩ := w64_ex x
  rw [hk, Int.add_mul, Int.mul_assoc, w64_shift]
theorem w64_mul_r (x y : Int) : wrap64 (x * wrap64 y) = wrap64 (x * y) := by
  rw [Int.mul_comm, w64_mul_l, Int.mul_comm]
theorem w64_neg (x : Int) : wrap64 (-wrap64 x) = wrap64 (-x) := by unfold wrap64; omega
theorem w64_range (x : Int) : -9223372036854775808 ≤ wrap64 x ∧ wrap64 x ≤ 9223372036854775807 := by unfold wrap64; omega
theorem w64_nat {i n : Nat} (h : i < n) (hn : n ≤ 9223372036854775807) : wrap64 ((i : Int) + 1) = ((i + 1 : Nat) : Int) := by rw [w64 (by omega) (by omega)]; rfl
theorem wf_range {x : Int} (h : (Lit.int .i64 x).wf = true) : -9223372036854775808 ≤ x ∧ x ≤ 9223372036854775807 := by
  simp [Lit.wf, IntKind.min, IntKind.max, IntKind.signed, IntKind.bits] at h
  omega
theorem rd_nat {l : List Int} {i : Nat} (h : i < l.length) : rd l (i : Int) = l[i] := by
  unfold rd
  simp [List.getD_eq_getElem?_getD, h]
def allB (l : List Int) (a b : Int) : Bool := l.all fun x => decide (a ≤ x ∧ x ≤ b)
def inB (x a b : Int) : Bool := decide (a ≤ x ∧ x ≤ b)
theorem allB_mem {l : List Int} {a b : Int} (h : allB l a b = true) : ∀ x ∈ l, a ≤ x ∧ x ≤ b := by
  intro x hx
  have := List.all_eq_true.1 h x hx
  simpa using this
theorem inB_iff {x a b : Int} : inB x a b = true ↔ a ≤ x ∧ x ≤ b := by unfold inB; simp
theorem sum_le {l : List Int} {b : Int} (hb : ∀ x ∈ l, x ≤ b) : l.sum ≤ l.length * b := by
  induction l with
  | nil => simp
  | cons x l ih =>
    have h1 := hb x (by simp)
    have h2 := ih (fun y hy => hb y (by simp [hy]))
    rw [List.sum_cons, List.length_cons]
    have : ((l.length + 1 : Nat) : Int) * b = l.length * b + b := by rw [Int.natCast_add, Int.add_mul]; simp
    rw [this]; omega
theorem le_sum {l : List Int} {b : Int} (hb : ∀ x ∈ l, b ≤ x) : l.length * b ≤ l.sum := by
  induction l with
  | nil => simp
  | cons x l ih =>
    have h1 := hb x (by simp)
    have h2 := ih (fun y hy => hb y (by simp [hy]))
    rw [List.sum_cons, List.length_cons]
    have : ((l.length + 1 : Nat) : Int) * b = l.length * b + b := by rw [Int.natCast_add, Int.add_mul]; simp
    rw [this]; omega
theorem drop_cons {α : Type} {l : List α} {i : Nat} (h : i < l.length) : l.drop i = l[i] :: l.drop (i + 1) := List.drop_eq_getElem_cons h
theorem ev_yes {α : Type} {c : Prop} [Decidable c] {g f : Nat → Option α} {r : α} (h : c) (hg : Ev g r) : Ev (fun k => if c then g k else f k) r := ev_ite (fun _ => hg) (fun hn => absurd h hn)
theorem ev_no {α : Type} {c : Prop} [Decidable c] {g f : Nat → Option α} {r : α} (h : ¬ c) (hf : Ev f r) : Ev (fun k => if c then g k else f k) r := ev_ite (fun hn => absurd hn h) (fun _ => hf)

theorem laws_szIntS_le (l : List Int) (hl : l.length ≤ 1048576) : laws_szIntS.f l 1048576 = some (1048576 - (l.length : Int)) := by
  unfold laws_szIntS.f
  rw [w64 (by omega) (by omega), if_neg (by omega)]
theorem laws_szIntS_gt (l : List Int) (h : l.length ≤ 9223372036854775807) (hl : 1048576 < l.length) : laws_szIntS.f l 1048576 = some (-1) := by
  unfold laws_szIntS.f
  rw [w64 (by omega) (by omega), if_pos (by omega)]
theorem laws_szIntS_f (l : List Int) (t : Int) (h : l.length ≤ 9223372036854775807) (h0 : 0 ≤ t) (h1 : t ≤ 1048576) : laws_szIntS.f l t = some (if t - (l.length : Int) < 0 then -1 else t - (l.length : Int)) := by
  unfold laws_szIntS.f
  rw [w64 (by omega) (by omega)]
  by_cases hc : t - (l.length : Int) < 0
  · rw [if_pos hc, if_pos hc]
  · rw [if_neg hc, if_neg hc]

theorem laws_szFlow_le (a : Int) (l : List Int) (hl : l.length ≤ 1048576) : laws_szFlow.f a l 1048576 = some (1048576 - (l.length : Int)) := by
  unfold laws_szFlow.f
  rw [laws_szIntS_le l hl, Option.bind_some, if_neg (by omega)]
theorem laws_szFlow_gt (a : Int) (l : List Int) (h : l.length ≤ 9223372036854775807) (hl : 1048576 < l.length) : laws_szFlow.f a l 1048576 = some (-1) := by
  unfold laws_szFlow.f
  rw [laws_szIntS_gt l h hl, Option.bind_some, if_pos (by omega)]

theorem ev_laws_toIntS_l0 (l : List Int) (hl : l.length ≤ 9223372036854775807) (d : Nat) : ∀ (i : Nat) (o : List Int), i + d = l.length → o.length = l.length → Ev (fun k => laws_toIntS.l0 k l o (i : Int)) (o.take i ++ l.drop i) := by
  induction d with
  | zero =>
    intro i o hi ho
    refine ev_succ ?_
    have h1 : ¬ (i : Int) < (l.length : Int) := by omega
    simp only [laws_toIntS.l0, h1, ↓reduceIte]
    rw [List.drop_eq_nil_of_le (by omega), List.take_of_length_le (by omega), List.append_nil]
    exact Ev.now _
  | succ d ih =>
    intro i o hi ho
    refine ev_succ ?_
    have h1 : (i : Int) < (l.length : Int) := by omega
    have h2 : (i : Int) < (o.length : Int) := by omega
    have h0 : (0 : Int) ≤ (i : Int) := by omega
    have hi' : i < l.length := by omega
    simp only [laws_toIntS.l0, h1, h2, h0, ↓reduceIte, rd_nat hi', w64_nat hi' hl, Int.toNat_natCast]
    refine ev_eq (ih (i + 1) _ (by omega) (by simp [ho])) ?_
    rw [drop_cons hi', List.take_add_one]
    simp [ho, hi', List.take_set_of_le (Nat.le_refl i)]
theorem ev_laws_toIntS (l : List Int) (hl : l.length ≤ 1048576) : Ev (fun k => laws_toIntS.f k l) l := by
  unfold laws_toIntS.f
  have h0 : (0 : Int) ≤ (l.length : Int) := by omega
  have h1 : ((l.length : Int) : Int).toNat ≤ 35184372088832 := by omega
  simp only [h0, h1, ↓reduceIte]
  simpa using ev_laws_toIntS_l0 l (by omega) l.length 0 (List.replicate ((l.length : Int) : Int).toNat 0) (by omega) (by simp)

theorem ev_laws_toFlow (a : Int) (l : List Int) (hl : l.length ≤ 1048576) : Ev (fun k => laws_toFlow.f k a l) (a, l) := by
  unfold laws_toFlow.f
  refine Ev.bind (ev_laws_toIntS l hl) ?_
  exact Ev.now _

theorem laws_toRule_f (a b c : Int) : laws_toRule.f a b c = some (a, b, c) := rfl
theorem ev_laws_toRule (a b c : Int) (_ : (0 : Int) ≤ 1) : Ev (fun _ => laws_toRule.f a b c) (a, b, c) := Ev.now _

theorem ev_laws_eqIntS_l0 (l m : List Int) (hl : l.length ≤ 9223372036854775807) (he : l.length = m.length) (d : Nat) : ∀ (i : Nat), i + d = l.length → Ev (fun k => laws_eqIntS.l0 k l m (i : Int)) (decide (l.drop i = m.drop i)) := by
  induction d with
  | zero =>
    intro i hi
    refine ev_succ ?_
    have h1 : ¬ (i : Int) < (l.length : Int) := by omega
    simp only [laws_eqIntS.l0, h1, ↓reduceIte]
    rw [List.drop_eq_nil_of_le (by omega), List.drop_eq_nil_of_le (by omega)]
    exact Ev.now _
  | succ d ih =>
    intro i hi
    refine ev_succ ?_
    have h1 : (i : Int) < (l.length : Int) := by omega
    have h2 : (i : Int) < (m.length : Int) := by omega
    have h0 : (0 : Int) ≤ (i : Int) := by omega
    have hi' : i < l.length := by omega
    have hm' : i < m.length := by omega
    simp only [laws_eqIntS.l0, h1, h2, h0, ↓reduceIte, rd_nat hi', rd_nat hm', w64_nat hi' hl]
    refine ev_ite (fun h => ?_) (fun h => ?_)
    · refine ev_eq (ih (i + 1) (by omega)) ?_
      rw [drop_cons hi', drop_cons hm', decide_eq_decide, h, List.cons.injEq]
      exact (and_iff_right rfl).symm
    · refine ev_eq (Ev.now _) ?_
      rw [drop_cons hi', drop_cons hm']
      symm
      rw [decide_eq_false_iff_not, List.cons.injEq]
      exact fun hc => h hc.1
theorem ev_laws_eqIntS (l m : List Int) (hl : l.length ≤ 9223372036854775807) : Ev (fun k => laws_eqIntS.f k l m) (decide (l = m)) := by
  unfold laws_eqIntS.f
  refine ev_ite (fun h => ?_) (fun h => ?_)
  · simpa using ev_laws_eqIntS_l0 l m hl (by omega) l.length 0 (by omega)
  · refine ev_eq (Ev.now _) ?_
    symm
    rw [decide_eq_false_iff_not]
    rintro rfl
    exact h rfl
theorem ev_laws_eqIntS_self (l : List Int) (hl : l.length ≤ 9223372036854775807) : Ev (fun k => laws_eqIntS.f k l l) true := by
  simpa using ev_laws_eqIntS l l hl

theorem ev_laws_eqFlow_self (a : Int) (l : List Int) (hl : l.length ≤ 9223372036854775807) : Ev (fun k => laws_eqFlow.f k a l a l) true := by
  unfold laws_eqFlow.f
  simp only [if_true]
  refine Ev.bind (ev_laws_eqIntS_self l hl) ?_
  simp only [if_true]
  exact Ev.now _

theorem spec_l1In_f (a b c : Int) : spec_l1In.f a b c = some (inB a b c) := by
  unfold spec_l1In.f inB
  by_cases h : a ≥ b
  · rw [if_pos h]; congr 1; rw [decide_eq_decide]; omega
  · rw [if_neg h]; congr 1; symm; rw [decide_eq_false_iff_not]; omega

theorem ev_spec_l2Row_l0 (n b : Int) (l : List Int) (hl : l.length ≤ 9223372036854775807) (d : Nat) : ∀ i : Nat, i + d = l.length → Ev (fun k => spec_l2Row.l0 k l n b (i : Int)) (allB (l.drop i) 0 b && ((l.length : Int) == n)) := by
  induction d with
  | zero =>
    intro i hi
    refine ev_succ ?_
    have h1 : ¬ (i : Int) < (l.length : Int) := by omega
    simp only [spec_l2Row.l0, h1, ↓reduceIte]
    rw [List.drop_eq_nil_of_le (by omega)]
    exact Ev.now _
  | succ d ih =>
    intro i hi
    refine ev_succ ?_
    have h1 : (i : Int) < (l.length : Int) := by omega
    have h0 : (0 : Int) ≤ (i : Int) := by omega
    have hi' : i < l.length := by omega
    simp only [spec_l2Row.l0, h1, h0, ↓reduceIte, spec_l1In_f, Option.bind_some, rd_nat hi', w64_nat hi' hl]
    rw [drop_cons hi']
    show Ev _ ((inB l[i] 0 b && allB (l.drop (i + 1)) 0 b) && _)
    cases inB l[i] 0 b with
    | true => simpa using ih (i + 1) (by omega)
    | false => simpa using Ev.now false
theorem ev_spec_l2Row (l : List Int) (n b : Int) (hl : l.length ≤ 9223372036854775807) : Ev (fun k => spec_l2Row.f k l n b) (allB l 0 b && ((l.length : Int) == n)) := by
  unfold spec_l2Row.f
  simpa using ev_spec_l2Row_l0 n b l hl l.length 0 (by omega)

theorem ev_spec_l11Numbers (l : List Int) (n b : Int) (hl : l.length ≤ 9223372036854775807) : Ev (fun k => spec_l11Numbers.f k l n b) (decide ((l.length : Int) ≤ n) && allB l 0 b) := by
  unfold spec_l11Numbers.f
  refine ev_ite (fun h => ?_) (fun h => ?_)
  · refine Ev.bind (ev_spec_l2Row l _ b hl) ?_
    refine ev_eq (Ev.now _) ?_
    simp [h]
  · refine ev_eq (Ev.now _) ?_
    simp [h]

def flowB (a : Int) (l : List Int) : Bool := inB a (-200) 200 && (decide ((l.length : Int) ≤ 4) && allB l 0 40)
theorem flowB_mem {a : Int} {l : List Int} (h : flowB a l = true) : (-200 ≤ a ∧ a ≤ 200) ∧ l.length ≤ 4 ∧ ∀ x ∈ l, 0 ≤ x ∧ x ≤ 40 := by
  unfold flowB at h
  simp only [Bool.and_eq_true, decide_eq_true_eq] at h
  exact ⟨inB_iff.1 h.1, by omega, allB_mem h.2.2⟩

theorem ev_spec_l11Flow (a : Int) (l : List Int) (hl : l.length ≤ 9223372036854775807) : Ev (fun k => spec_l11Flow.f k a l) (flowB a l) := by
  unfold spec_l11Flow.f flowB
  simp only [spec_l1In_f, Option.bind_some]
  refine ev_ite (fun h => ?_) (fun h => ?_)
  · refine Ev.bind (ev_spec_l11Numbers l 4 40 hl) ?_
    refine ev_eq (Ev.now _) ?_
    simp [h]
  · refine ev_eq (Ev.now _) ?_
    simp [h]

theorem ev_spec_l2Sum_l0 (l : List Int) (hl : l.length ≤ 9223372036854775807) (d : Nat) : ∀ (i : Nat) (s : Int), i + d = l.length → wrap64 s = s → Ev (fun k => spec_l2Sum.l0 k l s (i : Int)) (wrap64 (s + (l.drop i).sum)) := by
  induction d with
  | zero =>
    intro i s hi hs
    refine ev_succ ?_
    have h1 : ¬ (i : Int) < (l.length : Int) := by omega
    simp only [spec_l2Sum.l0, h1, ↓reduceIte]
    rw [List.drop_eq_nil_of_le (by omega)]
    simp only [List.sum_nil, Int.add_zero, hs]
    exact Ev.now _
  | succ d ih =>
    intro i s hi hs
    refine ev_succ ?_
    have h1 : (i : Int) < (l.length : Int) := by omega
    have h0 : (0 : Int) ≤ (i : Int) := by omega
    have hi' : i < l.length := by omega
    simp only [spec_l2Sum.l0, h1, h0, ↓reduceIte, rd_nat hi', w64_nat hi' hl]
    refine ev_eq (ih (i + 1) _ (by omega) (w64_idem _)) ?_
    rw [drop_cons hi', List.sum_cons, w64_add_l, Int.add_assoc]
theorem ev_spec_l2Sum (l : List Int) (hl : l.length ≤ 9223372036854775807) : Ev (fun k => spec_l2Sum.f k l) (wrap64 l.sum) := by
  unfold spec_l2Sum.f
  simpa using ev_spec_l2Sum_l0 l hl l.length 0 0 (by omega) w64_zero

theorem ev_spec_l11Position (a : Int) (l : List Int) (hl : l.length ≤ 9223372036854775807) : Ev (fun k => spec_l11Position.f k a l) (wrap64 (a + wrap64 l.sum)) := by
  unfold spec_l11Position.f
  refine Ev.bind (ev_spec_l2Sum l hl) ?_
  exact Ev.now _

def ruleB (k lo hi : Int) : Bool := inB lo (-200) 200 && (inB hi (-200) 200 && (decide (k = 1) || (decide (k = 2) && decide (lo ≤ hi)) || (decide (k = 3) && inB hi 1 40)))

theorem ev_spec_l11Rule_j0 (b : Bool) (k lo hi : Int) : Ev (fun n => spec_l11Rule.j0 n b k lo hi) (!b && (decide (k = 1) || (decide (k = 2) && decide (lo ≤ hi)) || (decide (k = 3) && inB hi 1 40))) := by
  refine ev_succ ?_
  simp only [spec_l11Rule.j0, spec_l1In_f, Option.bind_some]
  cases b with
  | true => exact ev_eq (Ev.now _) (by simp)
  | false =>
    by_cases h1 : k = 1
    · simp only [h1]; exact ev_eq (Ev.now _) (by simp)
    · by_cases h2 : k = 2
      · simp only [h2]; exact ev_eq (Ev.now _) (by simp)
      · by_cases h3 : k = 3
        · simp only [h3]; exact ev_eq (Ev.now _) (by simp)
        · simp only [h1, h2, h3, if_false, Bool.false_eq_true]; exact ev_eq (Ev.now _) (by simp)
theorem ev_spec_l11Rule (k lo hi : Int) : Ev (fun n => spec_l11Rule.f n k lo hi) (ruleB k lo hi) := by
  unfold spec_l11Rule.f ruleB
  simp only [spec_l1In_f, Option.bind_some]
  refine ev_ite (fun h => ?_) (fun h => ?_)
  · exact ev_eq (ev_spec_l11Rule_j0 _ _ _ _) (by simp [h])
  · exact ev_eq (ev_spec_l11Rule_j0 _ _ _ _) (by simp [h])

theorem spec_l1Most_f (a b : Int) : spec_l1Most.f a b = some (mx b a) := by
  unfold spec_l1Most.f mx
  by_cases h : a > b
  · rw [if_pos h, if_pos (by omega)]
  · rw [if_neg h, if_neg (by omega)]

def lots (lo hi p : Int) : Nat → Int → Int
  | 0, n => n
  | d + 1, n => if p + n < lo then lots lo hi p d (n + hi) else n
def ordV (k lo hi p : Int) : Int := if k = 1 then mx 0 (hi - p) else if k = 2 then (if p < lo then hi - p else 0) else lots lo hi p 100000 0
theorem ruleB_mem {k lo hi : Int} (h : ruleB k lo hi = true) : (-200 ≤ lo ∧ lo ≤ 200) ∧ (-200 ≤ hi ∧ hi ≤ 200) ∧ (k = 1 ∨ (k = 2 ∧ lo ≤ hi) ∨ (k = 3 ∧ 1 ≤ hi ∧ hi ≤ 40)) := by
  unfold ruleB at h
  simp only [Bool.and_eq_true, Bool.or_eq_true, decide_eq_true_eq, inB_iff] at h
  omega
theorem lots_nonneg {lo hi p : Int} (hh : 0 ≤ hi) (d : Nat) : ∀ n : Int, 0 ≤ n → 0 ≤ lots lo hi p d n := by
  induction d with
  | zero => intro n hn; exact hn
  | succ d ih =>
    intro n hn
    unfold lots
    split
    · exact ih (n + hi) (by omega)
    · exact hn
theorem ordV_nonneg {k lo hi p : Int} (h : ruleB k lo hi = true) : 0 ≤ ordV k lo hi p := by
  have hm := ruleB_mem h
  unfold ordV
  split
  · unfold mx; omega
  · split
    · split <;> omega
    · exact lots_nonneg (by omega) _ _ (by omega)

theorem ev_spec_l11Order_l0 (k lo hi p : Int) (hh : 1 ≤ hi ∧ hi ≤ 40) (hlo : -200 ≤ lo ∧ lo ≤ 200) (hp : -10000 ≤ p ∧ p ≤ 10000) (d : Nat) : ∀ n : Int, 0 ≤ n → n ≤ 20000 → lo - (p + n) ≤ d → Ev (fun j => spec_l11Order.l0 j p n k lo hi) (lots lo hi p d n) := by
  induction d with
  | zero =>
    intro n h0 h1 hd
    refine ev_succ ?_
    have e : wrap64 (p + n) = p + n := w64 (by omega) (by omega)
    have h2 : ¬ p + n < lo := by omega
    simp only [spec_l11Order.l0, e, h2, ↓reduceIte]
    exact Ev.now _
  | succ d ih =>
    intro n h0 h1 hd
    refine ev_succ ?_
    have e : wrap64 (p + n) = p + n := w64 (by omega) (by omega)
    have e2 : wrap64 (n + hi) = n + hi := w64 (by omega) (by omega)
    simp only [spec_l11Order.l0, e, e2]
    unfold lots
    refine ev_ite (fun h => ?_) (fun h => ?_)
    · rw [if_pos h]
      exact ih (n + hi) (by omega) (by omega) (by omega)
    · rw [if_neg h]
      exact Ev.now _
theorem ev_spec_l11Order (k lo hi p : Int) (hr : ruleB k lo hi = true) (hp : -10000 ≤ p ∧ p ≤ 10000) : Ev (fun j => spec_l11Order.f j k lo hi p) (ordV k lo hi p) := by
  have hm := ruleB_mem hr
  have e : wrap64 (hi - p) = hi - p := w64 (by omega) (by omega)
  unfold spec_l11Order.f ordV
  simp only [e, spec_l1Most_f, Option.bind_some]
  refine ev_ite (fun h => ?_) (fun h => ?_)
  · rw [if_pos h]; exact Ev.now _
  · rw [if_neg h]
    refine ev_ite (fun h2 => ?_) (fun h2 => ?_)
    · rw [if_pos h2]
      refine ev_ite (fun h3 => ?_) (fun h3 => ?_)
      · rw [if_pos h3]; exact Ev.now _
      · rw [if_neg h3]; exact Ev.now _
    · rw [if_neg h2]
      exact ev_spec_l11Order_l0 k lo hi p (by omega) hm.1 hp 100000 0 (by omega) (by omega) (by omega)

def posV (a : Int) (l : List Int) : Int × Bool := if flowB a l = true then (wrap64 (a + wrap64 l.sum), true) else (0, false)

theorem pos_range {a : Int} {l : List Int} (h : flowB a l = true) : wrap64 (a + wrap64 l.sum) = a + l.sum ∧ -200 ≤ a + l.sum ∧ a + l.sum ≤ 360 ∧ 0 ≤ l.sum ∧ l.sum ≤ 160 := by
  have hm := flowB_mem h
  have s1 := sum_le (b := 40) (fun y hy => (hm.2.2 y hy).2)
  have s2 := le_sum (b := 0) (fun y hy => (hm.2.2 y hy).1)
  have e : wrap64 l.sum = l.sum := w64 (by omega) (by omega)
  rw [e, w64 (by omega) (by omega)]
  omega
def ruleOrderV (a : Int) (l : List Int) (k lo hi : Int) : Int × Bool :=
  if (flowB a l && ruleB k lo hi) = true then (if ordV k lo hi (a + l.sum) > 40 then (0, false) else (ordV k lo hi (a + l.sum), true)) else (0, false)

theorem ev_spec_RuleOrder_no (a : Int) (l : List Int) (k lo hi : Int) : Ev (fun j => spec_RuleOrder.j0 j true a l k lo hi) (0, false) := by
  refine ev_succ ?_
  simp only [spec_RuleOrder.j0, ↓reduceIte]
  exact Ev.now _
theorem ev_spec_RuleOrder (a : Int) (l : List Int) (k lo hi : Int) (hl : l.length ≤ 9223372036854775807) : Ev (fun j => spec_RuleOrder.f j a l k lo hi) (ruleOrderV a l k lo hi) := by
  unfold spec_RuleOrder.f ruleOrderV
  refine Ev.bind (ev_spec_l11Flow a l hl) ?_
  refine ev_ite (fun h => ?_) (fun h => ?_)
  · refine Ev.bind (ev_spec_l11Rule k lo hi) ?_
    cases hr : ruleB k lo hi with
    | false => exact ev_eq (ev_spec_RuleOrder_no a l k lo hi) (by simp)
    | true =>
      have hp := pos_range h
      refine ev_succ ?_
      simp only [spec_RuleOrder.j0, Bool.not_true, Bool.false_eq_true, ↓reduceIte]
      refine Ev.bind (ev_spec_l11Position a l hl) ?_
      rw [hp.1]
      refine Ev.bind (ev_spec_l11Order k lo hi _ hr (by omega)) ?_
      have e : (flowB a l && true) = true := by rw [h]; rfl
      rw [if_pos e]
      refine ev_ite (fun h2 => ?_) (fun h2 => ?_)
      · rw [if_pos h2]; exact Ev.now _
      · rw [if_neg h2]; exact Ev.now _
  · exact ev_eq (ev_spec_RuleOrder_no a l k lo hi) (by simp [h])

theorem spec_l1Own_f (l : List Int) (hl : l.length ≤ 1000000000) : spec_l1Own.f l = some l := by
  unfold spec_l1Own.f
  simp only [Option.bind_some, List.length_nil, List.nil_append]
  rw [if_pos (by omega)]

/-- The flow behind a day: its stock, and what is under way. -/
def dayStock (a : Int) (l : List Int) (o q : Int) : Int := wrap64 (wrap64 (a + rd (l ++ [o]) 0) - q)
def dayUnder (l : List Int) (o : Int) : List Int := (l ++ [o]).drop 1
def dayBefore (a : Int) (l : List Int) (o : Int) : Int := wrap64 (a + rd (l ++ [o]) 0)
theorem dayUnder_length (l : List Int) (o : Int) : (dayUnder l o).length = l.length := by simp [dayUnder]
def dayV (a : Int) (l : List Int) (o q : Int) : Int × List Int × Bool :=
  if (flowB a l && (inB o 0 40 && inB q 0 20) && flowB (dayStock a l o q) (dayUnder l o)) = true then (dayStock a l o q, dayUnder l o, true) else (0, [], false)
theorem dayV_length {a : Int} {l : List Int} {o q : Int} (hl : l.length ≤ 9223372036854775807) : (dayV a l o q).2.1.length ≤ 4 := by
  unfold dayV
  split
  · rename_i h
    simp only [Bool.and_eq_true] at h
    have := flowB_mem h.2
    exact this.2.1
  · simp

theorem spec_l11Day_f (a : Int) (l : List Int) (o q : Int) (hl : l.length ≤ 100000000) : spec_l11Day.f a l o q = some (dayStock a l o q, dayUnder l o, dayBefore a l o) := by
  unfold spec_l11Day.f
  have h1 : (0 : Int) < ((l ++ [o]).length : Int) := by rw [List.length_append]; simp only [List.length_cons, List.length_nil]; omega
  have h2 : (1 : Int) ≤ ((l ++ [o]).length : Int) := by rw [List.length_append]; simp only [List.length_cons, List.length_nil]; omega
  have h3 : l.length < 17592186044416 := by omega
  simp only [spec_l1Own_f l (by omega), Option.bind_some, h1, h2, h3, ↓reduceIte]
  rw [spec_l1Own_f _ (by simp; omega), Option.bind_some]
  rfl

theorem spec_l1Least_f (a b : Int) : spec_l1Least.f a b = some (mn a b) := by
  unfold spec_l1Least.f mn
  by_cases h : a < b
  · rw [if_pos h, if_neg (by omega)]
  · by_cases h2 : b < a
    · rw [if_neg h, if_pos h2]
    · rw [if_neg h, if_neg h2]; congr 1; omega

def rOrd (k lo hi s : Int) (U : List Int) : Int := ordV k lo hi (s + U.sum)
def rOk (k lo hi : Int) (Q : List Int) (i : Nat) (s : Int) (U : List Int) : Bool := (inB (rOrd k lo hi s U) 0 40 && inB (rd Q (i : Int)) 0 20) && flowB (dayStock s U (rOrd k lo hi s U) (rd Q (i : Int))) (dayUnder U (rOrd k lo hi s U))
def rFrom (k lo hi : Int) (Q : List Int) : Nat → Nat → List Int → List Int → Int → Int → List Int → List Int × List Int × Int × Bool
  | 0, _, o, t, v, _, _ => (o, t, v, true)
  | d + 1, i, o, t, v, s, U => if rOk k lo hi Q i s U = true then rFrom k lo hi Q d (i + 1) (o ++ [rOrd k lo hi s U]) (t ++ [dayStock s U (rOrd k lo hi s U) (rd Q (i : Int))]) (wrap64 (v + mx 0 (mn (rd Q (i : Int)) (dayBefore s U (rOrd k lo hi s U))))) (dayStock s U (rOrd k lo hi s U) (rd Q (i : Int))) (dayUnder U (rOrd k lo hi s U)) else ([], [], 0, false)
def rRunV (a : Int) (l : List Int) (k lo hi : Int) (Q : List Int) : List Int × List Int × Int × Bool :=
  if (flowB a l && (ruleB k lo hi && decide ((Q.length : Int) ≤ 20))) = true then rFrom k lo hi Q Q.length 0 [] [] 0 a l else ([], [], 0, false)
theorem rFrom_bad (k lo hi : Int) (Q : List Int) (d : Nat) : ∀ (i : Nat) (o t : List Int) (v s : Int) (U : List Int), rFrom k lo hi Q d i o t v s U = ([], [], 0, false) ∨ ∀ j, i ≤ j → j < i + d → inB (rd Q (j : Int)) 0 20 = true := by
  induction d with
  | zero => intro i o t v s U; exact Or.inr (fun j h1 h2 => by omega)
  | succ d ih =>
    intro i o t v s U
    rw [rFrom]
    by_cases h : rOk k lo hi Q i s U = true
    · rw [if_pos h]
      rcases ih (i + 1) (o ++ [rOrd k lo hi s U]) (t ++ [dayStock s U (rOrd k lo hi s U) (rd Q (i : Int))]) (wrap64 (v + mx 0 (mn (rd Q (i : Int)) (dayBefore s U (rOrd k lo hi s U))))) (dayStock s U (rOrd k lo hi s U) (rd Q (i : Int))) (dayUnder U (rOrd k lo hi s U)) with h2 | h2
      · exact Or.inl h2
      · refine Or.inr (fun j h3 h4 => ?_)
        by_cases he : j = i
        · subst he
          unfold rOk at h
          simp only [Bool.and_eq_true] at h
          exact h.1.2
        · exact h2 j (by omega) (by omega)
    · rw [if_neg h]; exact Or.inl rfl
theorem rFrom_length (k lo hi : Int) (Q : List Int) (d : Nat) : ∀ (i : Nat) (o t : List Int) (v s : Int) (U : List Int), (rFrom k lo hi Q d i o t v s U).1.length ≤ o.length + d ∧ (rFrom k lo hi Q d i o t v s U).2.1.length ≤ t.length + d := by
  induction d with
  | zero => intro i o t v s U; simp [rFrom]
  | succ d ih =>
    intro i o t v s U
    rw [rFrom]
    split
    · have := ih (i + 1) (o ++ [rOrd k lo hi s U]) (t ++ [dayStock s U (rOrd k lo hi s U) (rd Q (i : Int))]) (wrap64 (v + mx 0 (mn (rd Q (i : Int)) (dayBefore s U (rOrd k lo hi s U))))) (dayStock s U (rOrd k lo hi s U) (rd Q (i : Int))) (dayUnder U (rOrd k lo hi s U))
      simp only [List.length_append, List.length_singleton] at this
      omega
    · simp
theorem rRunV_length (a : Int) (l : List Int) (k lo hi : Int) (Q : List Int) : (rRunV a l k lo hi Q).1.length ≤ 20 ∧ (rRunV a l k lo hi Q).2.1.length ≤ 20 := by
  unfold rRunV
  by_cases h : (flowB a l && (ruleB k lo hi && decide ((Q.length : Int) ≤ 20))) = true
  · rw [if_pos h]
    simp only [Bool.and_eq_true, decide_eq_true_eq] at h
    have := rFrom_length k lo hi Q Q.length 0 [] [] 0 a l
    simp only [List.length_nil, Nat.zero_add] at this
    omega
  · rw [if_neg h]; simp
theorem rRunV_spec (a : Int) (l : List Int) (k lo hi : Int) (Q : List Int) (hq : allB Q 0 20 = false) : rRunV a l k lo hi Q = ([], [], 0, false) := by
  unfold rRunV
  split
  · rcases rFrom_bad k lo hi Q Q.length 0 [] [] 0 a l with h | h
    · exact h
    · exfalso
      have : allB Q 0 20 = true := by
        unfold allB
        rw [List.all_eq_true]
        intro x hx
        obtain ⟨i, hi, rfl⟩ := List.getElem_of_mem hx
        have h2 := h i (by omega) (by omega)
        rw [rd_nat hi] at h2
        exact h2
      rw [hq] at this
      exact absurd this (by simp)
  · rfl

theorem ev_spec_l11Run_l0 (k lo hi : Int) (hr : ruleB k lo hi = true) (Q : List Int) (hQ : Q.length ≤ 20) (hq : allB Q 0 20 = true) (d : Nat) : ∀ (i : Nat) (o t : List Int) (v s : Int) (U : List Int), i + d = Q.length → o.length ≤ i → t.length ≤ i → flowB s U = true → Ev (fun j => spec_l11Run.l0 j Q (i : Int) k lo hi o t v s U) (rFrom k lo hi Q d i o t v s U) := by
  induction d with
  | zero =>
    intro i o t v s U hid ho ht hf
    refine ev_succ ?_
    have h1 : ¬ (i : Int) < (Q.length : Int) := by omega
    simp only [spec_l11Run.l0, h1, ↓reduceIte, rFrom]
    exact Ev.now _
  | succ d ih =>
    intro i o t v s U hid ho ht hf
    have hm := flowB_mem hf
    refine ev_succ ?_
    have h1 : (i : Int) < (Q.length : Int) := by omega
    have h0 : (0 : Int) ≤ (i : Int) := by omega
    have h3 : o.length < 17592186044416 := by omega
    have h4 : t.length < 17592186044416 := by omega
    have hi' : i < Q.length := by omega
    have hin : inB (rd Q (i : Int)) 0 20 = true := by
      rw [rd_nat hi']
      exact inB_iff.2 (allB_mem hq _ (List.getElem_mem hi'))
    have hnn : 0 ≤ rOrd k lo hi s U := ordV_nonneg hr
    simp only [spec_l11Run.l0, h1, h0, h3, h4, ↓reduceIte, w64_nat hi' (by omega : Q.length ≤ 9223372036854775807)]
    refine Ev.bind (ev_spec_RuleOrder s U k lo hi (by omega)) ?_
    have e : ruleOrderV s U k lo hi = if rOrd k lo hi s U > 40 then (0, false) else (rOrd k lo hi s U, true) := by
      unfold ruleOrderV
      rw [if_pos (by rw [hf, hr]; rfl)]
      rfl
    rw [e, rFrom]
    by_cases hg : rOrd k lo hi s U > 40
    · have hno : rOk k lo hi Q i s U = false := by
        have : inB (rOrd k lo hi s U) 0 40 = false := by
          rw [Bool.eq_false_iff]; intro h; have := inB_iff.1 h; omega
        unfold rOk
        rw [this]; rfl
      simp only [hg, hno, if_true, Bool.false_eq_true, ↓reduceIte]
      exact Ev.now _
    · simp only [hg, ↓reduceIte, spec_l11Day_f s U _ _ (by omega : U.length ≤ 100000000), Option.bind_some, spec_l1Least_f, spec_l1Most_f]
      refine Ev.bind (ev_spec_l11Flow _ _ (by rw [dayUnder_length]; omega)) ?_
      have hk : rOk k lo hi Q i s U = flowB (dayStock s U (rOrd k lo hi s U) (rd Q (i : Int))) (dayUnder U (rOrd k lo hi s U)) := by
        have : inB (rOrd k lo hi s U) 0 40 = true := inB_iff.2 (by omega)
        unfold rOk
        rw [this, hin]; rfl
      rw [hk]
      refine ev_ite (fun h5 => ?_) (fun h5 => ?_)
      · rw [if_pos h5]
        exact ih (i + 1) _ _ _ _ _ (by omega) (by simp; omega) (by simp; omega) h5
      · rw [if_neg h5]
        exact Ev.now _
theorem ev_spec_l11Run_no (a : Int) (l : List Int) (k lo hi : Int) (Q : List Int) : Ev (fun j => spec_l11Run.j0 j Q true a l k lo hi [] [] 0) ([], [], 0, false) := by
  refine ev_succ ?_
  simp only [spec_l11Run.j0, ↓reduceIte]
  exact Ev.now _
theorem ev_spec_l11Run (a : Int) (l : List Int) (k lo hi : Int) (Q : List Int) (hl : l.length ≤ 9223372036854775807) (hQ : Q.length ≤ 9223372036854775807) : Ev (fun j => spec_l11Run.f j a l k lo hi Q) (rRunV a l k lo hi Q) := by
  unfold spec_l11Run.f
  simp only [Option.bind_some]
  refine Ev.bind (ev_spec_l11Flow a l hl) ?_
  refine ev_ite (fun h1 => ?_) (fun h1 => ?_)
  · refine Ev.bind (ev_spec_l11Rule k lo hi) ?_
    refine ev_ite (fun h2 => ?_) (fun h2 => ?_)
    · refine Ev.bind (ev_spec_l11Numbers Q 20 20 hQ) ?_
      by_cases h3 : (Q.length : Int) ≤ 20
      · rw [decide_eq_true h3, Bool.true_and]
        cases h4 : allB Q 0 20 with
        | false => rw [rRunV_spec a l k lo hi Q h4]; exact ev_spec_l11Run_no a l k lo hi Q
        | true =>
          unfold rRunV
          rw [if_pos (by simp [h1, h2, h3])]
          refine ev_succ ?_
          simp only [spec_l11Run.j0, Bool.not_true, Bool.false_eq_true, ↓reduceIte]
          exact ev_spec_l11Run_l0 k lo hi h2 Q (by omega) h4 Q.length 0 [] [] 0 a l (by omega) (by simp) (by simp) h1
      · rw [decide_eq_false h3, Bool.false_and]
        refine ev_eq (ev_spec_l11Run_no a l k lo hi Q) ?_
        unfold rRunV
        rw [if_neg (by simp [h3])]
    · refine ev_eq (ev_spec_l11Run_no a l k lo hi Q) ?_
      unfold rRunV
      rw [if_neg (by simp [h2])]
  · refine ev_eq (ev_spec_l11Run_no a l k lo hi Q) ?_
    unfold rRunV
    rw [if_neg (by simp [h1])]

theorem ev_spec_RunRule (a : Int) (l : List Int) (k lo hi : Int) (Q : List Int) (hl : l.length ≤ 9223372036854775807) (hQ : Q.length ≤ 9223372036854775807) : Ev (fun j => spec_RunRule.f j a l k lo hi Q) ((rRunV a l k lo hi Q).1, (rRunV a l k lo hi Q).2.1, (rRunV a l k lo hi Q).2.2.2) := by
  unfold spec_RunRule.f
  exact Ev.bind (ev_spec_l11Run a l k lo hi Q hl hQ) (Ev.now _)

theorem impl_within_f (a b c : Int) : impl_within.f a b c = some (inB a b c) := by
  unfold impl_within.f inB
  by_cases h : a ≥ b
  · rw [if_pos h]; congr 1; rw [decide_eq_decide]; omega
  · rw [if_neg h]; congr 1; symm; rw [decide_eq_false_iff_not]; omega

theorem impl_isStock_f (a : Int) : impl_isStock.f a = some (inB a (-200) 200) := by
  unfold impl_isStock.f
  rw [impl_within_f, Option.bind_some]

theorem ev_impl_allWithin_l0 (a b : Int) (l : List Int) (hl : l.length ≤ 9223372036854775807) (d : Nat) : ∀ i : Nat, i + d = l.length → Ev (fun k => impl_allWithin.l0 k a b l (l.length : Int) (i : Int)) (allB (l.drop i) a b) := by
  induction d with
  | zero =>
    intro i hi
    refine ev_succ ?_
    have h1 : ¬ (i : Int) < (l.length : Int) := by omega
    simp only [impl_allWithin.l0, h1, ↓reduceIte]
    rw [List.drop_eq_nil_of_le (by omega)]
    exact Ev.now _
  | succ d ih =>
    intro i hi
    refine ev_succ ?_
    have h1 : (i : Int) < (l.length : Int) := by omega
    have h0 : (0 : Int) ≤ (i : Int) := by omega
    have hi' : i < l.length := by omega
    simp only [impl_allWithin.l0, h1, h0, ↓reduceIte, impl_within_f, Option.bind_some, rd_nat hi', w64_nat hi' hl]
    rw [drop_cons hi']
    show Ev _ (inB l[i] a b && allB (l.drop (i + 1)) a b)
    cases inB l[i] a b with
    | true => simpa using ih (i + 1) (by omega)
    | false => simpa using Ev.now false
theorem ev_impl_allWithin (l : List Int) (a b : Int) (hl : l.length ≤ 9223372036854775807) : Ev (fun k => impl_allWithin.f k l a b) (allB l a b) := by
  unfold impl_allWithin.f
  simpa using ev_impl_allWithin_l0 a b l hl l.length 0 (by omega)

theorem ev_impl_IsFlow (a : Int) (l : List Int) (hl : l.length ≤ 9223372036854775807) : Ev (fun k => impl_IsFlow.f k a l) (flowB a l) := by
  unfold impl_IsFlow.f flowB
  simp only [impl_isStock_f, Option.bind_some]
  refine ev_ite (fun h => ?_) (fun h => ?_)
  · refine ev_ite (fun h2 => ?_) (fun h2 => ?_)
    · refine Ev.bind (ev_impl_allWithin l 0 40 hl) ?_
      refine ev_eq (Ev.now _) ?_
      simp [h, h2]
    · refine ev_eq (Ev.now _) ?_
      simp [h, h2]
  · refine ev_eq (Ev.now _) ?_
    simp [h]

theorem ev_impl_IsRule_j0 (b : Bool) (k lo hi : Int) : Ev (fun n => impl_IsRule.j0 n b k lo hi) (!b && (decide (k = 1) || (decide (k = 2) && decide (lo ≤ hi)) || (decide (k = 3) && inB hi 1 40))) := by
  refine ev_succ ?_
  simp only [impl_IsRule.j0, impl_within_f, impl_isStock_f, Option.bind_some]
  cases b with
  | true => exact ev_eq (Ev.now _) (by simp)
  | false =>
    by_cases h1 : k = 1
    · simp only [h1]; exact ev_eq (Ev.now _) (by simp)
    · by_cases h2 : k = 2
      · simp only [h2]; exact ev_eq (Ev.now _) (by simp)
      · by_cases h3 : k = 3
        · simp only [h3]; exact ev_eq (Ev.now _) (by simp)
        · simp only [h1, h2, h3, if_false, Bool.false_eq_true]; exact ev_eq (Ev.now _) (by simp)
theorem ev_impl_IsRule (k lo hi : Int) : Ev (fun n => impl_IsRule.f n k lo hi) (ruleB k lo hi) := by
  unfold impl_IsRule.f ruleB
  simp only [impl_within_f, impl_isStock_f, Option.bind_some]
  refine ev_ite (fun h => ?_) (fun h => ?_)
  · exact ev_eq (ev_impl_IsRule_j0 _ _ _ _) (by simp [h])
  · exact ev_eq (ev_impl_IsRule_j0 _ _ _ _) (by simp [h])

theorem ev_impl_total_l0 (l : List Int) (hl : l.length ≤ 9223372036854775807) (d : Nat) : ∀ (i : Nat) (s : Int), i + d = l.length → wrap64 s = s → Ev (fun k => impl_total.l0 k s l (l.length : Int) (i : Int)) (wrap64 (s + (l.drop i).sum)) := by
  induction d with
  | zero =>
    intro i s hi hs
    refine ev_succ ?_
    have h1 : ¬ (i : Int) < (l.length : Int) := by omega
    simp only [impl_total.l0, h1, ↓reduceIte]
    rw [List.drop_eq_nil_of_le (by omega)]
    simp only [List.sum_nil, Int.add_zero, hs]
    exact Ev.now _
  | succ d ih =>
    intro i s hi hs
    refine ev_succ ?_
    have h1 : (i : Int) < (l.length : Int) := by omega
    have h0 : (0 : Int) ≤ (i : Int) := by omega
    have hi' : i < l.length := by omega
    simp only [impl_total.l0, h1, h0, ↓reduceIte, rd_nat hi', w64_nat hi' hl]
    refine ev_eq (ih (i + 1) _ (by omega) (w64_idem _)) ?_
    rw [drop_cons hi', List.sum_cons, w64_add_l, Int.add_assoc]
theorem ev_impl_total (l : List Int) (hl : l.length ≤ 9223372036854775807) : Ev (fun k => impl_total.f k l) (wrap64 l.sum) := by
  unfold impl_total.f
  simpa using ev_impl_total_l0 l hl l.length 0 0 (by omega) w64_zero

theorem impl_copied_f (l : List Int) (hl : l.length ≤ 1000000000) : impl_copied.f l = some l := by
  unfold impl_copied.f
  simp only [Option.bind_some, List.length_nil, List.nil_append]
  rw [if_pos (by omega)]

theorem ev_impl_Flow_day_no (a : Int) (l : List Int) (o q : Int) : Ev (fun k => impl_Flow_day.j0 k o q true a l) (0, [], 0, false) := by
  refine ev_succ ?_
  simp only [impl_Flow_day.j0, ↓reduceIte]
  exact Ev.now _
def fdayV (a : Int) (l : List Int) (o q : Int) : Int × List Int × Int × Bool :=
  if (inB o 0 40 && inB q 0 20) = true then (dayStock a l o q, dayUnder l o, mx 0 (mn q (dayBefore a l o)), flowB (dayStock a l o q) (dayUnder l o)) else (0, [], 0, false)
theorem ev_impl_Flow_day (a : Int) (l : List Int) (o q : Int) (hl : l.length ≤ 100000000) : Ev (fun k => impl_Flow_day.f k a l o q) (fdayV a l o q) := by
  unfold impl_Flow_day.f fdayV
  simp only [impl_within_f, Option.bind_some]
  cases h2 : inB o 0 40 with
  | false => exact ev_eq (ev_impl_Flow_day_no a l o q) (by simp)
  | true =>
    cases h3 : inB q 0 20 with
    | false => exact ev_eq (ev_impl_Flow_day_no a l o q) (by simp)
    | true =>
      simp only [Bool.not_true, Bool.false_eq_true, ↓reduceIte]
      refine ev_succ ?_
      have h1 : (0 : Int) < ((l ++ [o]).length : Int) := by rw [List.length_append]; simp only [List.length_cons, List.length_nil]; omega
      have h4 : (1 : Int) ≤ ((l ++ [o]).length : Int) := by rw [List.length_append]; simp only [List.length_cons, List.length_nil]; omega
      have h5 : l.length < 17592186044416 := by omega
      simp only [impl_Flow_day.j0, Bool.false_eq_true, ↓reduceIte, impl_copied_f l (by omega), Option.bind_some, h1, h4, h5]
      refine Ev.bind (ev_impl_IsFlow _ _ (by simp; omega)) ?_
      exact Ev.now _

theorem ev_impl_Rule_order_l0 (k lo hi p : Int) (hh : 1 ≤ hi ∧ hi ≤ 40) (hlo : -200 ≤ lo ∧ lo ≤ 200) (hp : -10000 ≤ p ∧ p ≤ 10000) (d : Nat) : ∀ n : Int, 0 ≤ n → n ≤ 20000 → lo - (p + n) ≤ d → Ev (fun j => impl_Rule_order.l0 j p n k lo hi) (lots lo hi p d n) := by
  induction d with
  | zero =>
    intro n h0 h1 hd
    refine ev_succ ?_
    have e : wrap64 (p + n) = p + n := w64 (by omega) (by omega)
    have h2 : ¬ p + n < lo := by omega
    simp only [impl_Rule_order.l0, e, h2, ↓reduceIte]
    exact Ev.now _
  | succ d ih =>
    intro n h0 h1 hd
    refine ev_succ ?_
    have e : wrap64 (p + n) = p + n := w64 (by omega) (by omega)
    have e2 : wrap64 (n + hi) = n + hi := w64 (by omega) (by omega)
    simp only [impl_Rule_order.l0, e, e2]
    unfold lots
    refine ev_ite (fun h => ?_) (fun h => ?_)
    · rw [if_pos h]
      exact ih (n + hi) (by omega) (by omega) (by omega)
    · rw [if_neg h]
      exact Ev.now _
theorem ev_impl_Rule_order (k lo hi p : Int) (hr : ruleB k lo hi = true) (hp : -10000 ≤ p ∧ p ≤ 10000) : Ev (fun j => impl_Rule_order.f j k lo hi p) (ordV k lo hi p) := by
  have hm := ruleB_mem hr
  have e : wrap64 (hi - p) = hi - p := w64 (by omega) (by omega)
  unfold impl_Rule_order.f ordV
  simp only [e]
  refine ev_ite (fun h => ?_) (fun h => ?_)
  · rw [if_pos h]; exact Ev.now _
  · rw [if_neg h]
    refine ev_ite (fun h2 => ?_) (fun h2 => ?_)
    · rw [if_pos h2]
      refine ev_ite (fun h3 => ?_) (fun h3 => ?_)
      · rw [if_pos h3]; exact Ev.now _
      · rw [if_neg h3]; exact Ev.now _
    · rw [if_neg h2]
      exact ev_impl_Rule_order_l0 k lo hi p (by omega) hm.1 hp 100000 0 (by omega) (by omega) (by omega)

theorem ev_impl_runRule_l0 (k lo hi : Int) (hr : ruleB k lo hi = true) (Q : List Int) (hQ : Q.length ≤ 20) (d : Nat) : ∀ (i : Nat) (o t : List Int) (v s : Int) (U : List Int), i + d = Q.length → o.length ≤ i → t.length ≤ i → flowB s U = true → Ev (fun j => impl_runRule.l0 j Q (Q.length : Int) (i : Int) s U k lo hi o t v) (rFrom k lo hi Q d i o t v s U) := by
  induction d with
  | zero =>
    intro i o t v s U hid ho ht hf
    refine ev_succ ?_
    have h1 : ¬ (i : Int) < (Q.length : Int) := by omega
    simp only [impl_runRule.l0, h1, ↓reduceIte, rFrom]
    exact Ev.now _
  | succ d ih =>
    intro i o t v s U hid ho ht hf
    have hm := flowB_mem hf
    have hp := pos_range hf
    refine ev_succ ?_
    have h1 : (i : Int) < (Q.length : Int) := by omega
    have h0 : (0 : Int) ≤ (i : Int) := by omega
    have hi' : i < Q.length := by omega
    have hnn : 0 ≤ rOrd k lo hi s U := ordV_nonneg hr
    simp only [impl_runRule.l0, h1, h0, ↓reduceIte, w64_nat hi' (by omega : Q.length ≤ 9223372036854775807), Option.bind_some, List.length_singleton]
    refine Ev.bind (ev_impl_total U (by omega)) ?_
    rw [hp.1]
    refine Ev.bind (ev_impl_Rule_order k lo hi (s + U.sum) hr (by omega)) ?_
    refine Ev.bind (ev_impl_Flow_day s U _ (rd Q (i : Int)) (by omega)) ?_
    have e : ordV k lo hi (s + U.sum) = rOrd k lo hi s U := rfl
    rw [e]
    unfold fdayV
    rw [rFrom]
    by_cases hd : rOk k lo hi Q i s U = true
    · have hd2 := hd
      unfold rOk at hd2
      rw [Bool.and_eq_true] at hd2
      simp only [hd, hd2.1, hd2.2, ↓reduceIte]
      refine ev_yes (by omega) (ev_yes (by omega) ?_)
      exact ih (i + 1) _ _ _ _ _ (by omega) (by simp; omega) (by simp; omega) hd2.2
    · simp only [hd, Bool.false_eq_true, ↓reduceIte]
      by_cases hb : (inB (rOrd k lo hi s U) 0 40 && inB (rd Q (i : Int)) 0 20) = true
      · have hn : flowB (dayStock s U (rOrd k lo hi s U) (rd Q (i : Int))) (dayUnder U (rOrd k lo hi s U)) = false := by
          unfold rOk at hd
          rw [hb, Bool.true_and, Bool.not_eq_true] at hd
          exact hd
        simp only [hb, hn, Bool.false_eq_true, ↓reduceIte]
        exact Ev.now _
      · simp only [hb, Bool.false_eq_true, ↓reduceIte]
        exact Ev.now _
theorem ev_impl_runRule_no (a : Int) (l : List Int) (k lo hi : Int) (Q : List Int) : Ev (fun j => impl_runRule.j0 j Q true a l k lo hi 0) ([], [], 0, false) := by
  refine ev_succ ?_
  simp only [impl_runRule.j0, ↓reduceIte]
  exact Ev.now _
theorem ev_impl_runRule (a : Int) (l : List Int) (k lo hi : Int) (Q : List Int) (hl : l.length ≤ 9223372036854775807) (hQ : Q.length ≤ 9223372036854775807) : Ev (fun j => impl_runRule.f j a l k lo hi Q) (rRunV a l k lo hi Q) := by
  unfold impl_runRule.f rRunV
  refine Ev.bind (ev_impl_IsFlow a l hl) ?_
  refine ev_ite (fun h1 => ?_) (fun h1 => ?_)
  · refine Ev.bind (ev_impl_IsRule k lo hi) ?_
    refine ev_ite (fun h2 => ?_) (fun h2 => ?_)
    · by_cases h3 : (Q.length : Int) > 20
      · rw [decide_eq_true h3]
        refine ev_eq (ev_impl_runRule_no a l k lo hi Q) ?_
        rw [if_neg (by simp; omega)]
      · rw [decide_eq_false h3]
        rw [if_pos (by simp [h1, h2]; omega)]
        refine ev_succ ?_
        simp only [impl_runRule.j0, Bool.false_eq_true, ↓reduceIte]
        exact ev_impl_runRule_l0 k lo hi h2 Q (by omega) Q.length 0 [] [] 0 a l (by omega) (by simp) (by simp) h1
    · refine ev_eq (ev_impl_runRule_no a l k lo hi Q) ?_
      rw [if_neg (by simp [h2])]
  · refine ev_eq (ev_impl_runRule_no a l k lo hi Q) ?_
    rw [if_neg (by simp [h1])]

theorem ev_impl_RunRule (a : Int) (l : List Int) (k lo hi : Int) (Q : List Int) (hl : l.length ≤ 9223372036854775807) (hQ : Q.length ≤ 9223372036854775807) : Ev (fun j => impl_RunRule.f j a l k lo hi Q) ((rRunV a l k lo hi Q).1, (rRunV a l k lo hi Q).2.1, (rRunV a l k lo hi Q).2.2.2) := by
  unfold impl_RunRule.f
  exact Ev.bind (ev_impl_runRule a l k lo hi Q hl hQ) (Ev.now _)

def marked (m : Int) : Nat → List Int
  | 0 => []
  | n + 1 => m :: marked (m + 1) n
theorem marked_length (m : Int) (n : Nat) : (marked m n).length = n := by
  induction n generalizing m with
  | zero => rfl
  | succ n ih => simp [marked, ih]
theorem marked_get (m : Int) (n i : Nat) (h : i < (marked m n).length) : (marked m n)[i] = m + i := by
  induction n generalizing m i with
  | zero => simp [marked] at h
  | succ n ih =>
    cases i with
    | zero => simp [marked]
    | succ i =>
      simp only [marked, List.getElem_cons_succ]
      rw [ih]
      omega
theorem ev_laws_markIntS_l0 (l0 : List Int) (hl : l0.length ≤ 4611686018427387904) (m0 : Int) (h0 : 0 ≤ m0) (h1 : m0 ≤ 1000000000) (d : Nat) : ∀ (i : Nat) (l : List Int), i + d = l.length → l.length = l0.length → Ev (fun k => laws_markIntS.l0 k l (m0 + (i : Int)) (i : Int)) (m0 + (l.length : Int), l.take i ++ marked (m0 + i) d) := by
  induction d with
  | zero =>
    intro i l hi hle
    refine ev_succ ?_
    have h1 : ¬ (i : Int) < (l.length : Int) := by omega
    simp only [laws_markIntS.l0, h1, ↓reduceIte]
    rw [List.take_of_length_le (by omega)]
    have : i = l.length := by omega
    subst this
    simp only [marked, List.append_nil]
    exact Ev.now _
  | succ d ih =>
    intro i l hi hle
    refine ev_succ ?_
    have h1' : (i : Int) < (l.length : Int) := by omega
    have h0' : (0 : Int) ≤ (i : Int) := by omega
    have hi' : i < l.length := by omega
    have e1 : wrap64 (m0 + (i : Int) + 1) = m0 + ((i + 1 : Nat) : Int) := by rw [w64 (by omega) (by omega)]; omega
    simp only [laws_markIntS.l0, h1', h0', ↓reduceIte, w64_nat hi' (by omega : l.length ≤ 9223372036854775807), Int.toNat_natCast, e1]
    refine ev_eq (ih (i + 1) (l.set i (m0 + (i : Int))) (by simp; omega) (by simp [hle])) ?_
    rw [List.length_set]
    congr 1
    rw [List.take_add_one]
    simp only [List.getElem?_set_self hi', List.take_set_of_le (Nat.le_refl i)]
    simp only [Option.toList_some, List.append_assoc, List.singleton_append, marked]
    congr 3
    omega
theorem ev_laws_markIntS (l : List Int) (m : Int) (hl : l.length ≤ 4611686018427387904) (h0 : 0 ≤ m) (h1 : m ≤ 1000000000) : Ev (fun k => laws_markIntS.f k l m) (m + (l.length : Int), marked m l.length) := by
  unfold laws_markIntS.f
  simpa using ev_laws_markIntS_l0 l hl m h0 h1 l.length 0 l (by omega) rfl

theorem ev_laws_markFlow (a : Int) (l : List Int) (x : Int) (hl : l.length ≤ 4611686018427387904) (h0 : 0 ≤ x) (h1 : x ≤ 1000000000) : Ev (fun k => laws_markFlow.f k a l x) (x + (l.length : Int), marked x l.length) := by
  unfold laws_markFlow.f
  exact Ev.bind (ev_laws_markIntS l x hl h0 h1) (Ev.now _)

theorem ev_laws_heldIntS_l0 (m0 : Int) (n : Nat) (hn : n ≤ 4611686018427387904) (h0 : 0 ≤ m0) (h1 : m0 ≤ 1000000000) (d : Nat) : ∀ (i : Nat), i + d = n → Ev (fun k => laws_heldIntS.l0 k (marked m0 n) (m0 + (i : Int)) (i : Int)) (m0 + (n : Int)) := by
  induction d with
  | zero =>
    intro i hi
    refine ev_succ ?_
    have h1 : ¬ (i : Int) < ((marked m0 n).length : Int) := by rw [marked_length]; omega
    simp only [laws_heldIntS.l0, h1, ↓reduceIte]
    have : i = n := by omega
    subst this
    exact Ev.now _
  | succ d ih =>
    intro i hi
    refine ev_succ ?_
    have h1' : (i : Int) < ((marked m0 n).length : Int) := by rw [marked_length]; omega
    have h0' : (0 : Int) ≤ (i : Int) := by omega
    have hi' : i < (marked m0 n).length := by rw [marked_length]; omega
    have e1 : wrap64 (m0 + (i : Int) + 1) = m0 + ((i + 1 : Nat) : Int) := by rw [w64 (by omega) (by omega)]; omega
    have e2 : wrap64 ((i : Int) + 1) = ((i + 1 : Nat) : Int) := w64_nat (n := n) (by omega) (by omega)
    simp only [laws_heldIntS.l0, h1', h0', ↓reduceIte, rd_nat hi', marked_get, e1, e2]
    exact ih (i + 1) (by omega)
theorem ev_laws_heldIntS (m : Int) (n : Nat) (hn : n ≤ 4611686018427387904) (h0 : 0 ≤ m) (h1 : m ≤ 1000000000) : Ev (fun k => laws_heldIntS.f k (marked m n) m) (m + (n : Int)) := by
  unfold laws_heldIntS.f
  simpa using ev_laws_heldIntS_l0 m n hn h0 h1 n 0 (by omega)

theorem FnExactRunRule (a0_0 : Int) (l0_1 : List (Int)) (a1_0 : Int) (a1_1 : Int) (a1_2 : Int) (l2 : List (Int)) (w0_0 : (Lit.int .i64 a0_0).wf = true) (h0_1 : l0_1.length ≤ 9223372036854775807) (w0_1 : ∀ y ∈ l0_1, (Lit.int .i64 y).wf = true) (w1_0 : (Lit.int .i64 a1_0).wf = true) (w1_1 : (Lit.int .i64 a1_1).wf = true) (w1_2 : (Lit.int .i64 a1_2).wf = true) (h2 : l2.length ≤ 9223372036854775807) (w2 : ∀ y ∈ l2, (Lit.int .i64 y).wf = true) : ∃ k, laws_FnExactRunRule.f k a0_0 l0_1 a1_0 a1_1 a1_2 l2 = some true := by
  refine Ev.rounds ?_
  unfold laws_FnExactRunRule.f
  refine ev_ite (fun h => Ev.now _) (fun h2' => ?_)
  have hl2 : l2.length ≤ 1048576 := by omega
  by_cases hn : l0_1.length ≤ 1048576
  · have hs := ev_spec_RunRule a0_0 l0_1 a1_0 a1_1 a1_2 l2 h0_1 h2
    have hi := ev_impl_RunRule a0_0 l0_1 a1_0 a1_1 a1_2 l2 h0_1 h2
    have hv := rRunV_length a0_0 l0_1 a1_0 a1_1 a1_2 l2
    generalize rRunV a0_0 l0_1 a1_0 a1_1 a1_2 l2 = v at hs hi hv
    obtain ⟨v, v2, v3, b⟩ := v
    dsimp only at hv hs hi
    simp only [laws_szFlow_le a0_0 l0_1 hn, Option.bind_some]
    repeat first
      | exact Ev.now _
      | (refine Ev.bind ht ?_; try dsimp only)
      | (refine Ev.bind hs ?_; try dsimp only)
      | (refine Ev.bind hi ?_; try dsimp only)
      | (refine Ev.bind (ev_laws_toIntS _ (by first | assumption | omega)) ?_; try dsimp only)
      | (refine Ev.bind (ev_laws_toFlow _ _ (by first | assumption | omega)) ?_; try dsimp only)
      | (refine Ev.bind (ev_laws_toRule _ _ _ (by first | assumption | omega)) ?_; try dsimp only)
      | (refine Ev.bind (ev_laws_eqIntS_self _ (by first | assumption | omega)) ?_; try dsimp only)
      | (refine Ev.bind (ev_laws_eqFlow_self _ _ (by first | assumption | omega)) ?_; try dsimp only)
      | (refine Ev.bind (ev_laws_markIntS _ _ (by first | assumption | omega) (by first | assumption | omega) (by first | assumption | omega)) ?_; try dsimp only)
      | (refine Ev.bind (ev_laws_markFlow _ _ _ (by first | assumption | omega) (by first | assumption | omega) (by first | assumption | omega)) ?_; try dsimp only)
      | (refine Ev.bind (ev_laws_heldIntS _ _ (by first | assumption | omega) (by first | assumption | omega) (by first | assumption | omega)) ?_; try dsimp only)
      | (refine ev_ite (fun h => absurd h (by omega)) (fun _ => ?_))
      | (refine ev_ite (fun _ => ?_) (fun h => absurd (by omega) h))
      | (simp only [bne_self_eq_false, Bool.false_eq_true, ↓reduceIte])
      | (refine ev_succ ?_; simp only [laws_FnExactRunRule.j0])
      | (refine ev_succ ?_; simp only [laws_FnExactRunRule.j1])
      | (refine ev_succ ?_; simp only [laws_FnExactRunRule.j2])
  · simp only [laws_szFlow_gt a0_0 l0_1 h0_1 (by omega), Option.bind_some]
    exact Ev.now _

end Go.Proofs.Ytfgclhojgaaepaa.Pure
