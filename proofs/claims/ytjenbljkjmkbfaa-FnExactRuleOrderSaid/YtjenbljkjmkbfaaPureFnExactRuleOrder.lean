/- The pure side of FnExactRuleOrder: what the program's text computes and what the reference's text computes are the same value, for every argument. No condition. -/
import Derived.Test.YtjenbljkjmkbfaaPFnExactRuleOrderx4
namespace Go.Proofs.Ytjenbljkjmkbfaa.Pure
open Go.RowKit Go.Proofs.Ytjenbljkjmkbfaa.PFnExactRuleOrder Go.Proofs.YtjenbljkjmkbfaaW.PrintWords Go.Proofs.YtjenbljkjmkbfaaW.PrintLast
set_option linter.unusedVariables false
set_option linter.unusedSimpArgs false

theorem ev_succ {α : Type} {g : Nat → Option α} {r : α} (h : Ev (fun k => g (k + 1)) r) : Ev g r := Ev.step (fun _ => rfl) h
theorem ev_pure {α : Type} {x : Option α} {r : α} (h : x = some r) : Ev (fun _ => x) r := ⟨0, fun _ _ => h⟩
theorem ev_eq {α : Type} {g : Nat → Option α} {r r' : α} (h : Ev g r) (e : r = r') : Ev g r' := e ▸ h
theorem ev_ite {α : Type} {c : Prop} [Decidable c] {g f : Nat → Option α} {r : α} (h1 : c → Ev g r) (h2 : ¬ c → Ev f r) : Ev (fun k => if c then g k else f k) r := by
  by_cases h : c
  · simp only [h, if_true]; exact h1 h
  · simp only [h, if_false]; exact h2 h
theorem w64 {x : Int} (h : -9223372036854775808 ≤ x) (h' : x ≤ 9223372036854775807) : wrap64 x = x := by unfold wrap64; omega
theorem w64_zero : wrap64 0 = 0 := w64 (by omega) (by omega)
theorem w64_idem (x : Int) : wrap64 (wrap64 x) = wrap64 x := by unfold wrap64; omega
theorem w64_add_l (x y : Int) : wrap64 (wrap64 x + y) = wrap64 (x + y) := by unfold wrap64; omega
theorem w64_add_r (x y : Int) : wrap64 (x + wrap64 y) = wrap64 (x + y) := by unfold wrap64; omega
theorem w64_sub_l (x y : Int) : wrap64 (wrap64 x - y) = wrap64 (x - y) := by unfold wrap64; omega
theorem w64_sub_r (x y : Int) : wrap64 (x - wrap64 y) = wrap64 (x - y) := by unfold wrap64; omega
theorem w64_range (x : Int) : -9223372036854775808 ≤ wrap64 x ∧ wrap64 x ≤ 9223372036854775807 := by unfold wrap64; omega
theorem w64_nat {i n : Nat} (h : i < n) (hn : n ≤ 9223372036854775807) : wrap64 ((i : Int) + 1) = ((i + 1 : Nat) : Int) := by rw [w64 (by omega) (by omega)]; rfl
theorem wf_range {x : Int} (h : (Lit.int .i64 x).wf = true) : -9223372036854775808 ≤ x ∧ x ≤ 9223372036854775807 := by
  simp [Lit.wf, IntKind.min, IntKind.max, IntKind.signed, IntKind.bits] at h
  omega
theorem rd_nat {l : List Int} {i : Nat} (h : i < l.length) : rd l (i : Int) = l[i] := by
  unfold rd
  simp [List.getD_eq_getElem?_getD, h]
def allB (l : List Int) (a b : Int) : Bool := l.all fun x => decide (a ≤ x ∧ x ≤ b)
def inB (x a b : Int) : Bool := decide (a ≤ x ∧ x ≤ b)
theorem allB_mem {l : List Int} {a b : Int} (h : allB l a b = true) : ∀ x ∈ l, a ≤ x ∧ x ≤ b := by
  intro x hx
  have := List.all_eq_true.1 h x hx
  simpa using this
theorem inB_iff {x a b : Int} : inB x a b = true ↔ a ≤ x ∧ x ≤ b := by unfold inB; simp
theorem sum_le {l : List Int} {b : Int} (hb : ∀ x ∈ l, x ≤ b) : l.sum ≤ l.length * b := by
  induction l with
  | nil => simp
  | cons x l ih =>
    have h1 := hb x (by simp)
    have h2 := ih (fun y hy => hb y (by simp [hy]))
    rw [List.sum_cons, List.length_cons]
    have : ((l.length + 1 : Nat) : Int) * b = l.length * b + b := by rw [Int.natCast_add, Int.add_mul]; simp
    rw [this]; omega
theorem le_sum {l : List Int} {b : Int} (hb : ∀ x ∈ l, b ≤ x) : l.length * b ≤ l.sum := by
  induction l with
  | nil => simp
  | cons x l ih =>
    have h1 := hb x (by simp)
    have h2 := ih (fun y hy => hb y (by simp [hy]))
    rw [List.sum_cons, List.length_cons]
    have : ((l.length + 1 : Nat) : Int) * b = l.length * b + b := by rw [Int.natCast_add, Int.add_mul]; simp
    rw [this]; omega
theorem drop_cons {α : Type} {l : List α} {i : Nat} (h : i < l.length) : l.drop i = l[i] :: l.drop (i + 1) := List.drop_eq_getElem_cons h

theorem laws_toRule_f (a b c : Int) : laws_toRule.f a b c = some (a, b, c) := rfl

theorem laws_szIntS_le (l : List Int) (hl : l.length ≤ 1048576) : laws_szIntS.f l 1048576 = some (1048576 - (l.length : Int)) := by
  unfold laws_szIntS.f
  rw [w64 (by omega) (by omega), if_neg (by omega)]
theorem laws_szIntS_gt (l : List Int) (h : l.length ≤ 9223372036854775807) (hl : 1048576 < l.length) : laws_szIntS.f l 1048576 = some (-1) := by
  unfold laws_szIntS.f
  rw [w64 (by omega) (by omega), if_pos (by omega)]

theorem laws_szFlow_le (a : Int) (l : List Int) (hl : l.length ≤ 1048576) : laws_szFlow.f a l 1048576 = some (1048576 - (l.length : Int)) := by
  unfold laws_szFlow.f
  rw [laws_szIntS_le l hl, Option.bind_some, if_neg (by omega)]
theorem laws_szFlow_gt (a : Int) (l : List Int) (h : l.length ≤ 9223372036854775807) (hl : 1048576 < l.length) : laws_szFlow.f a l 1048576 = some (-1) := by
  unfold laws_szFlow.f
  rw [laws_szIntS_gt l h hl, Option.bind_some, if_pos (by omega)]

theorem ev_laws_toIntS_l0 (l : List Int) (hl : l.length ≤ 9223372036854775807) (d : Nat) : ∀ (i : Nat) (o : List Int), i + d = l.length → o.length = l.length → Ev (fun k => laws_toIntS.l0 k l o (i : Int)) (o.take i ++ l.drop i) := by
  induction d with
  | zero =>
    intro i o hi ho
    refine ev_succ ?_
    have h1 : ¬ (i : Int) < (l.length : Int) := by omega
    simp only [laws_toIntS.l0, h1, ↓reduceIte]
    rw [List.drop_eq_nil_of_le (by omega), List.take_of_length_le (by omega), List.append_nil]
    exact Ev.now _
  | succ d ih =>
    intro i o hi ho
    refine ev_succ ?_
    have h1 : (i : Int) < (l.length : Int) := by omega
    have h2 : (i : Int) < (o.length : Int) := by omega
    have h0 : (0 : Int) ≤ (i : Int) := by omega
    have hi' : i < l.length := by omega
    simp only [laws_toIntS.l0, h1, h2, h0, ↓reduceIte, rd_nat hi', w64_nat hi' hl, Int.toNat_natCast]
    refine ev_eq (ih (i + 1) _ (by omega) (by simp [ho])) ?_
    rw [drop_cons hi', List.take_add_one]
    simp [ho, hi', List.take_set_of_le (Nat.le_refl i)]
theorem ev_laws_toIntS (l : List Int) (hl : l.length ≤ 1048576) : Ev (fun k => laws_toIntS.f k l) l := by
  unfold laws_toIntS.f
  have h0 : (0 : Int) ≤ (l.length : Int) := by omega
  have h1 : ((l.length : Int) : Int).toNat ≤ 35184372088832 := by omega
  simp only [h0, h1, ↓reduceIte]
  simpa using ev_laws_toIntS_l0 l (by omega) l.length 0 (List.replicate ((l.length : Int) : Int).toNat 0) (by omega) (by simp)

theorem ev_laws_toFlow (a : Int) (l : List Int) (hl : l.length ≤ 1048576) : Ev (fun k => laws_toFlow.f k a l) (a, l) := by
  unfold laws_toFlow.f
  refine Ev.bind (ev_laws_toIntS l hl) ?_
  exact Ev.now _

theorem ev_laws_eqIntS_l0 (l m : List Int) (hl : l.length ≤ 9223372036854775807) (he : l.length = m.length) (d : Nat) : ∀ (i : Nat), i + d = l.length → Ev (fun k => laws_eqIntS.l0 k l m (i : Int)) (decide (l.drop i = m.drop i)) := by
  induction d with
  | zero =>
    intro i hi
    refine ev_succ ?_
    have h1 : ¬ (i : Int) < (l.length : Int) := by omega
    simp only [laws_eqIntS.l0, h1, ↓reduceIte]
    rw [List.drop_eq_nil_of_le (by omega), List.drop_eq_nil_of_le (by omega)]
    exact Ev.now _
  | succ d ih =>
    intro i hi
    refine ev_succ ?_
    have h1 : (i : Int) < (l.length : Int) := by omega
    have h2 : (i : Int) < (m.length : Int) := by omega
    have h0 : (0 : Int) ≤ (i : Int) := by omega
    have hi' : i < l.length := by omega
    have hm' : i < m.length := by omega
    simp only [laws_eqIntS.l0, h1, h2, h0, ↓reduceIte, rd_nat hi', rd_nat hm', w64_nat hi' hl]
    refine ev_ite (fun h => ?_) (fun h => ?_)
    · refine ev_eq (ih (i + 1) (by omega)) ?_
      rw [drop_cons hi', drop_cons hm', decide_eq_decide, h, List.cons.injEq]
      exact (and_iff_right rfl).symm
    · refine ev_eq (Ev.now _) ?_
      rw [drop_cons hi', drop_cons hm']
      symm
      rw [decide_eq_false_iff_not, List.cons.injEq]
      exact fun hc => h hc.1
theorem ev_laws_eqIntS (l m : List Int) (hl : l.length ≤ 9223372036854775807) : Ev (fun k => laws_eqIntS.f k l m) (decide (l = m)) := by
  unfold laws_eqIntS.f
  refine ev_ite (fun h => ?_) (fun h => ?_)
  · simpa using ev_laws_eqIntS_l0 l m hl (by omega) l.length 0 (by omega)
  · refine ev_eq (Ev.now _) ?_
    symm
    rw [decide_eq_false_iff_not]
    rintro rfl
    exact h rfl
theorem ev_laws_eqIntS_self (l : List Int) (hl : l.length ≤ 9223372036854775807) : Ev (fun k => laws_eqIntS.f k l l) true := by
  simpa using ev_laws_eqIntS l l hl

theorem ev_laws_eqFlow_self (a : Int) (l : List Int) (hl : l.length ≤ 9223372036854775807) : Ev (fun k => laws_eqFlow.f k a l a l) true := by
  unfold laws_eqFlow.f
  simp only [if_true]
  refine Ev.bind (ev_laws_eqIntS_self l hl) ?_
  simp only [if_true]
  exact Ev.now _

theorem spec_l1In_f (a b c : Int) : spec_l1In.f a b c = some (inB a b c) := by
  unfold spec_l1In.f inB
  by_cases h : a ≥ b
  · rw [if_pos h]; congr 1; rw [decide_eq_decide]; omega
  · rw [if_neg h]; congr 1; symm; rw [decide_eq_false_iff_not]; omega

def ruleB (k lo hi : Int) : Bool := inB lo (-200) 200 && (inB hi (-200) 200 && (decide (k = 1) || (decide (k = 2) && decide (lo ≤ hi)) || (decide (k = 3) && inB hi 1 40)))

theorem ev_spec_l11Rule_j0 (b : Bool) (k lo hi : Int) : Ev (fun n => spec_l11Rule.j0 n b k lo hi) (!b && (decide (k = 1) || (decide (k = 2) && decide (lo ≤ hi)) || (decide (k = 3) && inB hi 1 40))) := by
  refine ev_succ ?_
  simp only [spec_l11Rule.j0, spec_l1In_f, Option.bind_some]
  cases b with
  | true => exact ev_eq (Ev.now _) (by simp)
  | false =>
    by_cases h1 : k = 1
    · simp only [h1]; exact ev_eq (Ev.now _) (by simp)
    · by_cases h2 : k = 2
      · simp only [h2]; exact ev_eq (Ev.now _) (by simp)
      · by_cases h3 : k = 3
        · simp only [h3]; exact ev_eq (Ev.now _) (by simp)
        · simp only [h1, h2, h3, if_false, Bool.false_eq_true]; exact ev_eq (Ev.now _) (by simp)
theorem ev_spec_l11Rule (k lo hi : Int) : Ev (fun n => spec_l11Rule.f n k lo hi) (ruleB k lo hi) := by
  unfold spec_l11Rule.f ruleB
  simp only [spec_l1In_f, Option.bind_some]
  refine ev_ite (fun h => ?_) (fun h => ?_)
  · exact ev_eq (ev_spec_l11Rule_j0 _ _ _ _) (by simp [h])
  · exact ev_eq (ev_spec_l11Rule_j0 _ _ _ _) (by simp [h])

theorem ev_spec_l2Row_l0 (n b : Int) (l : List Int) (hl : l.length ≤ 9223372036854775807) (d : Nat) : ∀ i : Nat, i + d = l.length → Ev (fun k => spec_l2Row.l0 k l n b (i : Int)) (allB (l.drop i) 0 b && ((l.length : Int) == n)) := by
  induction d with
  | zero =>
    intro i hi
    refine ev_succ ?_
    have h1 : ¬ (i : Int) < (l.length : Int) := by omega
    simp only [spec_l2Row.l0, h1, ↓reduceIte]
    rw [List.drop_eq_nil_of_le (by omega)]
    exact Ev.now _
  | succ d ih =>
    intro i hi
    refine ev_succ ?_
    have h1 : (i : Int) < (l.length : Int) := by omega
    have h0 : (0 : Int) ≤ (i : Int) := by omega
    have hi' : i < l.length := by omega
    simp only [spec_l2Row.l0, h1, h0, ↓reduceIte, spec_l1In_f, Option.bind_some, rd_nat hi', w64_nat hi' hl]
    rw [drop_cons hi']
    show Ev _ ((inB l[i] 0 b && allB (l.drop (i + 1)) 0 b) && _)
    cases inB l[i] 0 b with
    | true => simpa using ih (i + 1) (by omega)
    | false => simpa using Ev.now false
theorem ev_spec_l2Row (l : List Int) (n b : Int) (hl : l.length ≤ 9223372036854775807) : Ev (fun k => spec_l2Row.f k l n b) (allB l 0 b && ((l.length : Int) == n)) := by
  unfold spec_l2Row.f
  simpa using ev_spec_l2Row_l0 n b l hl l.length 0 (by omega)

theorem ev_spec_l11Numbers (l : List Int) (n b : Int) (hl : l.length ≤ 9223372036854775807) : Ev (fun k => spec_l11Numbers.f k l n b) (decide ((l.length : Int) ≤ n) && allB l 0 b) := by
  unfold spec_l11Numbers.f
  refine ev_ite (fun h => ?_) (fun h => ?_)
  · refine Ev.bind (ev_spec_l2Row l _ b hl) ?_
    refine ev_eq (Ev.now _) ?_
    simp [h]
  · refine ev_eq (Ev.now _) ?_
    simp [h]

def flowB (a : Int) (l : List Int) : Bool := inB a (-200) 200 && (decide ((l.length : Int) ≤ 4) && allB l 0 40)
theorem flowB_mem {a : Int} {l : List Int} (h : flowB a l = true) : (-200 ≤ a ∧ a ≤ 200) ∧ l.length ≤ 4 ∧ ∀ x ∈ l, 0 ≤ x ∧ x ≤ 40 := by
  unfold flowB at h
  simp only [Bool.and_eq_true, decide_eq_true_eq] at h
  exact ⟨inB_iff.1 h.1, by omega, allB_mem h.2.2⟩

theorem ev_spec_l11Flow (a : Int) (l : List Int) (hl : l.length ≤ 9223372036854775807) : Ev (fun k => spec_l11Flow.f k a l) (flowB a l) := by
  unfold spec_l11Flow.f flowB
  simp only [spec_l1In_f, Option.bind_some]
  refine ev_ite (fun h => ?_) (fun h => ?_)
  · refine Ev.bind (ev_spec_l11Numbers l 4 40 hl) ?_
    refine ev_eq (Ev.now _) ?_
    simp [h]
  · refine ev_eq (Ev.now _) ?_
    simp [h]

theorem ev_spec_l2Sum_l0 (l : List Int) (hl : l.length ≤ 9223372036854775807) (d : Nat) : ∀ (i : Nat) (s : Int), i + d = l.length → wrap64 s = s → Ev (fun k => spec_l2Sum.l0 k l s (i : Int)) (wrap64 (s + (l.drop i).sum)) := by
  induction d with
  | zero =>
    intro i s hi hs
    refine ev_succ ?_
    have h1 : ¬ (i : Int) < (l.length : Int) := by omega
    simp only [spec_l2Sum.l0, h1, ↓reduceIte]
    rw [List.drop_eq_nil_of_le (by omega)]
    simp only [List.sum_nil, Int.add_zero, hs]
    exact Ev.now _
  | succ d ih =>
    intro i s hi hs
    refine ev_succ ?_
    have h1 : (i : Int) < (l.length : Int) := by omega
    have h0 : (0 : Int) ≤ (i : Int) := by omega
    have hi' : i < l.length := by omega
    simp only [spec_l2Sum.l0, h1, h0, ↓reduceIte, rd_nat hi', w64_nat hi' hl]
    refine ev_eq (ih (i + 1) _ (by omega) (w64_idem _)) ?_
    rw [drop_cons hi', List.sum_cons, w64_add_l, Int.add_assoc]
theorem ev_spec_l2Sum (l : List Int) (hl : l.length ≤ 9223372036854775807) : Ev (fun k => spec_l2Sum.f k l) (wrap64 l.sum) := by
  unfold spec_l2Sum.f
  simpa using ev_spec_l2Sum_l0 l hl l.length 0 0 (by omega) w64_zero

theorem ev_spec_l11Position (a : Int) (l : List Int) (hl : l.length ≤ 9223372036854775807) : Ev (fun k => spec_l11Position.f k a l) (wrap64 (a + wrap64 l.sum)) := by
  unfold spec_l11Position.f
  refine Ev.bind (ev_spec_l2Sum l hl) ?_
  exact Ev.now _

theorem spec_l1Most_f (a b : Int) : spec_l1Most.f a b = some (mx b a) := by
  unfold spec_l1Most.f mx
  by_cases h : a > b
  · rw [if_pos h, if_pos (by omega)]
  · rw [if_neg h, if_neg (by omega)]

def lots (lo hi p : Int) : Nat → Int → Int
  | 0, n => n
  | d + 1, n => if p + n < lo then lots lo hi p d (n + hi) else n
def ordV (k lo hi p : Int) : Int := if k = 1 then mx 0 (hi - p) else if k = 2 then (if p < lo then hi - p else 0) else lots lo hi p 100000 0
theorem ruleB_mem {k lo hi : Int} (h : ruleB k lo hi = true) : (-200 ≤ lo ∧ lo ≤ 200) ∧ (-200 ≤ hi ∧ hi ≤ 200) ∧ (k = 1 ∨ (k = 2 ∧ lo ≤ hi) ∨ (k = 3 ∧ 1 ≤ hi ∧ hi ≤ 40)) := by
  unfold ruleB at h
  simp only [Bool.and_eq_true, Bool.or_eq_true, decide_eq_true_eq, inB_iff] at h
  omega
theorem lots_nonneg {lo hi p : Int} (hh : 0 ≤ hi) (d : Nat) : ∀ n : Int, 0 ≤ n → 0 ≤ lots lo hi p d n := by
  induction d with
  | zero => intro n hn; exact hn
  | succ d ih =>
    intro n hn
    unfold lots
    split
    · exact ih (n + hi) (by omega)
    · exact hn
theorem ordV_nonneg {k lo hi p : Int} (h : ruleB k lo hi = true) : 0 ≤ ordV k lo hi p := by
  have hm := ruleB_mem h
  unfold ordV
  split
  · unfold mx; omega
  · split
    · split <;> omega
    · exact lots_nonneg (by omega) _ _ (by omega)

theorem ev_spec_l11Order_l0 (k lo hi p : Int) (hh : 1 ≤ hi ∧ hi ≤ 40) (hlo : -200 ≤ lo ∧ lo ≤ 200) (hp : -10000 ≤ p ∧ p ≤ 10000) (d : Nat) : ∀ n : Int, 0 ≤ n → n ≤ 20000 → lo - (p + n) ≤ d → Ev (fun j => spec_l11Order.l0 j p n k lo hi) (lots lo hi p d n) := by
  induction d with
  | zero =>
    intro n h0 h1 hd
    refine ev_succ ?_
    have e : wrap64 (p + n) = p + n := w64 (by omega) (by omega)
    have h2 : ¬ p + n < lo := by omega
    simp only [spec_l11Order.l0, e, h2, ↓reduceIte]
    exact Ev.now _
  | succ d ih =>
    intro n h0 h1 hd
    refine ev_succ ?_
    have e : wrap64 (p + n) = p + n := w64 (by omega) (by omega)
    have e2 : wrap64 (n + hi) = n + hi := w64 (by omega) (by omega)
    simp only [spec_l11Order.l0, e, e2]
    unfold lots
    refine ev_ite (fun h => ?_) (fun h => ?_)
    · rw [if_pos h]
      exact ih (n + hi) (by omega) (by omega) (by omega)
    · rw [if_neg h]
      exact Ev.now _
theorem ev_spec_l11Order (k lo hi p : Int) (hr : ruleB k lo hi = true) (hp : -10000 ≤ p ∧ p ≤ 10000) : Ev (fun j => spec_l11Order.f j k lo hi p) (ordV k lo hi p) := by
  have hm := ruleB_mem hr
  have e : wrap64 (hi - p) = hi - p := w64 (by omega) (by omega)
  unfold spec_l11Order.f ordV
  simp only [e, spec_l1Most_f, Option.bind_some]
  refine ev_ite (fun h => ?_) (fun h => ?_)
  · rw [if_pos h]; exact Ev.now _
  · rw [if_neg h]
    refine ev_ite (fun h2 => ?_) (fun h2 => ?_)
    · rw [if_pos h2]
      refine ev_ite (fun h3 => ?_) (fun h3 => ?_)
      · rw [if_pos h3]; exact Ev.now _
      · rw [if_neg h3]; exact Ev.now _
    · rw [if_neg h2]
      exact ev_spec_l11Order_l0 k lo hi p (by omega) hm.1 hp 100000 0 (by omega) (by omega) (by omega)

def posV (a : Int) (l : List Int) : Int × Bool := if flowB a l = true then (wrap64 (a + wrap64 l.sum), true) else (0, false)

theorem pos_range {a : Int} {l : List Int} (h : flowB a l = true) : wrap64 (a + wrap64 l.sum) = a + l.sum ∧ -200 ≤ a + l.sum ∧ a + l.sum ≤ 360 ∧ 0 ≤ l.sum ∧ l.sum ≤ 160 := by
  have hm := flowB_mem h
  have s1 := sum_le (b := 40) (fun y hy => (hm.2.2 y hy).2)
  have s2 := le_sum (b := 0) (fun y hy => (hm.2.2 y hy).1)
  have e : wrap64 l.sum = l.sum := w64 (by omega) (by omega)
  rw [e, w64 (by omega) (by omega)]
  omega
def ruleOrderV (a : Int) (l : List Int) (k lo hi : Int) : Int × Bool :=
  if (flowB a l && ruleB k lo hi) = true then (if ordV k lo hi (a + l.sum) > 40 then (0, false) else (ordV k lo hi (a + l.sum), true)) else (0, false)

theorem ev_spec_RuleOrder_no (a : Int) (l : List Int) (k lo hi : Int) : Ev (fun j => spec_RuleOrder.j0 j true a l k lo hi) (0, false) := by
  refine ev_succ ?_
  simp only [spec_RuleOrder.j0, ↓reduceIte]
  exact Ev.now _
theorem ev_spec_RuleOrder (a : Int) (l : List Int) (k lo hi : Int) (hl : l.length ≤ 9223372036854775807) : Ev (fun j => spec_RuleOrder.f j a l k lo hi) (ruleOrderV a l k lo hi) := by
  unfold spec_RuleOrder.f ruleOrderV
  refine Ev.bind (ev_spec_l11Flow a l hl) ?_
  refine ev_ite (fun h => ?_) (fun h => ?_)
  · refine Ev.bind (ev_spec_l11Rule k lo hi) ?_
    cases hr : ruleB k lo hi with
    | false => exact ev_eq (ev_spec_RuleOrder_no a l k lo hi) (by simp)
    | true =>
      have hp := pos_range h
      refine ev_succ ?_
      simp only [spec_RuleOrder.j0, Bool.not_true, Bool.false_eq_true, ↓reduceIte]
      refine Ev.bind (ev_spec_l11Position a l hl) ?_
      rw [hp.1]
      refine Ev.bind (ev_spec_l11Order k lo hi _ hr (by omega)) ?_
      have e : (flowB a l && true) = true := by rw [h]; rfl
      rw [if_pos e]
      refine ev_ite (fun h2 => ?_) (fun h2 => ?_)
      · rw [if_pos h2]; exact Ev.now _
      · rw [if_neg h2]; exact Ev.now _
  · exact ev_eq (ev_spec_RuleOrder_no a l k lo hi) (by simp [h])

theorem impl_within_f (a b c : Int) : impl_within.f a b c = some (inB a b c) := by
  unfold impl_within.f inB
  by_cases h : a ≥ b
  · rw [if_pos h]; congr 1; rw [decide_eq_decide]; omega
  · rw [if_neg h]; congr 1; symm; rw [decide_eq_false_iff_not]; omega

theorem impl_isStock_f (a : Int) : impl_isStock.f a = some (inB a (-200) 200) := by
  unfold impl_isStock.f
  rw [impl_within_f, Option.bind_some]

theorem ev_impl_IsRule_j0 (b : Bool) (k lo hi : Int) : Ev (fun n => impl_IsRule.j0 n b k lo hi) (!b && (decide (k = 1) || (decide (k = 2) && decide (lo ≤ hi)) || (decide (k = 3) && inB hi 1 40))) := by
  refine ev_succ ?_
  simp only [impl_IsRule.j0, impl_within_f, impl_isStock_f, Option.bind_some]
  cases b with
  | true => exact ev_eq (Ev.now _) (by simp)
  | false =>
    by_cases h1 : k = 1
    · simp only [h1]; exact ev_eq (Ev.now _) (by simp)
    · by_cases h2 : k = 2
      · simp only [h2]; exact ev_eq (Ev.now _) (by simp)
      · by_cases h3 : k = 3
        · simp only [h3]; exact ev_eq (Ev.now _) (by simp)
        · simp only [h1, h2, h3, if_false, Bool.false_eq_true]; exact ev_eq (Ev.now _) (by simp)
theorem ev_impl_IsRule (k lo hi : Int) : Ev (fun n => impl_IsRule.f n k lo hi) (ruleB k lo hi) := by
  unfold impl_IsRule.f ruleB
  simp only [impl_within_f, impl_isStock_f, Option.bind_some]
  refine ev_ite (fun h => ?_) (fun h => ?_)
  · exact ev_eq (ev_impl_IsRule_j0 _ _ _ _) (by simp [h])
  · exact ev_eq (ev_impl_IsRule_j0 _ _ _ _) (by simp [h])

theorem ev_impl_allWithin_l0 (a b : Int) (l : List Int) (hl : l.length ≤ 9223372036854775807) (d : Nat) : ∀ i : Nat, i + d = l.length → Ev (fun k => impl_allWithin.l0 k a b l (l.length : Int) (i : Int)) (allB (l.drop i) a b) := by
  induction d with
  | zero =>
    intro i hi
    refine ev_succ ?_
    have h1 : ¬ (i : Int) < (l.length : Int) := by omega
    simp only [impl_allWithin.l0, h1, ↓reduceIte]
    rw [List.drop_eq_nil_of_le (by omega)]
    exact Ev.now _
  | succ d ih =>
    intro i hi
    refine ev_succ ?_
    have h1 : (i : Int) < (l.length : Int) := by omega
    have h0 : (0 : Int) ≤ (i : Int) := by omega
    have hi' : i < l.length := by omega
    simp only [impl_allWithin.l0, h1, h0, ↓reduceIte, impl_within_f, Option.bind_some, rd_nat hi', w64_nat hi' hl]
    rw [drop_cons hi']
    show Ev _ (inB l[i] a b && allB (l.drop (i + 1)) a b)
    cases inB l[i] a b with
    | true => simpa using ih (i + 1) (by omega)
    | false => simpa using Ev.now false
theorem ev_impl_allWithin (l : List Int) (a b : Int) (hl : l.length ≤ 9223372036854775807) : Ev (fun k => impl_allWithin.f k l a b) (allB l a b) := by
  unfold impl_allWithin.f
  simpa using ev_impl_allWithin_l0 a b l hl l.length 0 (by omega)

theorem ev_impl_IsFlow (a : Int) (l : List Int) (hl : l.length ≤ 9223372036854775807) : Ev (fun k => impl_IsFlow.f k a l) (flowB a l) := by
  unfold impl_IsFlow.f flowB
  simp only [impl_isStock_f, Option.bind_some]
  refine ev_ite (fun h => ?_) (fun h => ?_)
  · refine ev_ite (fun h2 => ?_) (fun h2 => ?_)
    · refine Ev.bind (ev_impl_allWithin l 0 40 hl) ?_
      refine ev_eq (Ev.now _) ?_
      simp [h, h2]
    · refine ev_eq (Ev.now _) ?_
      simp [h, h2]
  · refine ev_eq (Ev.now _) ?_
    simp [h]

theorem ev_impl_total_l0 (l : List Int) (hl : l.length ≤ 9223372036854775807) (d : Nat) : ∀ (i : Nat) (s : Int), i + d = l.length → wrap64 s = s → Ev (fun k => impl_total.l0 k s l (l.length : Int) (i : Int)) (wrap64 (s + (l.drop i).sum)) := by
  induction d with
  | zero =>
    intro i s hi hs
    refine ev_succ ?_
    have h1 : ¬ (i : Int) < (l.length : Int) := by omega
    simp only [impl_total.l0, h1, ↓reduceIte]
    rw [List.drop_eq_nil_of_le (by omega)]
    simp only [List.sum_nil, Int.add_zero, hs]
    exact Ev.now _
  | succ d ih =>
    intro i s hi hs
    refine ev_succ ?_
    have h1 : (i : Int) < (l.length : Int) := by omega
    have h0 : (0 : Int) ≤ (i : Int) := by omega
    have hi' : i < l.length := by omega
    simp only [impl_total.l0, h1, h0, ↓reduceIte, rd_nat hi', w64_nat hi' hl]
    refine ev_eq (ih (i + 1) _ (by omega) (w64_idem _)) ?_
    rw [drop_cons hi', List.sum_cons, w64_add_l, Int.add_assoc]
theorem ev_impl_total (l : List Int) (hl : l.length ≤ 9223372036854775807) : Ev (fun k => impl_total.f k l) (wrap64 l.sum) := by
  unfold impl_total.f
  simpa using ev_impl_total_l0 l hl l.length 0 0 (by omega) w64_zero

theorem ev_impl_PositionOf (a : Int) (l : List Int) (hl : l.length ≤ 9223372036854775807) : Ev (fun k => impl_PositionOf.f k a l) (posV a l) := by
  unfold impl_PositionOf.f posV
  refine Ev.bind (ev_impl_IsFlow a l hl) ?_
  refine ev_ite (fun h => ?_) (fun h => ?_)
  · refine Ev.bind (ev_impl_total l hl) ?_
    refine ev_eq (Ev.now _) ?_
    simp [h]
  · refine ev_eq (Ev.now _) ?_
    simp [h]

theorem ev_impl_Rule_order_l0 (k lo hi p : Int) (hh : 1 ≤ hi ∧ hi ≤ 40) (hlo : -200 ≤ lo ∧ lo ≤ 200) (hp : -10000 ≤ p ∧ p ≤ 10000) (d : Nat) : ∀ n : Int, 0 ≤ n → n ≤ 20000 → lo - (p + n) ≤ d → Ev (fun j => impl_Rule_order.l0 j p n k lo hi) (lots lo hi p d n) := by
  induction d with
  | zero =>
    intro n h0 h1 hd
    refine ev_succ ?_
    have e : wrap64 (p + n) = p + n := w64 (by omega) (by omega)
    have h2 : ¬ p + n < lo := by omega
    simp only [impl_Rule_order.l0, e, h2, ↓reduceIte]
    exact Ev.now _
  | succ d ih =>
    intro n h0 h1 hd
    refine ev_succ ?_
    have e : wrap64 (p + n) = p + n := w64 (by omega) (by omega)
    have e2 : wrap64 (n + hi) = n + hi := w64 (by omega) (by omega)
    simp only [impl_Rule_order.l0, e, e2]
    unfold lots
    refine ev_ite (fun h => ?_) (fun h => ?_)
    · rw [if_pos h]
      exact ih (n + hi) (by omega) (by omega) (by omega)
    · rw [if_neg h]
      exact Ev.now _
theorem ev_impl_Rule_order (k lo hi p : Int) (hr : ruleB k lo hi = true) (hp : -10000 ≤ p ∧ p ≤ 10000) : Ev (fun j => impl_Rule_order.f j k lo hi p) (ordV k lo hi p) := by
  have hm := ruleB_mem hr
  have e : wrap64 (hi - p) = hi - p := w64 (by omega) (by omega)
  unfold impl_Rule_order.f ordV
  simp only [e]
  refine ev_ite (fun h => ?_) (fun h => ?_)
  · rw [if_pos h]; exact Ev.now _
  · rw [if_neg h]
    refine ev_ite (fun h2 => ?_) (fun h2 => ?_)
    · rw [if_pos h2]
      refine ev_ite (fun h3 => ?_) (fun h3 => ?_)
      · rw [if_pos h3]; exact Ev.now _
      · rw [if_neg h3]; exact Ev.now _
    · rw [if_neg h2]
      exact ev_impl_Rule_order_l0 k lo hi p (by omega) hm.1 hp 100000 0 (by omega) (by omega) (by omega)

theorem ev_impl_RuleOrder (a : Int) (l : List Int) (k lo hi : Int) (hl : l.length ≤ 9223372036854775807) : Ev (fun j => impl_RuleOrder.f j a l k lo hi) (ruleOrderV a l k lo hi) := by
  unfold impl_RuleOrder.f ruleOrderV
  refine Ev.bind (ev_impl_PositionOf a l hl) ?_
  unfold posV
  cases h : flowB a l with
  | false => simpa using Ev.now _
  | true =>
    have hp := pos_range h
    simp only [↓reduceIte, hp.1, Bool.true_and]
    refine Ev.bind (ev_impl_IsRule k lo hi) ?_
    refine ev_ite (fun hr => ?_) (fun hr => ?_)
    · rw [if_pos hr]
      refine Ev.bind (ev_impl_Rule_order k lo hi _ hr (by omega)) ?_
      refine ev_ite (fun h2 => ?_) (fun h2 => ?_)
      · rw [if_pos h2]; exact Ev.now _
      · rw [if_neg h2]
        refine Ev.bind (ev_impl_Rule_order k lo hi _ hr (by omega)) ?_
        exact Ev.now _
    · rw [if_neg hr]; exact Ev.now _

theorem FnExactRuleOrder (a0_0 : Int) (l0_1 : List (Int)) (a1_0 : Int) (a1_1 : Int) (a1_2 : Int) (w0_0 : (Lit.int .i64 a0_0).wf = true) (h0_1 : l0_1.length ≤ 9223372036854775807) (w0_1 : ∀ y ∈ l0_1, (Lit.int .i64 y).wf = true) (w1_0 : (Lit.int .i64 a1_0).wf = true) (w1_1 : (Lit.int .i64 a1_1).wf = true) (w1_2 : (Lit.int .i64 a1_2).wf = true) : ∃ k, laws_FnExactRuleOrder.f k a0_0 l0_1 a1_0 a1_1 a1_2 = some true := by
  refine Ev.rounds ?_
  unfold laws_FnExactRuleOrder.f
  by_cases hn : l0_1.length ≤ 1048576
  · have hs := ev_spec_RuleOrder a0_0 l0_1 a1_0 a1_1 a1_2 h0_1
    have hi := ev_impl_RuleOrder a0_0 l0_1 a1_0 a1_1 a1_2 h0_1
    simp only [laws_szFlow_le a0_0 l0_1 hn, Option.bind_some, laws_toRule_f]
    repeat first
      | exact Ev.now _
      | (refine Ev.bind ht ?_; try dsimp only)
      | (refine Ev.bind hs ?_; try dsimp only)
      | (refine Ev.bind hi ?_; try dsimp only)
      | (refine Ev.bind (ev_laws_toRule _ _ _ (by first | assumption | omega)) ?_; try dsimp only)
      | (refine Ev.bind (ev_laws_toIntS _ (by first | assumption | omega)) ?_; try dsimp only)
      | (refine Ev.bind (ev_laws_toFlow _ _ (by first | assumption | omega)) ?_; try dsimp only)
      | (refine Ev.bind (ev_laws_eqIntS_self _ (by omega)) ?_; try dsimp only)
      | (refine Ev.bind (ev_laws_eqFlow_self _ _ (by omega)) ?_; try dsimp only)
      | (refine ev_ite (fun h => absurd h (by omega)) (fun _ => ?_))
      | (refine ev_ite (fun _ => ?_) (fun h => absurd (by omega) h))
      | (simp only [bne_self_eq_false, Bool.false_eq_true, ↓reduceIte])
      | (refine ev_succ ?_; simp only [laws_FnExactRuleOrder.j0])
  · simp only [laws_szFlow_gt a0_0 l0_1 h0_1 (by omega), Option.bind_some]
    exact Ev.now _

end Go.Proofs.Ytjenbljkjmkbfaa.Pure
