/- The pure side of FnLeads: what the program's text computes and what the reference's text computes are the same value, for every argument. No condition. -/
import Derived.Test.YtfgclhojgaaepaaPFnLeadsx15
namespace Go.Proofs.Ytfgclhojgaaepaa.Pure
open Go.RowKit Go.Proofs.Ytfgclhojgaaepaa.PFnLeads Go.Proofs.YtfgclhojgaaepaaW.PrintWords Go.Proofs.YtfgclhojgaaepaaW.PrintLast
set_option linter.unusedVariables false
set_option linter.unusedSimpArgs false

theorem ev_succ {α : Type} {g : Nat → Option α} {r : α} (h : Ev (fun k => g (k + 1)) r) : Ev g r := Ev.step (fun _ => rfl) h
theorem ev_pure {α : Type} {x : Option α} {r : α} (h : x = some r) : Ev (fun _ => x) r := ⟨0, fun _ _ => h⟩
theorem ev_eq {α : Type} {g : Nat → Option α} {r r' : α} (h : Ev g r) (e : r = r') : Ev g r' := e ▸ h
theorem ev_ite {α : Type} {c : Prop} [Decidable c] {g f : Nat → Option α} {r : α} (h1 : c → Ev g r) (h2 : ¬ c → Ev f r) : Ev (fun k => if c then g k else f k) r := by
 by_cases h : c
 ·simp only [h, if_true]; exact h1 h
 ·simp only [h, if_false]; exact h2 h
theorem w64 {x : Int} (h : -9223372036854775808 ≤ x) (h' : x ≤ 9223372036854775807) : wrap64 x = x := by unfold wrap64; omega
theorem w64_zero : wrap64 0 = 0 := w64 (by omega) (by omega)
theorem w64_idem (x : Int) : wrap64 (wrap64 x) = wrap64 x := by unfold wrap64; omega
theorem w64_add_l (x y : Int) : wrap64 (wrap64 x + y) = wrap64 (x + y) := by unfold wrap64; omega
theorem w64_add_r (x y : Int) : wrap64 (x + wrap64 y) = wrap64 (x + y) := by unfold wrap64; omega
theorem w64_sub_l (x y : Int) : wrap64 (wrap64 x - y) = wrap64 (x - y) := by unfold wrap64; omega
theorem w64_sub_r (x y : Int) : wrap64 (x - wrap64 y) = wrap64 (x - y) := by unfold wrap64; omega
theorem w64_shift (x k : Int) : wrap64 (x + 18446744073709551616 * k) = wrap64 x := by unfold wrap64; omega
theorem w64_ex (x : Int) : ∃ k, wrap64 x = x + 18446744073709551616 * k := by
 unfold wrap64
 exact ⟨-((x + 9223372036854775808) / 18446744073709551616), by omega⟩
theorem w64_mul_l (x y : Int) : wrap64 (wrap64 x * y) = wrap64 (x * y) := by
 obtain ⟨k, hk⟩ := w64_ex x
 rw [hk, Int.add_mul, Int.mul_assoc, w64_shift]
theorem w64_mul_r (x y : Int) : wrap64 (x * wrap64 y) = wrap64 (x * y) := by
 rw [Int.mul_comm, w64_mul_l, Int.mul_comm]
theorem w64_neg (x : Int) : wrap64 (-wrap64 x) = wrap64 (-x) := by unfold wrap64; omega
theorem w64_range (x : Int) : -9223372036854775808 ≤ wrap64 x ∧ wrap64 x ≤ 9223372036854775807 := by unfold wrap64; omega
theorem w64_nat {i n : Nat} (h : i < n) (hn : n ≤ 9223372036854775807) : wrap64 ((i : Int) + 1) = ((i + 1 : Nat) : Int) := by rw [w64 (by omega) (by omega)]; rfl
theorem wf_range {x : Int} (h : (Lit.int .i64 x).wf = true) : -9223372036854775808 ≤ x ∧ x ≤ 9223372036854775807 := by
 simp [Lit.wf, IntKind.min, IntKind.max, IntKind.signed, IntKind.bits] at h
 omega
theorem rd_nat {l : List Int} {i : Nat} (h : i < l.length) : rd l (i : Int) = l[i] := by
 unfold rd
 simp [List.getD_eq_getElem?_getD, h]
def allB (l : List Int) (a b : Int) : Bool := l.all fun x => decide (a ≤ x ∧ x ≤ b)
def inB (x a b : Int) : Bool := decide (a ≤ x ∧ x ≤ b)
theorem allB_mem {l : List Int} {a b : Int} (h : allB l a b = true) : ∀ x ∈ l, a ≤ x ∧ x ≤ b := by
 intro x hx
 have := List.all_eq_true.1 h x hx
 simpa using this
theorem inB_iff {x a b : Int} : inB x a b = true ↔ a ≤ x ∧ x ≤ b := by unfold inB; simp
theorem sum_le {l : List Int} {b : Int} (hb : ∀ x ∈ l, x ≤ b) : l.sum ≤ l.length * b := by
 induction l with
 | nil => simp
 | cons x l ih =>
  have h1 := hb x (by simp)
  have h2 := ih (fun y hy => hb y (by simp [hy]))
  rw [List.sum_cons, List.length_cons]
  have : ((l.length + 1 : Nat) : Int) * b = l.length * b + b := by rw [Int.natCast_add, Int.add_mul]; simp
  rw [this]; omega
theorem le_sum {l : List Int} {b : Int} (hb : ∀ x ∈ l, b ≤ x) : l.length * b ≤ l.sum := by
 induction l with
 | nil => simp
 | cons x l ih =>
  have h1 := hb x (by simp)
  have h2 := ih (fun y hy => hb y (by simp [hy]))
  rw [List.sum_cons, List.length_cons]
  have : ((l.length + 1 : Nat) : Int) * b = l.length * b + b := by rw [Int.natCast_add, Int.add_mul]; simp
  rw [this]; omega
theorem drop_cons {α : Type} {l : List α} {i : Nat} (h : i < l.length) : l.drop i = l[i] :: l.drop (i + 1) := List.drop_eq_getElem_cons h
theorem ev_yes {α : Type} {c : Prop} [Decidable c] {g f : Nat → Option α} {r : α} (h : c) (hg : Ev g r) : Ev (fun k => if c then g k else f k) r := ev_ite (fun _ => hg) (fun hn => absurd h hn)
theorem ev_no {α : Type} {c : Prop} [Decidable c] {g f : Nat → Option α} {r : α} (h : ¬ c) (hf : Ev f r) : Ev (fun k => if c then g k else f k) r := ev_ite (fun hn => absurd hn h) (fun _ => hf)

theorem spec_l1In_f (a b c : Int) : spec_l1In.f a b c = some (inB a b c) := by
 unfold spec_l1In.f inB
 by_cases h : a ≥ b
 ·rw [if_pos h]; congr 1; rw [decide_eq_decide]; omega
 ·rw [if_neg h]; congr 1; symm; rw [decide_eq_false_iff_not]; omega

theorem ev_spec_l2Row_l0 (n b : Int) (l : List Int) (hl : l.length ≤ 9223372036854775807) (d : Nat) : ∀ i : Nat, i + d = l.length → Ev (fun k => spec_l2Row.l0 k l n b (i : Int)) (allB (l.drop i) 0 b && ((l.length : Int) == n)) := by
 induction d with
 | zero =>
  intro i hi
  refine ev_succ ?_
  have h1 : ¬ (i : Int) < (l.length : Int) := by omega
  simp only [spec_l2Row.l0, h1, ↓reduceIte]
  rw [List.drop_eq_nil_of_le (by omega)]
  exact Ev.now _
 | succ d ih =>
  intro i hi
  refine ev_succ ?_
  have h1 : (i : Int) < (l.length : Int) := by omega
  have h0 : (0 : Int) ≤ (i : Int) := by omega
  have hi' : i < l.length := by omega
  simp only [spec_l2Row.l0, h1, h0, ↓reduceIte, spec_l1In_f, Option.bind_some, rd_nat hi', w64_nat hi' hl]
  rw [drop_cons hi']
  show Ev _ ((inB l[i] 0 b && allB (l.drop (i + 1)) 0 b) && _)
  cases inB l[i] 0 b with
  | true => simpa using ih (i + 1) (by omega)
  | false => simpa using Ev.now false
theorem ev_spec_l2Row (l : List Int) (n b : Int) (hl : l.length ≤ 9223372036854775807) : Ev (fun k => spec_l2Row.f k l n b) (allB l 0 b && ((l.length : Int) == n)) := by
 unfold spec_l2Row.f
 simpa using ev_spec_l2Row_l0 n b l hl l.length 0 (by omega)

theorem ev_spec_l11Numbers (l : List Int) (n b : Int) (hl : l.length ≤ 9223372036854775807) : Ev (fun k => spec_l11Numbers.f k l n b) (decide ((l.length : Int) ≤ n) && allB l 0 b) := by
 unfold spec_l11Numbers.f
 refine ev_ite (fun h => ?_) (fun h => ?_)
 ·refine Ev.bind (ev_spec_l2Row l _ b hl) ?_
  refine ev_eq (Ev.now _) ?_
  simp [h]
 ·refine ev_eq (Ev.now _) ?_
  simp [h]

def flowB (a : Int) (l : List Int) : Bool := inB a (-200) 200 && (decide ((l.length : Int) ≤ 4) && allB l 0 40)
theorem flowB_mem {a : Int} {l : List Int} (h : flowB a l = true) : (-200 ≤ a ∧ a ≤ 200) ∧ l.length ≤ 4 ∧ ∀ x ∈ l, 0 ≤ x ∧ x ≤ 40 := by
 unfold flowB at h
 simp only [Bool.and_eq_true, decide_eq_true_eq] at h
 exact ⟨inB_iff.1 h.1, by omega, allB_mem h.2.2⟩

theorem ev_spec_l11Flow (a : Int) (l : List Int) (hl : l.length ≤ 9223372036854775807) : Ev (fun k => spec_l11Flow.f k a l) (flowB a l) := by
 unfold spec_l11Flow.f flowB
 simp only [spec_l1In_f, Option.bind_some]
 refine ev_ite (fun h => ?_) (fun h => ?_)
 ·refine Ev.bind (ev_spec_l11Numbers l 4 40 hl) ?_
  refine ev_eq (Ev.now _) ?_
  simp [h]
 ·refine ev_eq (Ev.now _) ?_
  simp [h]

theorem ev_spec_l2Sum_l0 (l : List Int) (hl : l.length ≤ 9223372036854775807) (d : Nat) : ∀ (i : Nat) (s : Int), i + d = l.length → wrap64 s = s → Ev (fun k => spec_l2Sum.l0 k l s (i : Int)) (wrap64 (s + (l.drop i).sum)) := by
 induction d with
 | zero =>
  intro i s hi hs
  refine ev_succ ?_
  have h1 : ¬ (i : Int) < (l.length : Int) := by omega
  simp only [spec_l2Sum.l0, h1, ↓reduceIte]
  rw [List.drop_eq_nil_of_le (by omega)]
  simp only [List.sum_nil, Int.add_zero, hs]
  exact Ev.now _
 | succ d ih =>
  intro i s hi hs
  refine ev_succ ?_
  have h1 : (i : Int) < (l.length : Int) := by omega
  have h0 : (0 : Int) ≤ (i : Int) := by omega
  have hi' : i < l.length := by omega
  simp only [spec_l2Sum.l0, h1, h0, ↓reduceIte, rd_nat hi', w64_nat hi' hl]
  refine ev_eq (ih (i + 1) _ (by omega) (w64_idem _)) ?_
  rw [drop_cons hi', List.sum_cons, w64_add_l, Int.add_assoc]
theorem ev_spec_l2Sum (l : List Int) (hl : l.length ≤ 9223372036854775807) : Ev (fun k => spec_l2Sum.f k l) (wrap64 l.sum) := by
 unfold spec_l2Sum.f
 simpa using ev_spec_l2Sum_l0 l hl l.length 0 0 (by omega) w64_zero

theorem ev_spec_l11Position (a : Int) (l : List Int) (hl : l.length ≤ 9223372036854775807) : Ev (fun k => spec_l11Position.f k a l) (wrap64 (a + wrap64 l.sum)) := by
 unfold spec_l11Position.f
 refine Ev.bind (ev_spec_l2Sum l hl) ?_
 exact Ev.now _

def ruleB (k lo hi : Int) : Bool := inB lo (-200) 200 && (inB hi (-200) 200 && (decide (k = 1) || (decide (k = 2) && decide (lo ≤ hi)) || (decide (k = 3) && inB hi 1 40)))

theorem ev_spec_l11Rule_j0 (b : Bool) (k lo hi : Int) : Ev (fun n => spec_l11Rule.j0 n b k lo hi) (!b && (decide (k = 1) || (decide (k = 2) && decide (lo ≤ hi)) || (decide (k = 3) && inB hi 1 40))) := by
 refine ev_succ ?_
 simp only [spec_l11Rule.j0, spec_l1In_f, Option.bind_some]
 cases b with
 | true => exact ev_eq (Ev.now _) (by simp)
 | false =>
  by_cases h1 : k = 1
  ·simp only [h1]; exact ev_eq (Ev.now _) (by simp)
  ·by_cases h2 : k = 2
   ·simp only [h2]; exact ev_eq (Ev.now _) (by simp)
   ·by_cases h3 : k = 3
    ·simp only [h3]; exact ev_eq (Ev.now _) (by simp)
    ·simp only [h1, h2, h3, if_false, Bool.false_eq_true]; exact ev_eq (Ev.now _) (by simp)
theorem ev_spec_l11Rule (k lo hi : Int) : Ev (fun n => spec_l11Rule.f n k lo hi) (ruleB k lo hi) := by
 unfold spec_l11Rule.f ruleB
 simp only [spec_l1In_f, Option.bind_some]
 refine ev_ite (fun h => ?_) (fun h => ?_)
 ·exact ev_eq (ev_spec_l11Rule_j0 _ _ _ _) (by simp [h])
 ·exact ev_eq (ev_spec_l11Rule_j0 _ _ _ _) (by simp [h])

theorem spec_l1Most_f (a b : Int) : spec_l1Most.f a b = some (mx b a) := by
 unfold spec_l1Most.f mx
 by_cases h : a > b
 ·rw [if_pos h, if_pos (by omega)]
 ·rw [if_neg h, if_neg (by omega)]

def lots (lo hi p : Int) : Nat → Int → Int
 | 0, n => n
 | d + 1, n => if p + n < lo then lots lo hi p d (n + hi) else n
def ordV (k lo hi p : Int) : Int := if k = 1 then mx 0 (hi - p) else if k = 2 then (if p < lo then hi - p else 0) else lots lo hi p 100000 0
theorem ruleB_mem {k lo hi : Int} (h : ruleB k lo hi = true) : (-200 ≤ lo ∧ lo ≤ 200) ∧ (-200 ≤ hi ∧ hi ≤ 200) ∧ (k = 1 ∨ (k = 2 ∧ lo ≤ hi) ∨ (k = 3 ∧ 1 ≤ hi ∧ hi ≤ 40)) := by
 unfold ruleB at h
 simp only [Bool.and_eq_true, Bool.or_eq_true, decide_eq_true_eq, inB_iff] at h
 omega
theorem lots_nonneg {lo hi p : Int} (hh : 0 ≤ hi) (d : Nat) : ∀ n : Int, 0 ≤ n → 0 ≤ lots lo hi p d n := by
 induction d with
 | zero => intro n hn; exact hn
 | succ d ih =>
  intro n hn
  unfold lots
  split
  ·exact ih (n + hi) (by omega)
  ·exact hn
theorem ordV_nonneg {k lo hi p : Int} (h : ruleB k lo hi = true) : 0 ≤ ordV k lo hi p := by
 have hm := ruleB_mem h
 unfold ordV
 split
 ·unfold mx; omega
 ·split
  ·split <;> omega
  ·exact lots_nonneg (by omega) _ _ (by omega)

theorem ev_spec_l11Order_l0 (k lo hi p : Int) (hh : 1 ≤ hi ∧ hi ≤ 40) (hlo : -200 ≤ lo ∧ lo ≤ 200) (hp : -10000 ≤ p ∧ p ≤ 10000) (d : Nat) : ∀ n : Int, 0 ≤ n → n ≤ 20000 → lo - (p + n) ≤ d → Ev (fun j => spec_l11Order.l0 j p n k lo hi) (lots lo hi p d n) := by
 induction d with
 | zero =>
  intro n h0 h1 hd
  refine ev_succ ?_
  have e : wrap64 (p + n) = p + n := w64 (by omega) (by omega)
  have h2 : ¬ p + n < lo := by omega
  simp only [spec_l11Order.l0, e, h2, ↓reduceIte]
  exact Ev.now _
 | succ d ih =>
  intro n h0 h1 hd
  refine ev_succ ?_
  have e : wrap64 (p + n) = p + n := w64 (by omega) (by omega)
  have e2 : wrap64 (n + hi) = n + hi := w64 (by omega) (by omega)
  simp only [spec_l11Order.l0, e, e2]
  unfold lots
  refine ev_ite (fun h => ?_) (fun h => ?_)
  ·rw [if_pos h]
   exact ih (n + hi) (by omega) (by omega) (by omega)
  ·rw [if_neg h]
   exact Ev.now _
theorem ev_spec_l11Order (k lo hi p : Int) (hr : ruleB k lo hi = true) (hp : -10000 ≤ p ∧ p ≤ 10000) : Ev (fun j => spec_l11Order.f j k lo hi p) (ordV k lo hi p) := by
 have hm := ruleB_mem hr
 have e : wrap64 (hi - p) = hi - p := w64 (by omega) (by omega)
 unfold spec_l11Order.f ordV
 simp only [e, spec_l1Most_f, Option.bind_some]
 refine ev_ite (fun h => ?_) (fun h => ?_)
 ·rw [if_pos h]; exact Ev.now _
 ·rw [if_neg h]
  refine ev_ite (fun h2 => ?_) (fun h2 => ?_)
  ·rw [if_pos h2]
   refine ev_ite (fun h3 => ?_) (fun h3 => ?_)
   ·rw [if_pos h3]; exact Ev.now _
   ·rw [if_neg h3]; exact Ev.now _
  ·rw [if_neg h2]
   exact ev_spec_l11Order_l0 k lo hi p (by omega) hm.1 hp 100000 0 (by omega) (by omega) (by omega)

def posV (a : Int) (l : List Int) : Int × Bool := if flowB a l = true then (wrap64 (a + wrap64 l.sum), true) else (0, false)

theorem pos_range {a : Int} {l : List Int} (h : flowB a l = true) : wrap64 (a + wrap64 l.sum) = a + l.sum ∧ -200 ≤ a + l.sum ∧ a + l.sum ≤ 360 ∧ 0 ≤ l.sum ∧ l.sum ≤ 160 := by
 have hm := flowB_mem h
 have s1 := sum_le (b := 40) (fun y hy => (hm.2.2 y hy).2)
 have s2 := le_sum (b := 0) (fun y hy => (hm.2.2 y hy).1)
 have e : wrap64 l.sum = l.sum := w64 (by omega) (by omega)
 rw [e, w64 (by omega) (by omega)]
 omega
def ruleOrderV (a : Int) (l : List Int) (k lo hi : Int) : Int × Bool :=
 if (flowB a l && ruleB k lo hi) = true then (if ordV k lo hi (a + l.sum) > 40 then (0, false) else (ordV k lo hi (a + l.sum), true)) else (0, false)

theorem ev_spec_RuleOrder_no (a : Int) (l : List Int) (k lo hi : Int) : Ev (fun j => spec_RuleOrder.j0 j true a l k lo hi) (0, false) := by
 refine ev_succ ?_
 simp only [spec_RuleOrder.j0, ↓reduceIte]
 exact Ev.now _
theorem ev_spec_RuleOrder (a : Int) (l : List Int) (k lo hi : Int) (hl : l.length ≤ 9223372036854775807) : Ev (fun j => spec_RuleOrder.f j a l k lo hi) (ruleOrderV a l k lo hi) := by
 unfold spec_RuleOrder.f ruleOrderV
 refine Ev.bind (ev_spec_l11Flow a l hl) ?_
 refine ev_ite (fun h => ?_) (fun h => ?_)
 ·refine Ev.bind (ev_spec_l11Rule k lo hi) ?_
  cases hr : ruleB k lo hi with
  | false => exact ev_eq (ev_spec_RuleOrder_no a l k lo hi) (by simp)
  | true =>
   have hp := pos_range h
   refine ev_succ ?_
   simp only [spec_RuleOrder.j0, Bool.not_true, Bool.false_eq_true, ↓reduceIte]
   refine Ev.bind (ev_spec_l11Position a l hl) ?_
   rw [hp.1]
   refine Ev.bind (ev_spec_l11Order k lo hi _ hr (by omega)) ?_
   have e : (flowB a l && true) = true := by rw [h]; rfl
   rw [if_pos e]
   refine ev_ite (fun h2 => ?_) (fun h2 => ?_)
   ·rw [if_pos h2]; exact Ev.now _
   ·rw [if_neg h2]; exact Ev.now _
 ·exact ev_eq (ev_spec_RuleOrder_no a l k lo hi) (by simp [h])

theorem spec_l1Own_f (l : List Int) (hl : l.length ≤ 1000000000) : spec_l1Own.f l = some l := by
 unfold spec_l1Own.f
 simp only [Option.bind_some, List.length_nil, List.nil_append]
 rw [if_pos (by omega)]

def dayStock (a : Int) (l : List Int) (o q : Int) : Int := wrap64 (wrap64 (a + rd (l ++ [o]) 0) - q)
def dayUnder (l : List Int) (o : Int) : List Int := (l ++ [o]).drop 1
def dayBefore (a : Int) (l : List Int) (o : Int) : Int := wrap64 (a + rd (l ++ [o]) 0)
theorem dayUnder_length (l : List Int) (o : Int) : (dayUnder l o).length = l.length := by simp [dayUnder]
def dayV (a : Int) (l : List Int) (o q : Int) : Int × List Int × Bool :=
 if (flowB a l && (inB o 0 40 && inB q 0 20) && flowB (dayStock a l o q) (dayUnder l o)) = true then (dayStock a l o q, dayUnder l o, true) else (0, [], false)
theorem dayV_length {a : Int} {l : List Int} {o q : Int} (hl : l.length ≤ 9223372036854775807) : (dayV a l o q).2.1.length ≤ 4 := by
 unfold dayV
 split
 ·rename_i h
  simp only [Bool.and_eq_true] at h
  have := flowB_mem h.2
  exact this.2.1
 ·simp

theorem spec_l11Day_f (a : Int) (l : List Int) (o q : Int) (hl : l.length ≤ 100000000) : spec_l11Day.f a l o q = some (dayStock a l o q, dayUnder l o, dayBefore a l o) := by
 unfold spec_l11Day.f
 have h1 : (0 : Int) < ((l ++ [o]).length : Int) := by rw [List.length_append]; simp only [List.length_cons, List.length_nil]; omega
 have h2 : (1 : Int) ≤ ((l ++ [o]).length : Int) := by rw [List.length_append]; simp only [List.length_cons, List.length_nil]; omega
 have h3 : l.length < 17592186044416 := by omega
 simp only [spec_l1Own_f l (by omega), Option.bind_some, h1, h2, h3, ↓reduceIte]
 rw [spec_l1Own_f _ (by simp; omega), Option.bind_some]
 rfl

theorem spec_l1Least_f (a b : Int) : spec_l1Least.f a b = some (mn a b) := by
 unfold spec_l1Least.f mn
 by_cases h : a < b
 ·rw [if_pos h, if_neg (by omega)]
 ·by_cases h2 : b < a
  ·rw [if_neg h, if_pos h2]
  ·rw [if_neg h, if_neg h2]; congr 1; omega

def rOrd (k lo hi s : Int) (U : List Int) : Int := ordV k lo hi (s + U.sum)
def rOk (k lo hi : Int) (Q : List Int) (i : Nat) (s : Int) (U : List Int) : Bool := (inB (rOrd k lo hi s U) 0 40 && inB (rd Q (i : Int)) 0 20) && flowB (dayStock s U (rOrd k lo hi s U) (rd Q (i : Int))) (dayUnder U (rOrd k lo hi s U))
def rFrom (k lo hi : Int) (Q : List Int) : Nat → Nat → List Int → List Int → Int → Int → List Int → List Int × List Int × Int × Bool
 | 0, _, o, t, v, _, _ => (o, t, v, true)
 | d + 1, i, o, t, v, s, U => if rOk k lo hi Q i s U = true then rFrom k lo hi Q d (i + 1) (o ++ [rOrd k lo hi s U]) (t ++ [dayStock s U (rOrd k lo hi s U) (rd Q (i : Int))]) (wrap64 (v + mx 0 (mn (rd Q (i : Int)) (dayBefore s U (rOrd k lo hi s U))))) (dayStock s U (rOrd k lo hi s U) (rd Q (i : Int))) (dayUnder U (rOrd k lo hi s U)) else ([], [], 0, false)
def rRunV (a : Int) (l : List Int) (k lo hi : Int) (Q : List Int) : List Int × List Int × Int × Bool :=
 if (flowB a l && (ruleB k lo hi && decide ((Q.length : Int) ≤ 20))) = true then rFrom k lo hi Q Q.length 0 [] [] 0 a l else ([], [], 0, false)
theorem rFrom_bad (k lo hi : Int) (Q : List Int) (d : Nat) : ∀ (i : Nat) (o t : List Int) (v s : Int) (U : List Int), rFrom k lo hi Q d i o t v s U = ([], [], 0, false) ∨ ∀ j, i ≤ j → j < i + d → inB (rd Q (j : Int)) 0 20 = true := by
 induction d with
 | zero => intro i o t v s U; exact Or.inr (fun j h1 h2 => by omega)
 | succ d ih =>
  intro i o t v s U
  rw [rFrom]
  by_cases h : rOk k lo hi Q i s U = true
  ·rw [if_pos h]
   rcases ih (i + 1) (o ++ [rOrd k lo hi s U]) (t ++ [dayStock s U (rOrd k lo hi s U) (rd Q (i : Int))]) (wrap64 (v + mx 0 (mn (rd Q (i : Int)) (dayBefore s U (rOrd k lo hi s U))))) (dayStock s U (rOrd k lo hi s U) (rd Q (i : Int))) (dayUnder U (rOrd k lo hi s U)) with h2 | h2
   ·exact Or.inl h2
   ·refine Or.inr (fun j h3 h4 => ?_)
    by_cases he : j = i
    ·subst he
     unfold rOk at h
     simp only [Bool.and_eq_true] at h
     exact h.1.2
    ·exact h2 j (by omega) (by omega)
  ·rw [if_neg h]; exact Or.inl rfl
theorem rFrom_length (k lo hi : Int) (Q : List Int) (d : Nat) : ∀ (i : Nat) (o t : List Int) (v s : Int) (U : List Int), (rFrom k lo hi Q d i o t v s U).1.length ≤ o.length + d ∧ (rFrom k lo hi Q d i o t v s U).2.1.length ≤ t.length + d := by
 induction d with
 | zero => intro i o t v s U; simp [rFrom]
 | succ d ih =>
  intro i o t v s U
  rw [rFrom]
  split
  ·have := ih (i + 1) (o ++ [rOrd k lo hi s U]) (t ++ [dayStock s U (rOrd k lo hi s U) (rd Q (i : Int))]) (wrap64 (v + mx 0 (mn (rd Q (i : Int)) (dayBefore s U (rOrd k lo hi s U))))) (dayStock s U (rOrd k lo hi s U) (rd Q (i : Int))) (dayUnder U (rOrd k lo hi s U))
   simp only [List.length_append, List.length_singleton] at this
   omega
  ·simp
theorem rRunV_length (a : Int) (l : List Int) (k lo hi : Int) (Q : List Int) : (rRunV a l k lo hi Q).1.length ≤ 20 ∧ (rRunV a l k lo hi Q).2.1.length ≤ 20 := by
 unfold rRunV
 by_cases h : (flowB a l && (ruleB k lo hi && decide ((Q.length : Int) ≤ 20))) = true
 ·rw [if_pos h]
  simp only [Bool.and_eq_true, decide_eq_true_eq] at h
  have := rFrom_length k lo hi Q Q.length 0 [] [] 0 a l
  simp only [List.length_nil, Nat.zero_add] at this
  omega
 ·rw [if_neg h]; simp
theorem rRunV_spec (a : Int) (l : List Int) (k lo hi : Int) (Q : List Int) (hq : allB Q 0 20 = false) : rRunV a l k lo hi Q = ([], [], 0, false) := by
 unfold rRunV
 split
 ·rcases rFrom_bad k lo hi Q Q.length 0 [] [] 0 a l with h | h
  ·exact h
  ·exfalso
   have : allB Q 0 20 = true := by
    unfold allB
    rw [List.all_eq_true]
    intro x hx
    obtain ⟨i, hi, rfl⟩ := List.getElem_of_mem hx
    have h2 := h i (by omega) (by omega)
    rw [rd_nat hi] at h2
    exact h2
   rw [hq] at this
   exact absurd this (by simp)
 ·rfl

theorem ev_spec_l11Run_l0 (k lo hi : Int) (hr : ruleB k lo hi = true) (Q : List Int) (hQ : Q.length ≤ 20) (hq : allB Q 0 20 = true) (d : Nat) : ∀ (i : Nat) (o t : List Int) (v s : Int) (U : List Int), i + d = Q.length → o.length ≤ i → t.length ≤ i → flowB s U = true → Ev (fun j => spec_l11Run.l0 j Q (i : Int) k lo hi o t v s U) (rFrom k lo hi Q d i o t v s U) := by
 induction d with
 | zero =>
  intro i o t v s U hid ho ht hf
  refine ev_succ ?_
  have h1 : ¬ (i : Int) < (Q.length : Int) := by omega
  simp only [spec_l11Run.l0, h1, ↓reduceIte, rFrom]
  exact Ev.now _
 | succ d ih =>
  intro i o t v s U hid ho ht hf
  have hm := flowB_mem hf
  refine ev_succ ?_
  have h1 : (i : Int) < (Q.length : Int) := by omega
  have h0 : (0 : Int) ≤ (i : Int) := by omega
  have h3 : o.length < 17592186044416 := by omega
  have h4 : t.length < 17592186044416 := by omega
  have hi' : i < Q.length := by omega
  have hin : inB (rd Q (i : Int)) 0 20 = true := by
   rw [rd_nat hi']
   exact inB_iff.2 (allB_mem hq _ (List.getElem_mem hi'))
  have hnn : 0 ≤ rOrd k lo hi s U := ordV_nonneg hr
  simp only [spec_l11Run.l0, h1, h0, h3, h4, ↓reduceIte, w64_nat hi' (by omega : Q.length ≤ 9223372036854775807)]
  refine Ev.bind (ev_spec_RuleOrder s U k lo hi (by omega)) ?_
  have e : ruleOrderV s U k lo hi = if rOrd k lo hi s U > 40 then (0, false) else (rOrd k lo hi s U, true) := by
   unfold ruleOrderV
   rw [if_pos (by rw [hf, hr]; rfl)]
   rfl
  rw [e, rFrom]
  by_cases hg : rOrd k lo hi s U > 40
  ·have hno : rOk k lo hi Q i s U = false := by
    have : inB (rOrd k lo hi s U) 0 40 = false := by
     rw [Bool.eq_false_iff]; intro h; have := inB_iff.1 h; omega
    unfold rOk
    rw [this]; rfl
   simp only [hg, hno, if_true, Bool.false_eq_true, ↓reduceIte]
   exact Ev.now _
  ·simp only [hg, ↓reduceIte, spec_l11Day_f s U _ _ (by omega : U.length ≤ 100000000), Option.bind_some, spec_l1Least_f, spec_l1Most_f]
   refine Ev.bind (ev_spec_l11Flow _ _ (by rw [dayUnder_length]; omega)) ?_
   have hk : rOk k lo hi Q i s U = flowB (dayStock s U (rOrd k lo hi s U) (rd Q (i : Int))) (dayUnder U (rOrd k lo hi s U)) := by
    have : inB (rOrd k lo hi s U) 0 40 = true := inB_iff.2 (by omega)
    unfold rOk
    rw [this, hin]; rfl
   rw [hk]
   refine ev_ite (fun h5 => ?_) (fun h5 => ?_)
   ·rw [if_pos h5]
    exact ih (i + 1) _ _ _ _ _ (by omega) (by simp; omega) (by simp; omega) h5
   ·rw [if_neg h5]
    exact Ev.now _
theorem ev_spec_l11Run_no (a : Int) (l : List Int) (k lo hi : Int) (Q : List Int) : Ev (fun j => spec_l11Run.j0 j Q true a l k lo hi [] [] 0) ([], [], 0, false) := by
 refine ev_succ ?_
 simp only [spec_l11Run.j0, ↓reduceIte]
 exact Ev.now _
theorem ev_spec_l11Run (a : Int) (l : List Int) (k lo hi : Int) (Q : List Int) (hl : l.length ≤ 9223372036854775807) (hQ : Q.length ≤ 9223372036854775807) : Ev (fun j => spec_l11Run.f j a l k lo hi Q) (rRunV a l k lo hi Q) := by
 unfold spec_l11Run.f
 simp only [Option.bind_some]
 refine Ev.bind (ev_spec_l11Flow a l hl) ?_
 refine ev_ite (fun h1 => ?_) (fun h1 => ?_)
 ·refine Ev.bind (ev_spec_l11Rule k lo hi) ?_
  refine ev_ite (fun h2 => ?_) (fun h2 => ?_)
  ·refine Ev.bind (ev_spec_l11Numbers Q 20 20 hQ) ?_
   by_cases h3 : (Q.length : Int) ≤ 20
   ·rw [decide_eq_true h3, Bool.true_and]
    cases h4 : allB Q 0 20 with
    | false => rw [rRunV_spec a l k lo hi Q h4]; exact ev_spec_l11Run_no a l k lo hi Q
    | true =>
     unfold rRunV
     rw [if_pos (by simp [h1, h2, h3])]
     refine ev_succ ?_
     simp only [spec_l11Run.j0, Bool.not_true, Bool.false_eq_true, ↓reduceIte]
     exact ev_spec_l11Run_l0 k lo hi h2 Q (by omega) h4 Q.length 0 [] [] 0 a l (by omega) (by simp) (by simp) h1
   ·rw [decide_eq_false h3, Bool.false_and]
    refine ev_eq (ev_spec_l11Run_no a l k lo hi Q) ?_
    unfold rRunV
    rw [if_neg (by simp [h3])]
  ·refine ev_eq (ev_spec_l11Run_no a l k lo hi Q) ?_
   unfold rRunV
   rw [if_neg (by simp [h2])]
 ·refine ev_eq (ev_spec_l11Run_no a l k lo hi Q) ?_
  unfold rRunV
  rw [if_neg (by simp [h1])]

def serviceV (a : Int) (l : List Int) (k lo hi : Int) (Q : List Int) : Int × Int × Bool := if (rRunV a l k lo hi Q).2.2.2 = true then ((rRunV a l k lo hi Q).2.2.1, wrap64 Q.sum, true) else (0, 0, false)

theorem ev_spec_ServiceOf (a : Int) (l : List Int) (k lo hi : Int) (Q : List Int) (hl : l.length ≤ 9223372036854775807) (hQ : Q.length ≤ 9223372036854775807) : Ev (fun j => spec_ServiceOf.f j a l k lo hi Q) (serviceV a l k lo hi Q) := by
 unfold spec_ServiceOf.f serviceV
 refine Ev.bind (ev_spec_l11Run a l k lo hi Q hl hQ) ?_
 refine ev_ite (fun h => ?_) (fun h => ?_)
 ·rw [if_pos h]
  exact Ev.bind (ev_spec_l2Sum Q hQ) (Ev.now _)
 ·rw [if_neg h]
  exact Ev.now _

theorem impl_within_f (a b c : Int) : impl_within.f a b c = some (inB a b c) := by
 unfold impl_within.f inB
 by_cases h : a ≥ b
 ·rw [if_pos h]; congr 1; rw [decide_eq_decide]; omega
 ·rw [if_neg h]; congr 1; symm; rw [decide_eq_false_iff_not]; omega

theorem impl_isStock_f (a : Int) : impl_isStock.f a = some (inB a (-200) 200) := by
 unfold impl_isStock.f
 rw [impl_within_f, Option.bind_some]

theorem ev_impl_allWithin_l0 (a b : Int) (l : List Int) (hl : l.length ≤ 9223372036854775807) (d : Nat) : ∀ i : Nat, i + d = l.length → Ev (fun k => impl_allWithin.l0 k a b l (l.length : Int) (i : Int)) (allB (l.drop i) a b) := by
 induction d with
 | zero =>
  intro i hi
  refine ev_succ ?_
  have h1 : ¬ (i : Int) < (l.length : Int) := by omega
  simp only [impl_allWithin.l0, h1, ↓reduceIte]
  rw [List.drop_eq_nil_of_le (by omega)]
  exact Ev.now _
 | succ d ih =>
  intro i hi
  refine ev_succ ?_
  have h1 : (i : Int) < (l.length : Int) := by omega
  have h0 : (0 : Int) ≤ (i : Int) := by omega
  have hi' : i < l.length := by omega
  simp only [impl_allWithin.l0, h1, h0, ↓reduceIte, impl_within_f, Option.bind_some, rd_nat hi', w64_nat hi' hl]
  rw [drop_cons hi']
  show Ev _ (inB l[i] a b && allB (l.drop (i + 1)) a b)
  cases inB l[i] a b with
  | true => simpa using ih (i + 1) (by omega)
  | false => simpa using Ev.now false
theorem ev_impl_allWithin (l : List Int) (a b : Int) (hl : l.length ≤ 9223372036854775807) : Ev (fun k => impl_allWithin.f k l a b) (allB l a b) := by
 unfold impl_allWithin.f
 simpa using ev_impl_allWithin_l0 a b l hl l.length 0 (by omega)

theorem ev_impl_IsFlow (a : Int) (l : List Int) (hl : l.length ≤ 9223372036854775807) : Ev (fun k => impl_IsFlow.f k a l) (flowB a l) := by
 unfold impl_IsFlow.f flowB
 simp only [impl_isStock_f, Option.bind_some]
 refine ev_ite (fun h => ?_) (fun h => ?_)
 ·refine ev_ite (fun h2 => ?_) (fun h2 => ?_)
  ·refine Ev.bind (ev_impl_allWithin l 0 40 hl) ?_
   refine ev_eq (Ev.now _) ?_
   simp [h, h2]
  ·refine ev_eq (Ev.now _) ?_
   simp [h, h2]
 ·refine ev_eq (Ev.now _) ?_
  simp [h]

theorem ev_impl_IsRule_j0 (b : Bool) (k lo hi : Int) : Ev (fun n => impl_IsRule.j0 n b k lo hi) (!b && (decide (k = 1) || (decide (k = 2) && decide (lo ≤ hi)) || (decide (k = 3) && inB hi 1 40))) := by
 refine ev_succ ?_
 simp only [impl_IsRule.j0, impl_within_f, impl_isStock_f, Option.bind_some]
 cases b with
 | true => exact ev_eq (Ev.now _) (by simp)
 | false =>
  by_cases h1 : k = 1
  ·simp only [h1]; exact ev_eq (Ev.now _) (by simp)
  ·by_cases h2 : k = 2
   ·simp only [h2]; exact ev_eq (Ev.now _) (by simp)
   ·by_cases h3 : k = 3
    ·simp only [h3]; exact ev_eq (Ev.now _) (by simp)
    ·simp only [h1, h2, h3, if_false, Bool.false_eq_true]; exact ev_eq (Ev.now _) (by simp)
theorem ev_impl_IsRule (k lo hi : Int) : Ev (fun n => impl_IsRule.f n k lo hi) (ruleB k lo hi) := by
 unfold impl_IsRule.f ruleB
 simp only [impl_within_f, impl_isStock_f, Option.bind_some]
 refine ev_ite (fun h => ?_) (fun h => ?_)
 ·exact ev_eq (ev_impl_IsRule_j0 _ _ _ _) (by simp [h])
 ·exact ev_eq (ev_impl_IsRule_j0 _ _ _ _) (by simp [h])

theorem ev_impl_total_l0 (l : List Int) (hl : l.length ≤ 9223372036854775807) (d : Nat) : ∀ (i : Nat) (s : Int), i + d = l.length → wrap64 s = s → Ev (fun k => impl_total.l0 k s l (l.length : Int) (i : Int)) (wrap64 (s + (l.drop i).sum)) := by
 induction d with
 | zero =>
  intro i s hi hs
  refine ev_succ ?_
  have h1 : ¬ (i : Int) < (l.length : Int) := by omega
  simp only [impl_total.l0, h1, ↓reduceIte]
  rw [List.drop_eq_nil_of_le (by omega)]
  simp only [List.sum_nil, Int.add_zero, hs]
  exact Ev.now _
 | succ d ih =>
  intro i s hi hs
  refine ev_succ ?_
  have h1 : (i : Int) < (l.length : Int) := by omega
  have h0 : (0 : Int) ≤ (i : Int) := by omega
  have hi' : i < l.length := by omega
  simp only [impl_total.l0, h1, h0, ↓reduceIte, rd_nat hi', w64_nat hi' hl]
  refine ev_eq (ih (i + 1) _ (by omega) (w64_idem _)) ?_
  rw [drop_cons hi', List.sum_cons, w64_add_l, Int.add_assoc]
theorem ev_impl_total (l : List Int) (hl : l.length ≤ 9223372036854775807) : Ev (fun k => impl_total.f k l) (wrap64 l.sum) := by
 unfold impl_total.f
 simpa using ev_impl_total_l0 l hl l.length 0 0 (by omega) w64_zero

theorem impl_copied_f (l : List Int) (hl : l.length ≤ 1000000000) : impl_copied.f l = some l := by
 unfold impl_copied.f
 simp only [Option.bind_some, List.length_nil, List.nil_append]
 rw [if_pos (by omega)]

theorem ev_impl_Flow_day_no (a : Int) (l : List Int) (o q : Int) : Ev (fun k => impl_Flow_day.j0 k o q true a l) (0, [], 0, false) := by
 refine ev_succ ?_
 simp only [impl_Flow_day.j0, ↓reduceIte]
 exact Ev.now _
def fdayV (a : Int) (l : List Int) (o q : Int) : Int × List Int × Int × Bool :=
 if (inB o 0 40 && inB q 0 20) = true then (dayStock a l o q, dayUnder l o, mx 0 (mn q (dayBefore a l o)), flowB (dayStock a l o q) (dayUnder l o)) else (0, [], 0, false)
theorem ev_impl_Flow_day (a : Int) (l : List Int) (o q : Int) (hl : l.length ≤ 100000000) : Ev (fun k => impl_Flow_day.f k a l o q) (fdayV a l o q) := by
 unfold impl_Flow_day.f fdayV
 simp only [impl_within_f, Option.bind_some]
 cases h2 : inB o 0 40 with
 | false => exact ev_eq (ev_impl_Flow_day_no a l o q) (by simp)
 | true =>
  cases h3 : inB q 0 20 with
  | false => exact ev_eq (ev_impl_Flow_day_no a l o q) (by simp)
  | true =>
   simp only [Bool.not_true, Bool.false_eq_true, ↓reduceIte]
   refine ev_succ ?_
   have h1 : (0 : Int) < ((l ++ [o]).length : Int) := by rw [List.length_append]; simp only [List.length_cons, List.length_nil]; omega
   have h4 : (1 : Int) ≤ ((l ++ [o]).length : Int) := by rw [List.length_append]; simp only [List.length_cons, List.length_nil]; omega
   have h5 : l.length < 17592186044416 := by omega
   simp only [impl_Flow_day.j0, Bool.false_eq_true, ↓reduceIte, impl_copied_f l (by omega), Option.bind_some, h1, h4, h5]
   refine Ev.bind (ev_impl_IsFlow _ _ (by simp; omega)) ?_
   exact Ev.now _

theorem ev_impl_Rule_order_l0 (k lo hi p : Int) (hh : 1 ≤ hi ∧ hi ≤ 40) (hlo : -200 ≤ lo ∧ lo ≤ 200) (hp : -10000 ≤ p ∧ p ≤ 10000) (d : Nat) : ∀ n : Int, 0 ≤ n → n ≤ 20000 → lo - (p + n) ≤ d → Ev (fun j => impl_Rule_order.l0 j p n k lo hi) (lots lo hi p d n) := by
 induction d with
 | zero =>
  intro n h0 h1 hd
  refine ev_succ ?_
  have e : wrap64 (p + n) = p + n := w64 (by omega) (by omega)
  have h2 : ¬ p + n < lo := by omega
  simp only [impl_Rule_order.l0, e, h2, ↓reduceIte]
  exact Ev.now _
 | succ d ih =>
  intro n h0 h1 hd
  refine ev_succ ?_
  have e : wrap64 (p + n) = p + n := w64 (by omega) (by omega)
  have e2 : wrap64 (n + hi) = n + hi := w64 (by omega) (by omega)
  simp only [impl_Rule_order.l0, e, e2]
  unfold lots
  refine ev_ite (fun h => ?_) (fun h => ?_)
  ·rw [if_pos h]
   exact ih (n + hi) (by omega) (by omega) (by omega)
  ·rw [if_neg h]
   exact Ev.now _
theorem ev_impl_Rule_order (k lo hi p : Int) (hr : ruleB k lo hi = true) (hp : -10000 ≤ p ∧ p ≤ 10000) : Ev (fun j => impl_Rule_order.f j k lo hi p) (ordV k lo hi p) := by
 have hm := ruleB_mem hr
 have e : wrap64 (hi - p) = hi - p := w64 (by omega) (by omega)
 unfold impl_Rule_order.f ordV
 simp only [e]
 refine ev_ite (fun h => ?_) (fun h => ?_)
 ·rw [if_pos h]; exact Ev.now _
 ·rw [if_neg h]
  refine ev_ite (fun h2 => ?_) (fun h2 => ?_)
  ·rw [if_pos h2]
   refine ev_ite (fun h3 => ?_) (fun h3 => ?_)
   ·rw [if_pos h3]; exact Ev.now _
   ·rw [if_neg h3]; exact Ev.now _
  ·rw [if_neg h2]
   exact ev_impl_Rule_order_l0 k lo hi p (by omega) hm.1 hp 100000 0 (by omega) (by omega) (by omega)

theorem ev_impl_runRule_l0 (k lo hi : Int) (hr : ruleB k lo hi = true) (Q : List Int) (hQ : Q.length ≤ 20) (d : Nat) : ∀ (i : Nat) (o t : List Int) (v s : Int) (U : List Int), i + d = Q.length → o.length ≤ i → t.length ≤ i → flowB s U = true → Ev (fun j => impl_runRule.l0 j Q (Q.length : Int) (i : Int) s U k lo hi o t v) (rFrom k lo hi Q d i o t v s U) := by
 induction d with
 | zero =>
  intro i o t v s U hid ho ht hf
  refine ev_succ ?_
  have h1 : ¬ (i : Int) < (Q.length : Int) := by omega
  simp only [impl_runRule.l0, h1, ↓reduceIte, rFrom]
  exact Ev.now _
 | succ d ih =>
  intro i o t v s U hid ho ht hf
  have hm := flowB_mem hf
  have hp := pos_range hf
  refine ev_succ ?_
  have h1 : (i : Int) < (Q.length : Int) := by omega
  have h0 : (0 : Int) ≤ (i : Int) := by omega
  have hi' : i < Q.length := by omega
  have hnn : 0 ≤ rOrd k lo hi s U := ordV_nonneg hr
  simp only [impl_runRule.l0, h1, h0, ↓reduceIte, w64_nat hi' (by omega : Q.length ≤ 9223372036854775807), Option.bind_some, List.length_singleton]
  refine Ev.bind (ev_impl_total U (by omega)) ?_
  rw [hp.1]
  refine Ev.bind (ev_impl_Rule_order k lo hi (s + U.sum) hr (by omega)) ?_
  refine Ev.bind (ev_impl_Flow_day s U _ (rd Q (i : Int)) (by omega)) ?_
  have e : ordV k lo hi (s + U.sum) = rOrd k lo hi s U := rfl
  rw [e]
  unfold fdayV
  rw [rFrom]
  by_cases hd : rOk k lo hi Q i s U = true
  ·have hd2 := hd
   unfold rOk at hd2
   rw [Bool.and_eq_true] at hd2
   simp only [hd, hd2.1, hd2.2, ↓reduceIte]
   refine ev_yes (by omega) (ev_yes (by omega) ?_)
   exact ih (i + 1) _ _ _ _ _ (by omega) (by simp; omega) (by simp; omega) hd2.2
  ·simp only [hd, Bool.false_eq_true, ↓reduceIte]
   by_cases hb : (inB (rOrd k lo hi s U) 0 40 && inB (rd Q (i : Int)) 0 20) = true
   ·have hn : flowB (dayStock s U (rOrd k lo hi s U) (rd Q (i : Int))) (dayUnder U (rOrd k lo hi s U)) = false := by
     unfold rOk at hd
     rw [hb, Bool.true_and, Bool.not_eq_true] at hd
     exact hd
    simp only [hb, hn, Bool.false_eq_true, ↓reduceIte]
    exact Ev.now _
   ·simp only [hb, Bool.false_eq_true, ↓reduceIte]
    exact Ev.now _
theorem ev_impl_runRule_no (a : Int) (l : List Int) (k lo hi : Int) (Q : List Int) : Ev (fun j => impl_runRule.j0 j Q true a l k lo hi 0) ([], [], 0, false) := by
 refine ev_succ ?_
 simp only [impl_runRule.j0, ↓reduceIte]
 exact Ev.now _
theorem ev_impl_runRule (a : Int) (l : List Int) (k lo hi : Int) (Q : List Int) (hl : l.length ≤ 9223372036854775807) (hQ : Q.length ≤ 9223372036854775807) : Ev (fun j => impl_runRule.f j a l k lo hi Q) (rRunV a l k lo hi Q) := by
 unfold impl_runRule.f rRunV
 refine Ev.bind (ev_impl_IsFlow a l hl) ?_
 refine ev_ite (fun h1 => ?_) (fun h1 => ?_)
 ·refine Ev.bind (ev_impl_IsRule k lo hi) ?_
  refine ev_ite (fun h2 => ?_) (fun h2 => ?_)
  ·by_cases h3 : (Q.length : Int) > 20
   ·rw [decide_eq_true h3]
    refine ev_eq (ev_impl_runRule_no a l k lo hi Q) ?_
    rw [if_neg (by simp; omega)]
   ·rw [decide_eq_false h3]
    rw [if_pos (by simp [h1, h2]; omega)]
    refine ev_succ ?_
    simp only [impl_runRule.j0, Bool.false_eq_true, ↓reduceIte]
    exact ev_impl_runRule_l0 k lo hi h2 Q (by omega) Q.length 0 [] [] 0 a l (by omega) (by simp) (by simp) h1
  ·refine ev_eq (ev_impl_runRule_no a l k lo hi Q) ?_
   rw [if_neg (by simp [h2])]
 ·refine ev_eq (ev_impl_runRule_no a l k lo hi Q) ?_
  rw [if_neg (by simp [h1])]

theorem ev_impl_ServiceOf (a : Int) (l : List Int) (k lo hi : Int) (Q : List Int) (hl : l.length ≤ 9223372036854775807) (hQ : Q.length ≤ 9223372036854775807) : Ev (fun j => impl_ServiceOf.f j a l k lo hi Q) (serviceV a l k lo hi Q) := by
 unfold impl_ServiceOf.f serviceV
 refine Ev.bind (ev_impl_runRule a l k lo hi Q hl hQ) ?_
 refine ev_ite (fun h => ?_) (fun h => ?_)
 ·rw [if_pos h]
  exact Ev.bind (ev_impl_total Q hQ) (Ev.now _)
 ·rw [if_neg h]
  exact Ev.now _

theorem ev_spec_RunRule (a : Int) (l : List Int) (k lo hi : Int) (Q : List Int) (hl : l.length ≤ 9223372036854775807) (hQ : Q.length ≤ 9223372036854775807) : Ev (fun j => spec_RunRule.f j a l k lo hi Q) ((rRunV a l k lo hi Q).1, (rRunV a l k lo hi Q).2.1, (rRunV a l k lo hi Q).2.2.2) := by
 unfold spec_RunRule.f
 exact Ev.bind (ev_spec_l11Run a l k lo hi Q hl hQ) (Ev.now _)

theorem ev_impl_RunRule (a : Int) (l : List Int) (k lo hi : Int) (Q : List Int) (hl : l.length ≤ 9223372036854775807) (hQ : Q.length ≤ 9223372036854775807) : Ev (fun j => impl_RunRule.f j a l k lo hi Q) ((rRunV a l k lo hi Q).1, (rRunV a l k lo hi Q).2.1, (rRunV a l k lo hi Q).2.2.2) := by
 unfold impl_RunRule.f
 exact Ev.bind (ev_impl_runRule a l k lo hi Q hl hQ) (Ev.now _)

theorem ev_laws_rInts_l0 (l : List Int) (hl : l.length ≤ 9223372036854775807) (d : Nat) : ∀ (i : Nat), i + d = l.length → Ev (fun k => laws_rInts.l0 k l l (i : Int)) true := by
 induction d with
 | zero =>
  intro i hi
  refine ev_succ ?_
  have h1 : ¬ (i : Int) < (l.length : Int) := by omega
  simp only [laws_rInts.l0, h1, ↓reduceIte]
  exact Ev.now _
 | succ d ih =>
  intro i hi
  refine ev_succ ?_
  have h1 : (i : Int) < (l.length : Int) := by omega
  have h0 : (0 : Int) ≤ (i : Int) := by omega
  have hi' : i < l.length := by omega
  simp only [laws_rInts.l0, h1, h0, ↓reduceIte, w64_nat hi' hl]
  exact ih (i + 1) (by omega)
theorem ev_laws_rInts_self (l : List Int) (hl : l.length ≤ 9223372036854775807) : Ev (fun k => laws_rInts.f k l l) true := by
 unfold laws_rInts.f
 simp only [if_true]
 exact ev_laws_rInts_l0 l hl l.length 0 (by omega)

theorem ev_impl_PositionOf (a : Int) (l : List Int) (hl : l.length ≤ 9223372036854775807) : Ev (fun k => impl_PositionOf.f k a l) (posV a l) := by
 unfold impl_PositionOf.f posV
 refine Ev.bind (ev_impl_IsFlow a l hl) ?_
 refine ev_ite (fun h => ?_) (fun h => ?_)
 ·refine Ev.bind (ev_impl_total l hl) ?_
  refine ev_eq (Ev.now _) ?_
  simp [h]
 ·refine ev_eq (Ev.now _) ?_
  simp [h]

def needsFrom (l : List Int) (lead i d : Nat) : List Int := (List.range' i d).map fun j => wrap64 ((l.take (j + lead + 1)).drop j).sum
def askedB (l : List Int) (lead : Int) : Bool := (decide ((l.length : Int) ≤ 20) && allB l 0 20) && inB lead 0 4
def needsV (l : List Int) (lead : Int) : List Int := needsFrom l lead.toNat 0 (l.length - lead.toNat)
theorem needsFrom_length (l : List Int) (lead i d : Nat) : (needsFrom l lead i d).length = d := by simp [needsFrom]
theorem needsFrom_range {l : List Int} (hl : l.length ≤ 20) (h : ∀ x ∈ l, 0 ≤ x ∧ x ≤ 20) (lead i d : Nat) : ∀ x ∈ needsFrom l lead i d, 0 ≤ x ∧ x ≤ 400 := by
 intro x hx
 unfold needsFrom at hx
 obtain ⟨j, _, rfl⟩ := List.mem_map.1 hx
 have hm : ∀ y ∈ ((l.take (j + lead + 1)).drop j), 0 ≤ y ∧ y ≤ 20 := fun y hy => h y (List.mem_of_mem_take (List.mem_of_mem_drop hy))
 have h1 := sum_le (b := 20) (fun y hy => (hm y hy).2)
 have h2 := le_sum (b := 0) (fun y hy => (hm y hy).1)
 have h3 : ((l.take (j + lead + 1)).drop j).length ≤ 20 := by
  rw [List.length_drop, List.length_take]; omega
 rw [w64 (by omega) (by omega)]
 omega
theorem askedB_mem {l : List Int} {lead : Int} (h : askedB l lead = true) : l.length ≤ 20 ∧ (∀ x ∈ l, 0 ≤ x ∧ x ≤ 20) ∧ 0 ≤ lead ∧ lead ≤ 4 := by
 unfold askedB at h
 simp only [Bool.and_eq_true, decide_eq_true_eq] at h
 exact ⟨by omega, allB_mem h.1.2, inB_iff.1 h.2⟩
theorem needs_step (l : List Int) (lead i d : Nat) : needsFrom l lead i (d + 1) = wrap64 ((l.take (i + lead + 1)).drop i).sum :: needsFrom l lead (i + 1) d := by
 simp [needsFrom, List.range'_succ]

def leadV (l : List Int) (lead : Int) : List Int × Bool := if askedB l lead = true then (needsV l lead, true) else ([], false)
theorem leadV_length {l : List Int} {lead : Int} (h : l.length ≤ 9223372036854775807) : (leadV l lead).1.length ≤ 20 := by
 unfold leadV
 split
 ·rename_i h
  have := askedB_mem h
  simp only [needsV, needsFrom_length]
  omega
 ·simp

theorem ev_impl_LeadNeeds_l0 (l : List Int) (lead : Nat) (hl : l.length ≤ 20) (hlead : lead ≤ 4) (d : Nat) : ∀ (i : Nat) (acc : List Int), acc.length ≤ i → (i + lead + d = l.length ∨ (d = 0 ∧ l.length ≤ i + lead)) → i ≤ 20 →
  Ev (fun k => impl_LeadNeeds.l0 k l (lead : Int) acc (i : Int)) (acc ++ needsFrom l lead i d, true) := by
 induction d with
 | zero =>
  intro i acc ha hi hi2
  refine ev_succ ?_
  have e1 : wrap64 ((i : Int) + (lead : Int)) = ((i + lead : Nat) : Int) := by rw [w64 (by omega) (by omega)]; omega
  have h1 : ¬ ((i + lead : Nat) : Int) < (l.length : Int) := by omega
  simp only [impl_LeadNeeds.l0, e1, h1, ↓reduceIte]
  exact ev_eq (Ev.now _) (by simp [needsFrom])
 | succ d ih =>
  intro i acc ha hi hi2
  refine ev_succ ?_
  have e1 : wrap64 ((i : Int) + (lead : Int)) = ((i + lead : Nat) : Int) := by rw [w64 (by omega) (by omega)]; omega
  have e2 : wrap64 (((i + lead : Nat) : Int) + 1) = ((i + lead + 1 : Nat) : Int) := by rw [w64 (by omega) (by omega)]; omega
  have e3 : wrap64 ((i : Int) + 1) = ((i + 1 : Nat) : Int) := by rw [w64 (by omega) (by omega)]; omega
  have h1 : ((i + lead : Nat) : Int) < (l.length : Int) := by omega
  have h2 : (0 : Int) ≤ (i : Int) := by omega
  have h3 : (i : Int) ≤ ((i + lead + 1 : Nat) : Int) := by omega
  have h4 : ((i + lead + 1 : Nat) : Int) ≤ (l.length : Int) := by omega
  have h5 : acc.length < 17592186044416 := by omega
  simp only [impl_LeadNeeds.l0, e1, e2, e3, h1, h2, h3, h4, h5, ↓reduceIte, Int.toNat_natCast]
  refine Ev.bind (ev_impl_total _ (by rw [List.length_drop, List.length_take]; omega)) ?_
  refine ev_eq (ih (i + 1) (acc ++ [wrap64 ((l.take (i + lead + 1)).drop i).sum]) (by simp; omega) (by omega) (by omega)) ?_
  rw [needs_step]; simp
theorem ev_impl_LeadNeeds_j0_no (l : List Int) (lead : Int) : Ev (fun k => impl_LeadNeeds.j0 k l lead true) ([], false) := by
 refine ev_succ ?_
 simp only [impl_LeadNeeds.j0, ↓reduceIte]
 exact Ev.now _
theorem ev_impl_LeadNeeds (l : List Int) (lead : Int) (hl : l.length ≤ 9223372036854775807) : Ev (fun k => impl_LeadNeeds.f k l lead) (leadV l lead) := by
 unfold impl_LeadNeeds.f leadV
 refine ev_ite (fun h => ?_) (fun h => ?_)
 ·refine ev_eq (ev_impl_LeadNeeds_j0_no l lead) ?_
  have : askedB l lead = false := by
   cases hb : askedB l lead with
   | false => rfl
   | true => have := askedB_mem hb; omega
  simp [this]
 ·refine Ev.bind (ev_impl_allWithin l 0 20 hl) ?_
  refine ev_ite (fun h2 => ?_) (fun h2 => ?_)
  ·simp only [impl_within_f, Option.bind_some]
   cases h3 : inB lead 0 4 with
   | false =>
    refine ev_eq (ev_impl_LeadNeeds_j0_no l lead) ?_
    simp [askedB, h3]
   | true =>
    have hb : askedB l lead = true := by unfold askedB; simp [h2, h3]; omega
    have hm := askedB_mem hb
    refine ev_succ ?_
    simp only [impl_LeadNeeds.j0, Bool.not_true, Bool.false_eq_true, ↓reduceIte]
    have := ev_impl_LeadNeeds_l0 l lead.toNat hm.1 (by omega) (l.length - lead.toNat) 0 [] (by simp) (by omega) (by omega)
    rw [show ((lead.toNat : Nat) : Int) = lead by omega] at this
    refine ev_eq this ?_
    simp [hb, needsV]
  ·refine ev_eq (ev_impl_LeadNeeds_j0_no l lead) ?_
   simp [askedB, h2]

theorem ev_spec_l11Asked (l : List Int) (lead : Int) (hl : l.length ≤ 9223372036854775807) : Ev (fun k => spec_l11Asked.f k l lead) (askedB l lead) := by
 unfold spec_l11Asked.f askedB
 refine Ev.bind (ev_spec_l11Numbers l 20 20 hl) ?_
 refine ev_ite (fun h => ?_) (fun h => ?_)
 ·simp only [spec_l1In_f, Option.bind_some]
  exact ev_eq (Ev.now _) (by simp [h])
 ·exact ev_eq (Ev.now _) (by simp [h])

theorem ev_spec_l11Needs_l0 (l : List Int) (lead : Nat) (hl : l.length ≤ 20) (hlead : lead ≤ 4) (d : Nat) : ∀ (i : Nat) (acc : List Int), acc.length ≤ i → (i + lead + d = l.length ∨ (d = 0 ∧ l.length ≤ i + lead)) → i ≤ 20 →
  Ev (fun k => spec_l11Needs.l0 k l (lead : Int) acc (i : Int)) (acc ++ needsFrom l lead i d) := by
 induction d with
 | zero =>
  intro i acc ha hi hi2
  refine ev_succ ?_
  have e1 : wrap64 ((i : Int) + (lead : Int)) = ((i + lead : Nat) : Int) := by rw [w64 (by omega) (by omega)]; omega
  have h1 : ¬ ((i + lead : Nat) : Int) < (l.length : Int) := by omega
  simp only [spec_l11Needs.l0, e1, h1, ↓reduceIte]
  exact ev_eq (Ev.now _) (by simp [needsFrom])
 | succ d ih =>
  intro i acc ha hi hi2
  refine ev_succ ?_
  have e1 : wrap64 ((i : Int) + (lead : Int)) = ((i + lead : Nat) : Int) := by rw [w64 (by omega) (by omega)]; omega
  have e2 : wrap64 (((i + lead : Nat) : Int) + 1) = ((i + lead + 1 : Nat) : Int) := by rw [w64 (by omega) (by omega)]; omega
  have e3 : wrap64 ((i : Int) + 1) = ((i + 1 : Nat) : Int) := by rw [w64 (by omega) (by omega)]; omega
  have h1 : ((i + lead : Nat) : Int) < (l.length : Int) := by omega
  have h2 : (0 : Int) ≤ (i : Int) := by omega
  have h3 : (i : Int) ≤ ((i + lead + 1 : Nat) : Int) := by omega
  have h4 : ((i + lead + 1 : Nat) : Int) ≤ (l.length : Int) := by omega
  have h5 : acc.length < 17592186044416 := by omega
  simp only [spec_l11Needs.l0, e1, e2, e3, h1, h2, h3, h4, h5, ↓reduceIte, Int.toNat_natCast]
  refine Ev.bind (ev_spec_l2Sum _ (by rw [List.length_drop, List.length_take]; omega)) ?_
  refine ev_eq (ih (i + 1) (acc ++ [wrap64 ((l.take (i + lead + 1)).drop i).sum]) (by simp; omega) (by omega) (by omega)) ?_
  rw [needs_step]; simp
theorem ev_spec_l11Needs (l : List Int) (lead : Int) (hl : l.length ≤ 20) (h0 : 0 ≤ lead) (h4 : lead ≤ 4) : Ev (fun k => spec_l11Needs.f k l lead) (needsV l lead) := by
 unfold spec_l11Needs.f needsV
 have := ev_spec_l11Needs_l0 l lead.toNat hl (by omega) (l.length - lead.toNat) 0 [] (by simp) (by omega) (by omega)
 rw [show ((lead.toNat : Nat) : Int) = lead by omega] at this
 simpa using this

theorem ev_spec_LeadNeeds (l : List Int) (lead : Int) (hl : l.length ≤ 9223372036854775807) : Ev (fun k => spec_LeadNeeds.f k l lead) (leadV l lead) := by
 unfold spec_LeadNeeds.f leadV
 refine Ev.bind (ev_spec_l11Asked l lead hl) ?_
 refine ev_ite (fun h => ?_) (fun h => ?_)
 ·have hm := askedB_mem h
  refine Ev.bind (ev_spec_l11Needs l lead hm.1 hm.2.2.1 hm.2.2.2) ?_
  exact ev_eq (Ev.now _) (by simp [h])
 ·exact ev_eq (Ev.now _) (by simp [h])

theorem and255 (x : Int) : 0 ≤ Go.bits .and .u64 x 255 ∧ Go.bits .and .u64 x 255 ≤ 255 := by
 have h : (BitVec.ofInt 64 x &&& BitVec.ofInt 64 255).toNat ≤ 255 := by
  rw [BitVec.toNat_and]
  exact Nat.le_trans Nat.and_le_right (by decide)
 show 0 ≤ IntKind.u64.wrap ((BitVec.ofInt 64 x &&& BitVec.ofInt 64 255).toNat : Int) ∧ IntKind.u64.wrap ((BitVec.ofInt 64 x &&& BitVec.ofInt 64 255).toNat : Int) ≤ 255
 rw [IntKind.wrap_u64]
 omega
def codeOk (l : List Int) : Prop := ∀ x ∈ l, 0 ≤ x ∧ x ≤ 255
def atOk (a : Int) : Prop := 0 ≤ a ∧ a ≤ 1000000000000
theorem atOk_more {a a' : Int} {n : Int} (h : 0 ≤ a ∧ a ≤ 100000000) (h2 : a ≤ a' ∧ a' ≤ a + n) (hn : n ≤ 1000000) : atOk a' := by unfold atOk; omega

theorem spec_l1Cur_next_ok (l : List Int) (a sd : Int) (hl : codeOk l) (ha : atOk a) : ∃ b s', spec_l1Cur_next.f l a sd = some (b, a + 1, s') ∧ 0 ≤ b ∧ b ≤ 255 := by
 unfold atOk at ha
 have e : wrap64 (a + 1) = a + 1 := w64 (by omega) (by omega)
 unfold spec_l1Cur_next.f
 rw [e]
 by_cases h : a < (l.length : Int)
 ·have hr : 0 ≤ rd l a ∧ rd l a ≤ 255 := by
   obtain ⟨i, hi⟩ : ∃ i : Nat, a = (i : Int) := ⟨a.toNat, by omega⟩
   subst hi
   rw [rd_nat (by omega)]
   exact hl _ (List.getElem_mem _)
  rw [if_pos h, if_pos ha.1]
  by_cases h2 : a + 1 ≤ (l.length : Int)
  ·rw [if_pos h2]
   exact ⟨_, _, rfl, by rw [w64 (by omega) (by omega)]; omega, by rw [w64 (by omega) (by omega)]; omega⟩
  ·omega
 ·rw [if_neg h]
  by_cases h2 : a + 1 ≤ (l.length : Int)
  ·omega
  ·rw [if_neg h2]
   generalize hx : (_ : Int) / 1099511627776 = x
   have := and255 x
   refine ⟨_, _, rfl, ?_, ?_⟩ <;> (rw [w64 (by omega) (by omega)]; omega)

theorem spec_l1Cur_pick_ok (l : List Int) (a sd n : Int) (hl : codeOk l) (ha : 0 ≤ a ∧ a ≤ 1000000000) (hn : 1 ≤ n ∧ n ≤ 1000000) : ∃ r a' s', spec_l1Cur_pick.f l a sd n = some (r, a', s') ∧ (0 ≤ r ∧ r < n) ∧ (a ≤ a' ∧ a' ≤ a + 2) := by
 unfold spec_l1Cur_pick.f
 by_cases h1 : n ≤ 1
 ·rw [if_pos h1]
  exact ⟨_, _, _, rfl, ⟨by omega, by omega⟩, by omega, by omega⟩
 ·rw [if_neg h1]
  obtain ⟨b, s1, e1, hb1, hb2⟩ := spec_l1Cur_next_ok l a sd hl (by unfold atOk; omega)
  rw [e1, Option.bind_some]
  by_cases h2 : n > 200
  ·rw [if_pos h2]
   obtain ⟨b2, s2, e2, hc1, hc2⟩ := spec_l1Cur_next_ok l (a + 1) s1 hl (by unfold atOk; omega)
   dsimp only
   rw [e2, Option.bind_some, if_neg (by omega)]
   dsimp only
   rw [w64 (x := b * 256) (by omega) (by omega), w64 (x := b * 256 + b2) (by omega) (by omega)]
   exact ⟨_, _, _, rfl, ⟨Int.tmod_nonneg _ (by omega), Int.tmod_lt_of_pos _ (by omega)⟩, by omega, by omega⟩
  ·rw [if_neg h2, if_neg (by omega)]
   exact ⟨_, _, _, rfl, ⟨Int.tmod_nonneg _ hb1, Int.tmod_lt_of_pos _ (by omega)⟩, by dsimp only; omega, by dsimp only; omega⟩

theorem spec_l1Cur_among_ok (l : List Int) (a sd : Int) (L : List Int) (hl : codeOk l) (ha : 0 ≤ a ∧ a ≤ 1000000000) (hL : 1 ≤ L.length ∧ L.length ≤ 1000) : ∃ v a' s', spec_l1Cur_among.f l a sd L = some (v, a', s') ∧ v ∈ L ∧ (a ≤ a' ∧ a' ≤ a + 2) := by
 obtain ⟨r, a', s', e, hr, ha2⟩ := spec_l1Cur_pick_ok l a sd (L.length : Int) hl ha (by omega)
 unfold spec_l1Cur_among.f
 rw [e, Option.bind_some]
 dsimp only
 rw [if_pos hr.1, if_pos hr.2]
 obtain ⟨i, hi⟩ : ∃ i : Nat, r = (i : Int) := ⟨r.toNat, by omega⟩
 subst hi
 exact ⟨_, _, _, rfl, by rw [rd_nat (by omega)]; exact List.getElem_mem _, ha2⟩

theorem ev_spec_l1Cur_stream_l1 (l : List Int) (a sd st : Int) (d : Nat) : ∀ U : List Int, U.length ≤ 100 → 5 ≤ U.length + d → ∃ V, Ev (fun k => spec_l1Cur_stream.l1 k l a sd st U) (st, V, a, sd) ∧ (V.length ≤ U.length ∨ V.length ≤ 5) := by
 induction d with
 | zero =>
  intro U hU hd
  refine ⟨U, ev_succ ?_, by omega⟩
  have h1 : ¬ (U.length : Int) < 5 := by omega
  simp only [spec_l1Cur_stream.l1, h1, ↓reduceIte]
  exact Ev.now _
 | succ d ih =>
  intro U hU hd
  by_cases h1 : (U.length : Int) < 5
  ·obtain ⟨V, h2, h3⟩ := ih (U ++ [1]) (by simp; omega) (by simp; omega)
   refine ⟨V, ev_succ ?_, ?_⟩
   ·simp only [spec_l1Cur_stream.l1, h1, ↓reduceIte]
    exact ev_yes (by omega) h2
   ·simp only [List.length_append, List.length_singleton] at h3
    omega
  ·refine ⟨U, ev_succ ?_, by omega⟩
   simp only [spec_l1Cur_stream.l1, h1, ↓reduceIte]
   exact Ev.now _
theorem ev_spec_l1Cur_stream_l0 (l : List Int) (hl : codeOk l) (st : Int) (d : Nat) : ∀ (n a sd : Int) (U : List Int), n ≤ d → U.length ≤ 60 → U.length + d ≤ 60 → 0 ≤ a → a + 2 * (d : Int) ≤ 100000000 → ∃ s2 V a' s', Ev (fun k => spec_l1Cur_stream.l0 k n l a sd st U) (s2, V, a', s') ∧ V.length ≤ U.length + d + 6 ∧ (a ≤ a' ∧ a' ≤ a + 2 * (d : Int) + 4) := by
 have fin : ∀ (a sd : Int) (U : List Int), U.length ≤ 60 → 0 ≤ a → a ≤ 100000000 → ∃ s2 V a' s', Ev (fun k => (spec_l1Cur_pick.f l a sd 40).bind fun bt135 => (if bt135.1 = 0 then ((spec_l1Cur_among.f l bt135.2.1 bt135.2.2 (([200, (-200), 201, (-201), 4611686018427387904] : List Int))).bind fun bt141 => (some (bt141.1, U, bt141.2.1, bt141.2.2))) else (if bt135.1 = 1 then (spec_l1Cur_stream.l1 k l bt135.2.1 bt135.2.2 st U) else (if bt135.1 = 2 then (if (U.length : Int) > 0 then ((spec_l1Cur_among.f l bt135.2.1 bt135.2.2 (([(-1), 40, 41] : List Int))).bind fun bt150 => (if 0 < (U.length : Int) then (some (st, (U.set (0 : Int).toNat bt150.1), bt150.2.1, bt150.2.2)) else (none))) else (some (st, U, bt135.2.1, bt135.2.2))) else (some (st, U, bt135.2.1, bt135.2.2)))))) (s2, V, a', s') ∧ V.length ≤ U.length + 6 ∧ (a ≤ a' ∧ a' ≤ a + 4) := by
  intro a sd U hU ha0 ha1
  obtain ⟨r, a1, s1, e1, hr, ha2⟩ := spec_l1Cur_pick_ok l a sd 40 hl (by omega) (by omega)
  simp only [e1, Option.bind_some]
  by_cases c0 : r = 0
  ·obtain ⟨v, a2, s2, e2, hv, ha3⟩ := spec_l1Cur_among_ok l a1 s1 [200, (-200), 201, (-201), 4611686018427387904] hl (by omega) (by simp)
   simp only [c0, if_true, e2, Option.bind_some]
   exact ⟨_, _, _, _, Ev.now _, by omega, by omega, by omega⟩
  ·by_cases c1 : r = 1
   ·obtain ⟨V, h2, h3⟩ := ev_spec_l1Cur_stream_l1 l a1 s1 st 5 U (by omega) (by omega)
    simp only [c0, c1, if_false, if_true]
    exact ⟨_, V, _, _, h2, by omega, by omega, by omega⟩
   ·by_cases c2 : r = 2
    ·simp only [c0, c1, c2, if_false, if_true]
     by_cases c3 : (U.length : Int) > 0
     ·obtain ⟨v, a2, s2, e2, hv, ha3⟩ := spec_l1Cur_among_ok l a1 s1 [(-1), 40, 41] hl (by omega) (by simp)
      have c4 : 0 < (U.length : Int) := by omega
      simp only [c3, c4, if_true, e2, Option.bind_some]
      exact ⟨_, _, _, _, Ev.now _, by rw [List.length_set]; omega, by omega, by omega⟩
     ·simp only [c3, if_false]
      exact ⟨_, _, _, _, Ev.now _, by omega, by omega, by omega⟩
    ·simp only [c0, c1, c2, if_false]
     exact ⟨_, _, _, _, Ev.now _, by omega, by omega, by omega⟩
 induction d with
 | zero =>
  intro n a sd U hn hU hd ha hb
  obtain ⟨s2, V, a', s', h1, h2, h3⟩ := fin a sd U (by omega) ha (by omega)
  refine ⟨s2, V, a', s', ev_succ ?_, by omega, by omega, by omega⟩
  have c : ¬ n > 0 := by omega
  simp only [spec_l1Cur_stream.l0, c, ↓reduceIte]
  exact h1
 | succ d ih =>
  intro n a sd U hn hU hd ha hb
  by_cases c : n > 0
  ·obtain ⟨v, a1, s1, e1, hv, ha2⟩ := spec_l1Cur_among_ok l a sd [0, 0, 2, 5, 9] hl (by omega) (by simp)
   by_cases hU2 : U.length + 1 ≤ 60
   ·obtain ⟨s2, V, a', s', h1, h2, h3⟩ := ih (n - 1) a1 s1 (U ++ [v]) (by omega) (by simp; omega) (by simp; omega) (by omega) (by omega)
    rw [List.length_append, List.length_singleton] at h2
    refine ⟨s2, V, a', s', ev_succ ?_, by omega, by omega, by omega⟩
    by_cases hbig : n ≤ 9223372036854775807
    ·have e2 : wrap64 (n - 1) = n - 1 := w64 (by omega) (by omega)
     simp only [spec_l1Cur_stream.l0, c, e1, e2, ↓reduceIte, Option.bind_some]
     exact ev_yes (by omega) h1
    ·omega
   ·exfalso; omega
  ·obtain ⟨s2, V, a', s', h1, h2, h3⟩ := fin a sd U (by omega) ha (by omega)
   refine ⟨s2, V, a', s', ev_succ ?_, by omega, by omega, by omega⟩
   simp only [spec_l1Cur_stream.l0, c, ↓reduceIte]
   exact h1
theorem ev_spec_l1Cur_stream (l : List Int) (a sd : Int) (hl : codeOk l) (ha : 0 ≤ a ∧ a ≤ 1000000) : ∃ st U a' s', Ev (fun k => spec_l1Cur_stream.f k l a sd) (st, U, a', s') ∧ U.length ≤ 20 ∧ (a ≤ a' ∧ a' ≤ a + 30) := by
 unfold spec_l1Cur_stream.f
 obtain ⟨v, a1, s1, e1, hv, ha1⟩ := spec_l1Cur_among_ok l a sd [0, 3, 8, 15, (-4), 40] hl (by omega) (by simp)
 obtain ⟨n, a2, s2, e2, hn, ha2⟩ := spec_l1Cur_among_ok l a1 s1 [2, 1, 3, 0, 4] hl (by omega) (by simp)
 have hn4 : n ≤ 4 := by simp at hn; omega
 obtain ⟨s3, V, a', s', h1, h2, h3⟩ := ev_spec_l1Cur_stream_l0 l hl v 4 n a2 s2 [] (by omega) (by simp) (by simp) (by omega) (by omega)
 simp only [e1, e2, Option.bind_some]
 simp only [List.length_nil] at h2
 exact ⟨s3, V, a', s', h1, by omega, by omega, by omega⟩

theorem ev_spec_l1Cur_calls_l1 (l : List Int) (a sd : Int) (d : Nat) : ∀ U : List Int, U.length ≤ 100 → 21 ≤ U.length + d → ∃ V, Ev (fun k => spec_l1Cur_calls.l1 k U l a sd) (V, a, sd) ∧ V.length ≤ U.length + d := by
 induction d with
 | zero =>
  intro U hU hd
  refine ⟨U, ev_succ ?_, by omega⟩
  have h1 : ¬ (U.length : Int) < 21 := by omega
  simp only [spec_l1Cur_calls.l1, h1, ↓reduceIte]
  exact Ev.now _
 | succ d ih =>
  intro U hU hd
  by_cases h1 : (U.length : Int) < 21
  ·obtain ⟨V, h2, h3⟩ := ih (U ++ [1]) (by simp; omega) (by simp; omega)
   rw [List.length_append, List.length_singleton] at h3
   refine ⟨V, ev_succ ?_, by omega⟩
   simp only [spec_l1Cur_calls.l1, h1, ↓reduceIte]
   exact ev_yes (by omega) h2
  ·refine ⟨U, ev_succ ?_, by omega⟩
   simp only [spec_l1Cur_calls.l1, h1, ↓reduceIte]
   exact Ev.now _
theorem ev_spec_l1Cur_calls_fin (l : List Int) (hl : codeOk l) (a sd : Int) (U : List Int) (hU : U.length ≤ 60) (ha0 : 0 ≤ a) (ha1 : a ≤ 100000000) : ∃ V a' s', Ev (fun k => (spec_l1Cur_pick.f l a sd 40).bind fun bt282 => (if bt282.1 = 0 then (spec_l1Cur_calls.l1 k U l bt282.2.1 bt282.2.2) else (if bt282.1 = 1 then (if (U.length : Int) > 0 then ((spec_l1Cur_among.f l bt282.2.1 bt282.2.2 (([(-1), 20, 21] : List Int))).bind fun bt291 => (if 0 < (U.length : Int) then (some ((U.set (0 : Int).toNat bt291.1), bt291.2.1, bt291.2.2)) else (none))) else (some (U, bt282.2.1, bt282.2.2))) else (some (U, bt282.2.1, bt282.2.2))))) (V, a', s') ∧ V.length ≤ U.length + 21 ∧ (a ≤ a' ∧ a' ≤ a + 4) := by
 obtain ⟨r, a1, s1, e1, hr, ha2⟩ := spec_l1Cur_pick_ok l a sd 40 hl (by omega) (by omega)
 simp only [e1, Option.bind_some]
 by_cases c0 : r = 0
 ·obtain ⟨V, h2, h3⟩ := ev_spec_l1Cur_calls_l1 l a1 s1 21 U (by omega) (by omega)
  simp only [c0, if_true]
  exact ⟨V, _, _, h2, by omega, by omega, by omega⟩
 ·by_cases c1 : r = 1
  ·simp only [c0, c1, if_false, if_true]
   by_cases c3 : (U.length : Int) > 0
   ·obtain ⟨v, a2, s2, e2, hv, ha3⟩ := spec_l1Cur_among_ok l a1 s1 [(-1), 20, 21] hl (by omega) (by simp)
    have c4 : 0 < (U.length : Int) := by omega
    simp only [c3, c4, if_true, e2, Option.bind_some]
    exact ⟨_, _, _, Ev.now _, by rw [List.length_set]; omega, by omega, by omega⟩
   ·simp only [c3, if_false]
    exact ⟨_, _, _, Ev.now _, by omega, by omega, by omega⟩
  ·simp only [c0, c1, if_false]
   exact ⟨_, _, _, Ev.now _, by omega, by omega, by omega⟩
theorem ev_spec_l1Cur_calls_l0 (l : List Int) (hl : codeOk l) (d : Nat) : ∀ (n a sd : Int) (U : List Int), n ≤ d → U.length + d ≤ 60 → 0 ≤ a → a + 2 * (d : Int) ≤ 100000000 → ∃ V a' s', Ev (fun k => spec_l1Cur_calls.l0 k U n l a sd) (V, a', s') ∧ V.length ≤ U.length + d + 21 ∧ (a ≤ a' ∧ a' ≤ a + 2 * (d : Int) + 4) := by
 induction d with
 | zero =>
  intro n a sd U hn hd ha hb
  obtain ⟨V, a', s', h1, h2, h3⟩ := ev_spec_l1Cur_calls_fin l hl a sd U (by omega) ha (by omega)
  refine ⟨V, a', s', ev_succ ?_, by omega, by omega, by omega⟩
  have c : ¬ n > 0 := by omega
  simp only [spec_l1Cur_calls.l0, c, ↓reduceIte]
  exact h1
 | succ d ih =>
  intro n a sd U hn hd ha hb
  by_cases c : n > 0
  ·obtain ⟨v, a1, s1, e1, hv, ha2⟩ := spec_l1Cur_among_ok l a sd [0, 1, 2, 3, 5, 8] hl (by omega) (by simp)
   obtain ⟨V, a', s', h1, h2, h3⟩ := ih (n - 1) a1 s1 (U ++ [v]) (by omega) (by simp; omega) (by omega) (by omega)
   rw [List.length_append, List.length_singleton] at h2
   refine ⟨V, a', s', ev_succ ?_, by omega, by omega, by omega⟩
   have e2 : wrap64 (n - 1) = n - 1 := w64 (by omega) (by omega)
   simp only [spec_l1Cur_calls.l0, c, e1, e2, ↓reduceIte, Option.bind_some]
   exact ev_yes (by omega) h1
  ·obtain ⟨V, a', s', h1, h2, h3⟩ := ev_spec_l1Cur_calls_fin l hl a sd U (by omega) ha (by omega)
   refine ⟨V, a', s', ev_succ ?_, by omega, by omega, by omega⟩
   simp only [spec_l1Cur_calls.l0, c, ↓reduceIte]
   exact h1
theorem ev_spec_l1Cur_calls (l : List Int) (a sd : Int) (hl : codeOk l) (ha : 0 ≤ a ∧ a ≤ 1000000) : ∃ U a' s', Ev (fun k => spec_l1Cur_calls.f k l a sd) (U, a', s') ∧ U.length ≤ 100 ∧ (a ≤ a' ∧ a' ≤ a + 50) := by
 unfold spec_l1Cur_calls.f
 obtain ⟨n, a2, s2, e2, hn, ha2⟩ := spec_l1Cur_among_ok l a sd [5, 8, 3, 1, 0, 12, 20] hl (by omega) (by simp)
 have hn4 : n ≤ 20 := by simp at hn; omega
 obtain ⟨V, a', s', h1, h2, h3⟩ := ev_spec_l1Cur_calls_l0 l hl 20 n a2 s2 [] (by omega) (by simp) (by omega) (by omega)
 simp only [e2, Option.bind_some]
 simp only [List.length_nil] at h2
 exact ⟨V, a', s', h1, by omega, by omega, by omega⟩

theorem spec_l1Cur_rule_ok (l : List Int) (a sd : Int) (hl : codeOk l) (ha : 0 ≤ a ∧ a ≤ 1000000) : ∃ k lo hi a' s', spec_l1Cur_rule.f l a sd = some (k, lo, hi, a', s') ∧ (a ≤ a' ∧ a' ≤ a + 20) := by
 unfold spec_l1Cur_rule.f
 obtain ⟨p, a1, s1, e1, hp, ha1⟩ := spec_l1Cur_pick_ok l a sd 3 hl (by omega) (by omega)
 obtain ⟨x, a2, s2, e2, hx, ha2⟩ := spec_l1Cur_among_ok l a1 s1 [0, 3, 6, 10, (-2)] hl (by omega) (by simp)
 obtain ⟨y, a3, s3, e3, hy, ha3⟩ := spec_l1Cur_among_ok l a2 s2 [10, 12, 20, 5, 30] hl (by omega) (by simp)
 obtain ⟨r, a4, s4, e4, hr, ha4⟩ := spec_l1Cur_pick_ok l a3 s3 30 hl (by omega) (by omega)
 simp only [e1, e2, e3, e4, Option.bind_some]
 by_cases c0 : r = 0
 ·obtain ⟨v, a5, s5, e5, hv, ha5⟩ := spec_l1Cur_among_ok l a4 s4 [0, 4, (-1)] hl (by omega) (by simp)
  rw [if_pos c0, e5, Option.bind_some]
  exact ⟨_, _, _, _, _, rfl, by dsimp only; omega⟩
 ·by_cases c1 : r = 1
  ·obtain ⟨v, a5, s5, e5, hv, ha5⟩ := spec_l1Cur_among_ok l a4 s4 [200, 201, (-201), y, wrap64 (y + 1)] hl (by omega) (by simp)
   rw [if_neg c0, if_pos c1, e5, Option.bind_some]
   exact ⟨_, _, _, _, _, rfl, by dsimp only; omega⟩
  ·by_cases c2 : r = 2
   ·obtain ⟨v, a5, s5, e5, hv, ha5⟩ := spec_l1Cur_among_ok l a4 s4 [0, 40, 41, 200, 201, (-5)] hl (by omega) (by simp)
    rw [if_neg c0, if_neg c1, if_pos c2, e5, Option.bind_some]
    exact ⟨_, _, _, _, _, rfl, by dsimp only; omega⟩
   ·rw [if_neg c0, if_neg c1, if_neg c2]
    exact ⟨_, _, _, _, _, rfl, by omega⟩

theorem ev_spec_DrawRunRule (l : List Int) (hl : codeOk l) : ∃ st U k lo hi Q, Ev (fun n => spec_DrawRunRule.f n l) (st, U, k, lo, hi, Q) ∧ U.length ≤ 20 ∧ Q.length ≤ 100 := by
 unfold spec_DrawRunRule.f
 obtain ⟨st, U, a1, s1, h1, h2, h3⟩ := ev_spec_l1Cur_stream l 0 0 hl (by omega)
 obtain ⟨k, lo, hi, a2, s2, e2, ha2⟩ := spec_l1Cur_rule_ok l a1 s1 hl (by omega)
 obtain ⟨Q, a3, s3, h4, h5, h6⟩ := ev_spec_l1Cur_calls l a2 s2 hl (by omega)
 refine ⟨st, U, k, lo, hi, Q, Ev.bind h1 ?_, h2, h5⟩
 simp only [e2, Option.bind_some]
 exact Ev.bind h4 (Ev.now _)

theorem ev_impl_RuleOrder (a : Int) (l : List Int) (k lo hi : Int) (hl : l.length ≤ 9223372036854775807) : Ev (fun j => impl_RuleOrder.f j a l k lo hi) (ruleOrderV a l k lo hi) := by
 unfold impl_RuleOrder.f ruleOrderV
 refine Ev.bind (ev_impl_PositionOf a l hl) ?_
 unfold posV
 cases h : flowB a l with
 | false => simpa using Ev.now _
 | true =>
  have hp := pos_range h
  simp only [↓reduceIte, hp.1, Bool.true_and]
  refine Ev.bind (ev_impl_IsRule k lo hi) ?_
  refine ev_ite (fun hr => ?_) (fun hr => ?_)
  ·rw [if_pos hr]
   refine Ev.bind (ev_impl_Rule_order k lo hi _ hr (by omega)) ?_
   refine ev_ite (fun h2 => ?_) (fun h2 => ?_)
   ·rw [if_pos h2]; exact Ev.now _
   ·rw [if_neg h2]
    refine Ev.bind (ev_impl_Rule_order k lo hi _ hr (by omega)) ?_
    exact Ev.now _
  ·rw [if_neg hr]; exact Ev.now _

theorem ev_spec_IsRule (k lo hi : Int) : Ev (fun n => spec_IsRule.f n k lo hi) (ruleB k lo hi) := by
 unfold spec_IsRule.f
 refine Ev.bind (ev_spec_l11Rule k lo hi) ?_
 exact Ev.now _

theorem ev_spec_DrawRunOrders_l0 (l : List Int) (hl : codeOk l) (st : Int) (U Q : List Int) (hQ : Q.length ≤ 100) (d : Nat) : ∀ (i : Nat) (a sd : Int) (O : List Int), i + d = Q.length → O.length = i → 0 ≤ a → a + 2 * (d : Int) ≤ 1000000 → ∃ O', Ev (fun k => spec_DrawRunOrders.l0 k Q O (i : Int) l a sd st U) (st, U, O', Q) ∧ O'.length ≤ 101 := by
 induction d with
 | zero =>
  intro i a sd O hi hO ha hb
  have c : ¬ (i : Int) < (Q.length : Int) := by omega
  have c3 : O.length < 17592186044416 := by omega
  obtain ⟨r, a1, s1, e1, hr, ha2⟩ := spec_l1Cur_pick_ok l a sd 30 hl (by omega) (by omega)
  by_cases c0 : r = 0
  ·refine ⟨O ++ [0], ev_succ ?_, by rw [List.length_append, List.length_singleton]; omega⟩
   simp only [spec_DrawRunOrders.l0, c, e1, c0, c3, ↓reduceIte, Option.bind_some]
   exact Ev.now _
  ·by_cases c1 : r = 1
   ·by_cases c2 : (O.length : Int) > 0
    ·obtain ⟨v, a2, s2, e2, hv, ha3⟩ := spec_l1Cur_among_ok l a1 s1 [(-1), 40, 41] hl (by omega) (by simp)
     refine ⟨O.set (0 : Int).toNat v, ev_succ ?_, by rw [List.length_set]; omega⟩
     have c4 : 0 < (O.length : Int) := by omega
     subst c1
     simp only [spec_DrawRunOrders.l0, c, e1, e2, c2, c4, show ¬ (1 : Int) = 0 by omega, ↓reduceIte, Option.bind_some]
     exact Ev.now _
    ·refine ⟨O, ev_succ ?_, by omega⟩
     subst c1
     simp only [spec_DrawRunOrders.l0, c, e1, c2, show ¬ (1 : Int) = 0 by omega, ↓reduceIte, Option.bind_some]
     exact Ev.now _
   ·refine ⟨O, ev_succ ?_, by omega⟩
    simp only [spec_DrawRunOrders.l0, c, e1, c0, c1, ↓reduceIte, Option.bind_some]
    exact Ev.now _
 | succ d ih =>
  intro i a sd O hi hO ha hb
  have c : (i : Int) < (Q.length : Int) := by omega
  have c3 : O.length < 17592186044416 := by omega
  obtain ⟨v, a1, s1, e1, hv, ha2⟩ := spec_l1Cur_among_ok l a sd [0, 1, 3, 5, 9] hl (by omega) (by simp)
  obtain ⟨O', h1, h2⟩ := ih (i + 1) a1 s1 (O ++ [v]) (by omega) (by rw [List.length_append, List.length_singleton]; omega) (by omega) (by omega)
  refine ⟨O', ev_succ ?_, h2⟩
  have e2 : wrap64 ((i : Int) + 1) = ((i + 1 : Nat) : Int) := w64_nat (n := 1000) (by omega) (by omega)
  simp only [spec_DrawRunOrders.l0, c, e1, c3, e2, ↓reduceIte, Option.bind_some]
  exact h1
theorem ev_spec_DrawRunOrders (l : List Int) (hl : codeOk l) : ∃ st U O Q, Ev (fun k => spec_DrawRunOrders.f k l) (st, U, O, Q) ∧ U.length ≤ 20 ∧ O.length ≤ 101 ∧ Q.length ≤ 100 := by
 unfold spec_DrawRunOrders.f
 obtain ⟨st, U, a1, s1, h1, h2, h3⟩ := ev_spec_l1Cur_stream l 0 0 hl (by omega)
 obtain ⟨Q, a2, s2, h4, h5, h6⟩ := ev_spec_l1Cur_calls l a1 s1 hl (by omega)
 obtain ⟨O, h7, h8⟩ := ev_spec_DrawRunOrders_l0 l hl st U Q h5 Q.length 0 a2 s2 [] (by omega) rfl (by omega) (by omega)
 exact ⟨st, U, O, Q, Ev.bind h1 (Ev.bind h4 (by simpa using h7)), h2, h8, h5⟩

def dayOk (O Q : List Int) (i : Nat) (s : Int) (U : List Int) : Bool := (inB (rd O (i : Int)) 0 40 && inB (rd Q (i : Int)) 0 20) && flowB (dayStock s U (rd O (i : Int)) (rd Q (i : Int))) (dayUnder U (rd O (i : Int)))
def runFrom (O Q : List Int) : Nat → Nat → List Int → Int → List Int → List Int × Int × List Int × Bool
 | 0, _, o, s, U => (o, s, U, true)
 | d + 1, i, o, s, U => if dayOk O Q i s U = true then runFrom O Q d (i + 1) (o ++ [dayStock s U (rd O (i : Int)) (rd Q (i : Int))]) (dayStock s U (rd O (i : Int)) (rd Q (i : Int))) (dayUnder U (rd O (i : Int))) else ([], 0, [], false)
def runV (a : Int) (l O Q : List Int) : List Int × Int × List Int × Bool := if (flowB a l && (decide ((O.length : Int) = (Q.length : Int)) && !decide ((Q.length : Int) > 20))) = true then runFrom O Q O.length 0 [] a l else ([], 0, [], false)
theorem runFrom_length (O Q : List Int) (d : Nat) : ∀ (i : Nat) (o : List Int) (s : Int) (U : List Int), U.length ≤ 4 → (runFrom O Q d i o s U).1.length ≤ o.length + d ∧ (runFrom O Q d i o s U).2.2.1.length ≤ 4 := by
 induction d with
 | zero => intro i o s U hU; simpa [runFrom] using hU
 | succ d ih =>
  intro i o s U hU
  rw [runFrom]
  split
  ·have := ih (i + 1) (o ++ [dayStock s U (rd O (i : Int)) (rd Q (i : Int))]) (dayStock s U (rd O (i : Int)) (rd Q (i : Int))) (dayUnder U (rd O (i : Int))) (by rw [dayUnder_length]; exact hU)
   rw [List.length_append, List.length_singleton] at this
   omega
  ·simp
theorem runV_length (a : Int) (l O Q : List Int) : (runV a l O Q).1.length ≤ 20 ∧ (runV a l O Q).2.2.1.length ≤ 4 := by
 unfold runV
 by_cases h : (flowB a l && (decide ((O.length : Int) = (Q.length : Int)) && !decide ((Q.length : Int) > 20))) = true
 ·rw [if_pos h]
  simp only [Bool.and_eq_true, decide_eq_true_eq, Bool.not_eq_true', decide_eq_false_iff_not] at h
  have hm := flowB_mem h.1
  have := runFrom_length O Q O.length 0 [] a l hm.2.1
  simp only [List.length_nil, Nat.zero_add] at this
  omega
 ·rw [if_neg h]; simp

theorem ev_impl_RunOrders_l0 (O Q : List Int) (hO : O.length ≤ 20) (hQ : O.length = Q.length) (d : Nat) : ∀ (i : Nat) (o : List Int) (s : Int) (U : List Int), i + d = O.length → o.length ≤ i → flowB s U = true → Ev (fun k => impl_RunOrders.l0 k Q o O (O.length : Int) (i : Int) s U) (runFrom O Q d i o s U) := by
 induction d with
 | zero =>
  intro i o s U hi ho hf
  refine ev_succ ?_
  have h1 : ¬ (i : Int) < (O.length : Int) := by omega
  simp only [impl_RunOrders.l0, h1, ↓reduceIte, runFrom]
  exact Ev.now _
 | succ d ih =>
  intro i o s U hi ho hf
  have hm := flowB_mem hf
  refine ev_succ ?_
  have h1 : (i : Int) < (O.length : Int) := by omega
  have h0 : (0 : Int) ≤ (i : Int) := by omega
  have h2 : (i : Int) < (Q.length : Int) := by omega
  have h3 : o.length < 17592186044416 := by omega
  have hi' : i < O.length := by omega
  simp only [impl_RunOrders.l0, h1, h0, h2, h3, ↓reduceIte, w64_nat hi' (by omega : O.length ≤ 9223372036854775807)]
  refine Ev.bind (ev_impl_Flow_day s U (rd O (i : Int)) (rd Q (i : Int)) (by omega)) ?_
  unfold fdayV
  rw [runFrom]
  by_cases hd : dayOk O Q i s U = true
  ·have hd2 := hd
   unfold dayOk at hd2
   rw [Bool.and_eq_true] at hd2
   simp only [hd, hd2.1, hd2.2, ↓reduceIte]
   exact ih (i + 1) _ _ _ (by omega) (by simp; omega) hd2.2
  ·simp only [hd, Bool.false_eq_true, ↓reduceIte]
   by_cases hb : (inB (rd O (i : Int)) 0 40 && inB (rd Q (i : Int)) 0 20) = true
   ·have hn : flowB (dayStock s U (rd O (i : Int)) (rd Q (i : Int))) (dayUnder U (rd O (i : Int))) = false := by
     unfold dayOk at hd
     rw [hb, Bool.true_and, Bool.not_eq_true] at hd
     exact hd
    simp only [hb, hn, Bool.false_eq_true, ↓reduceIte]
    exact Ev.now _
   ·simp only [hb, Bool.false_eq_true, ↓reduceIte]
    exact Ev.now _
theorem ev_impl_RunOrders_no (a : Int) (l O Q : List Int) : Ev (fun k => impl_RunOrders.j0 k O Q true a l) ([], 0, [], false) := by
 refine ev_succ ?_
 simp only [impl_RunOrders.j0, ↓reduceIte]
 exact Ev.now _
theorem ev_impl_RunOrders (a : Int) (l O Q : List Int) (hl : l.length ≤ 9223372036854775807) : Ev (fun k => impl_RunOrders.f k a l O Q) (runV a l O Q) := by
 unfold impl_RunOrders.f runV
 refine Ev.bind (ev_impl_IsFlow a l hl) ?_
 refine ev_ite (fun h1 => ?_) (fun h1 => ?_)
 ·refine ev_ite (fun h2 => ?_) (fun h2 => ?_)
  ·refine ev_eq (ev_impl_RunOrders_no _ _ _ _) ?_
   rw [if_neg]
   simp only [Bool.and_eq_true, decide_eq_true_eq, Bool.not_eq_true', decide_eq_false_iff_not]
   omega
  ·by_cases h3 : (O.length : Int) = (Q.length : Int)
   ·rw [bne_eq_false_iff_eq.2 h3, if_pos (by simp [h1, h3]; omega)]
    have hm := flowB_mem h1
    refine ev_succ ?_
    simp only [impl_RunOrders.j0, Bool.false_eq_true, ↓reduceIte, impl_copied_f l (by omega), Option.bind_some]
    exact ev_impl_RunOrders_l0 O Q (by omega) (by omega) O.length 0 [] a l (by omega) (by simp) h1
   ·rw [bne_iff_ne.2 h3]
    refine ev_eq (ev_impl_RunOrders_no _ _ _ _) ?_
    rw [if_neg (by simp [h3])]
 ·exact ev_eq (ev_impl_RunOrders_no _ _ _ _) (by simp [h1])

theorem ev_spec_DayOf_no (a : Int) (l : List Int) (o q : Int) : Ev (fun k => spec_DayOf.j0 k o q true a l) (0, [], false) := by
 refine ev_succ ?_
 simp only [spec_DayOf.j0, ↓reduceIte]
 exact Ev.now _
theorem ev_spec_DayOf (a : Int) (l : List Int) (o q : Int) (hl : l.length ≤ 9223372036854775807) : Ev (fun k => spec_DayOf.f k a l o q) (dayV a l o q) := by
 unfold spec_DayOf.f dayV
 simp only [spec_l1In_f, Option.bind_some]
 refine Ev.bind (ev_spec_l11Flow a l hl) ?_
 refine ev_ite (fun h1 => ?_) (fun h1 => ?_)
 ·have hm := flowB_mem h1
  refine ev_ite (fun h2 => ?_) (fun h2 => ?_)
  ·cases h3 : inB q 0 20 with
   | false => exact ev_eq (ev_spec_DayOf_no a l o q) (by simp)
   | true =>
    refine ev_succ ?_
    simp only [spec_DayOf.j0, Bool.not_true, Bool.false_eq_true, ↓reduceIte, spec_l11Day_f a l o q (by omega), Option.bind_some]
    refine Ev.bind (ev_spec_l11Flow _ _ (by rw [dayUnder_length]; omega)) ?_
    refine ev_ite (fun h4 => ?_) (fun h4 => ?_)
    ·exact ev_eq (Ev.now _) (by rw [h1, h2, h4]; rfl)
    ·exact ev_eq (Ev.now _) (by simp [h4])
  ·exact ev_eq (ev_spec_DayOf_no a l o q) (by simp [h2])
 ·exact ev_eq (ev_spec_DayOf_no a l o q) (by simp [h1])

theorem ev_spec_RunOrders_l0 (O Q : List Int) (hO : O.length ≤ 20) (hQ : O.length = Q.length) (d : Nat) : ∀ (i : Nat) (o : List Int) (s : Int) (U : List Int), i + d = O.length → o.length ≤ i → flowB s U = true → Ev (fun k => spec_RunOrders.l0 k O Q o (i : Int) s U) (runFrom O Q d i o s U) := by
 induction d with
 | zero =>
  intro i o s U hi ho hf
  refine ev_succ ?_
  have h1 : ¬ (i : Int) < (O.length : Int) := by omega
  simp only [spec_RunOrders.l0, h1, ↓reduceIte, runFrom]
  exact Ev.now _
 | succ d ih =>
  intro i o s U hi ho hf
  have hm := flowB_mem hf
  refine ev_succ ?_
  have h1 : (i : Int) < (O.length : Int) := by omega
  have h0 : (0 : Int) ≤ (i : Int) := by omega
  have h2 : (i : Int) < (Q.length : Int) := by omega
  have h3 : o.length < 17592186044416 := by omega
  have hi' : i < O.length := by omega
  simp only [spec_RunOrders.l0, h1, h0, h2, h3, ↓reduceIte, w64_nat hi' (by omega : O.length ≤ 9223372036854775807)]
  refine Ev.bind (ev_spec_DayOf s U (rd O (i : Int)) (rd Q (i : Int)) (by omega)) ?_
  have e : dayV s U (rd O (i : Int)) (rd Q (i : Int)) = if dayOk O Q i s U = true then (dayStock s U (rd O (i : Int)) (rd Q (i : Int)), dayUnder U (rd O (i : Int)), true) else (0, [], false) := by
   unfold dayV dayOk
   rw [hf, Bool.true_and]
  rw [e, runFrom]
  by_cases hd : dayOk O Q i s U = true
  ·simp only [hd, ↓reduceIte]
   refine ih (i + 1) _ _ _ (by omega) (by simp; omega) ?_
   unfold dayOk at hd
   rw [Bool.and_eq_true] at hd
   exact hd.2
  ·simp only [hd, Bool.false_eq_true, ↓reduceIte]
   exact Ev.now _
theorem ev_spec_RunOrders_no (a : Int) (l O Q : List Int) : Ev (fun k => spec_RunOrders.j0 k O Q [] true a l) ([], 0, [], false) := by
 refine ev_succ ?_
 simp only [spec_RunOrders.j0, ↓reduceIte]
 exact Ev.now _
theorem ev_spec_RunOrders (a : Int) (l O Q : List Int) (hl : l.length ≤ 9223372036854775807) : Ev (fun k => spec_RunOrders.f k a l O Q) (runV a l O Q) := by
 unfold spec_RunOrders.f runV
 simp only [Option.bind_some]
 refine Ev.bind (ev_spec_l11Flow a l hl) ?_
 refine ev_ite (fun h1 => ?_) (fun h1 => ?_)
 ·refine ev_ite (fun h2 => ?_) (fun h2 => ?_)
  ·by_cases h3 : (Q.length : Int) > 20
   ·rw [decide_eq_true h3]
    exact ev_eq (ev_spec_RunOrders_no _ _ _ _) (by simp)
   ·rw [decide_eq_false h3, if_pos (by simp [h1, h2])]
    have hm := flowB_mem h1
    refine ev_succ ?_
    simp only [spec_RunOrders.j0, Bool.false_eq_true, ↓reduceIte, spec_l1Own_f l (by omega), Option.bind_some]
    exact ev_spec_RunOrders_l0 O Q (by omega) (by omega) O.length 0 [] a l (by omega) (by simp) h1
  ·exact ev_eq (ev_spec_RunOrders_no _ _ _ _) (by simp [h2])
 ·exact ev_eq (ev_spec_RunOrders_no _ _ _ _) (by simp [h1])

theorem ev_laws_rSum_l0 (l : List Int) (hl : l.length ≤ 9223372036854775807) (d : Nat) : ∀ (i : Nat) (x : Int), i + d = l.length → wrap64 x = x → Ev (fun k => laws_rSum.l0 k l x (i : Int)) (wrap64 (x + (l.drop i).sum)) := by
 induction d with
 | zero =>
  intro i x hi hx
  refine ev_succ ?_
  have h1 : ¬ (i : Int) < (l.length : Int) := by omega
  simp only [laws_rSum.l0, h1, ↓reduceIte]
  rw [List.drop_eq_nil_of_le (by omega), List.sum_nil, Int.add_zero, hx]
  exact Ev.now _
 | succ d ih =>
  intro i x hi hx
  refine ev_succ ?_
  have h1 : (i : Int) < (l.length : Int) := by omega
  have h0 : (0 : Int) ≤ (i : Int) := by omega
  have hi' : i < l.length := by omega
  simp only [laws_rSum.l0, h1, h0, ↓reduceIte, w64_nat hi' hl, rd_nat hi']
  refine ev_eq (ih (i + 1) _ (by omega) (w64_idem _)) ?_
  rw [w64_add_l, drop_cons hi', List.sum_cons, Int.add_assoc]
theorem ev_laws_rSum (l : List Int) (hl : l.length ≤ 9223372036854775807) : Ev (fun k => laws_rSum.f k l) (wrap64 l.sum) := by
 unfold laws_rSum.f
 refine ev_eq (ev_laws_rSum_l0 l hl l.length 0 0 (by omega) w64_zero) ?_
 simp

def Days (k lo hi : Int) (O T Q : List Int) : Nat → Nat → Int → List Int → Prop
 | 0, _, _, _ => True
 | d + 1, i, s, U => rOk k lo hi Q i s U = true ∧ rd O (i : Int) = rOrd k lo hi s U ∧ rd T (i : Int) = dayStock s U (rd O (i : Int)) (rd Q (i : Int)) ∧ Days k lo hi O T Q d (i + 1) (dayStock s U (rd O (i : Int)) (rd Q (i : Int))) (dayUnder U (rd O (i : Int)))
theorem rd_take {o O : List Int} {i : Nat} {x : Int} (h : O.take (i + 1) = o ++ [x]) (ho : o.length = i) : rd O (i : Int) = x := by
 have h2 : (O.take (i + 1))[i]? = some x := by rw [h, List.getElem?_append_right (by omega), ho]; simp
 rw [List.getElem?_take_of_lt (by omega)] at h2
 unfold rd
 rw [List.getD_eq_getElem?_getD, Int.toNat_natCast, h2]
 rfl
theorem rFrom_days (k lo hi : Int) (Q O T : List Int) (V : Int) (d : Nat) : ∀ (i : Nat) (o t : List Int) (v s : Int) (U : List Int), o.length = i → t.length = i → 0 ≤ v → v + 20 * d ≤ 1000 → rFrom k lo hi Q d i o t v s U = (O, T, V, true) →
  Days k lo hi O T Q d i s U ∧ O.length = i + d ∧ T.length = i + d ∧ O.take i = o ∧ T.take i = t ∧ v ≤ V ∧ V ≤ v + ((Q.drop i).take d).sum := by
 induction d with
 | zero =>
  intro i o t v s U ho ht hv hv2 h
  rw [rFrom] at h
  injection h with h1 h2
  injection h2 with h2 h3
  injection h3 with h3 h4
  subst h1; subst h2; subst h3
  exact ⟨trivial, by omega, by omega, List.take_of_length_le (by omega), List.take_of_length_le (by omega), Int.le_refl _, by simp⟩
 | succ d ih =>
  intro i o t v s U ho ht hv hv2 h
  rw [rFrom] at h
  by_cases hc : rOk k lo hi Q i s U = true
  ·rw [if_pos hc] at h
   have hq : 0 ≤ rd Q (i : Int) ∧ rd Q (i : Int) ≤ 20 := by
    unfold rOk at hc
    simp only [Bool.and_eq_true, inB_iff] at hc
    exact hc.1.2
   have hm : 0 ≤ mx 0 (mn (rd Q (i : Int)) (dayBefore s U (rOrd k lo hi s U))) ∧ mx 0 (mn (rd Q (i : Int)) (dayBefore s U (rOrd k lo hi s U))) ≤ rd Q (i : Int) := by unfold mx mn; omega
   have e1 : wrap64 (v + mx 0 (mn (rd Q (i : Int)) (dayBefore s U (rOrd k lo hi s U)))) = v + mx 0 (mn (rd Q (i : Int)) (dayBefore s U (rOrd k lo hi s U))) := w64 (by omega) (by omega)
   rw [e1] at h
   obtain ⟨h1, h2, h3, h4, h5, h6, h7⟩ := ih (i + 1) _ _ _ _ _ (by simp [ho]) (by simp [ht]) (by omega) (by omega) h
   have r1 := rd_take h4 ho
   have r2 := rd_take h5 ht
   refine ⟨⟨hc, r1, by rw [r2, r1], by rw [r1]; exact h1⟩, by omega, by omega, ?_, ?_, by omega, ?_⟩
   ·have := congrArg (List.take i) h4
    rw [List.take_take, Nat.min_eq_left (by omega), List.take_append_of_le_length (by omega), List.take_of_length_le (l := o) (by omega)] at this
    exact this
   ·have := congrArg (List.take i) h5
    rw [List.take_take, Nat.min_eq_left (by omega), List.take_append_of_le_length (by omega), List.take_of_length_le (l := t) (by omega)] at this
    exact this
   ·by_cases hi : i < Q.length
    ·rw [drop_cons hi, List.take_succ_cons, List.sum_cons]
     rw [rd_nat hi] at hq hm h7
     omega
    ·have e0 : Q.drop i = [] := List.drop_of_length_le (by omega)
     have e2 : Q.drop (i + 1) = [] := List.drop_of_length_le (by omega)
     have e3 : rd Q (i : Int) = 0 := by
      unfold rd
      rw [List.getD_eq_getElem?_getD, Int.toNat_natCast, List.getElem?_eq_none (by omega)]
      rfl
     rw [e2] at h7
     rw [e0]
     rw [e3] at hm h7
     simp at h7 ⊢
     omega
  ·rw [if_neg hc] at h
   injection h with h1 h2
   injection h2 with h2 h3
   injection h3 with h3 h4
   cases h4
def stt (O Q : List Int) : Nat → Nat → Int → List Int → Int × List Int
 | 0, _, s, U => (s, U)
 | d + 1, i, s, U => stt O Q d (i + 1) (dayStock s U (rd O (i : Int)) (rd Q (i : Int))) (dayUnder U (rd O (i : Int)))
theorem days_run (k lo hi : Int) (O T Q : List Int) (d : Nat) : ∀ (i : Nat) (s : Int) (U : List Int), i + d = T.length → Days k lo hi O T Q d i s U → runFrom O Q d i (T.take i) s U = (T, (stt O Q d i s U).1, (stt O Q d i s U).2, true) := by
 induction d with
 | zero =>
  intro i s U hi _
  rw [runFrom, List.take_of_length_le (by omega)]
  rfl
 | succ d ih =>
  intro i s U hi h
  obtain ⟨h1, h2, h3, h4⟩ := h
  have hok : dayOk O Q i s U = true := by
   unfold dayOk
   unfold rOk at h1
   rw [h2]
   exact h1
  have hT : T.take (i + 1) = T.take i ++ [dayStock s U (rd O (i : Int)) (rd Q (i : Int))] := by
   rw [← h3, List.take_add_one, List.getElem?_eq_getElem (show i < T.length by omega), rd_nat (show i < T.length by omega)]
   rfl
  rw [runFrom, if_pos hok, ← hT, ih (i + 1) _ _ (by omega) h4]
  rfl
theorem day_sum {st o q : Int} {U : List Int} (hf : flowB st U = true) (hb : (inB o 0 40 && inB q 0 20) = true) : dayStock st U o q + (dayUnder U o).sum = st + U.sum + o - q ∧ ∃ f, rd (U ++ [o]) 0 = f ∧ 0 ≤ f ∧ f ≤ 40 ∧ dayStock st U o q = st + f - q := by
 have hm := flowB_mem hf
 rw [Bool.and_eq_true, inB_iff, inB_iff] at hb
 have hx : ∃ f, rd (U ++ [o]) 0 = f ∧ 0 ≤ f ∧ f ≤ 40 ∧ (dayUnder U o).sum = U.sum + o - f := by
  unfold dayUnder
  cases U with
  | nil => exact ⟨o, rfl, by omega, by omega, by simp⟩
  | cons u U =>
   have := hm.2.2 u (List.mem_cons_self ..)
   refine ⟨u, rfl, by omega, by omega, ?_⟩
   simp [List.sum_append]
   omega
 obtain ⟨f, e1, f0, f1, e2⟩ := hx
 have ed : dayStock st U o q = st + f - q := by
  unfold dayStock
  rw [e1, w64 (x := st + f) (by omega) (by omega), w64 (by omega) (by omega)]
 exact ⟨by omega, f, e1, f0, f1, ed⟩
theorem days_pos (k lo hi : Int) (O T Q : List Int) (d : Nat) : ∀ (i : Nat) (s : Int) (U : List Int), i + d ≤ O.length → i + d ≤ Q.length → flowB s U = true → Days k lo hi O T Q d i s U → flowB (stt O Q d i s U).1 (stt O Q d i s U).2 = true ∧ (stt O Q d i s U).1 + (stt O Q d i s U).2.sum = s + U.sum + ((O.drop i).take d).sum - ((Q.drop i).take d).sum := by
 induction d with
 | zero => intro i s U _ _ hf _; exact ⟨hf, by simp [stt]⟩
 | succ d ih =>
  intro i s U hi hj hf h
  obtain ⟨h1, h2, h3, h4⟩ := h
  unfold rOk at h1
  rw [Bool.and_eq_true, ← h2] at h1
  obtain ⟨a, b⟩ := ih (i + 1) _ _ (by omega) (by omega) h1.2 h4
  refine ⟨a, ?_⟩
  have hd := (day_sum hf h1.1).1
  rw [stt, b, drop_cons (show i < O.length by omega), drop_cons (show i < Q.length by omega), List.take_succ_cons, List.take_succ_cons, List.sum_cons, List.sum_cons, ← rd_nat (show i < O.length by omega), ← rd_nat (show i < Q.length by omega)]
  omega
theorem days_part (k lo hi : Int) (O T Q : List Int) (d : Nat) : ∀ (m i : Nat) (s : Int) (U : List Int), m ≤ d → Days k lo hi O T Q d i s U → Days k lo hi O T Q m i s U := by
 induction d with
 | zero => intro m i s U hm h; rw [show m = 0 by omega]; trivial
 | succ d ih =>
  intro m i s U hm h
  cases m with
  | zero => trivial
  | succ m =>
   obtain ⟨h1, h2, h3, h4⟩ := h
   exact ⟨h1, h2, h3, ih m (i + 1) _ _ (by omega) h4⟩
theorem stt_under (O Q : List Int) (d : Nat) : ∀ (i : Nat) (s : Int) (U : List Int), i + d ≤ O.length → (stt O Q d i s U).2 = (U ++ (O.drop i).take d).drop d := by
 induction d with
 | zero => intro i s U _; simp [stt]
 | succ d ih =>
  intro i s U hi
  rw [stt, ih (i + 1) _ _ (by omega), drop_cons (show i < O.length by omega), List.take_succ_cons, ← rd_nat (show i < O.length by omega)]
  unfold dayUnder
  cases U with
  | nil => simp
  | cons u U => simp
theorem stt_stock (k lo hi : Int) (O T Q : List Int) (d : Nat) : ∀ (i : Nat) (s : Int) (U : List Int), Days k lo hi O T Q (d + 1) i s U → rd T ((i + d : Nat) : Int) = (stt O Q (d + 1) i s U).1 := by
 induction d with
 | zero => intro i s U h; exact h.2.2.1
 | succ d ih =>
  intro i s U h
  have := ih (i + 1) _ _ h.2.2.2
  rw [show i + (d + 1) = i + 1 + d by omega, this]
  rfl
theorem lead_stock {k lo hi : Int} {O T Q : List Int} {lead i : Nat} {s : Int} {U : List Int} (hU : U.length = lead) (hi1 : i + lead + 1 ≤ O.length) (hj : i + lead + 1 ≤ Q.length) (hf : flowB s U = true) (h : Days k lo hi O T Q (lead + 1) i s U) : rd T ((i + lead : Nat) : Int) = s + U.sum + rd O (i : Int) - ((Q.take (i + lead + 1)).drop i).sum := by
 have h1 := stt_stock k lo hi O T Q lead i s U h
 have h2 := (days_pos k lo hi O T Q (lead + 1) i s U (by omega) (by omega) hf h).2
 have h3 := stt_under O Q (lead + 1) i s U (by omega)
 rw [drop_cons (show i < O.length by omega), List.take_succ_cons, ← rd_nat (show i < O.length by omega)] at h3 h2
 have h4 : (U ++ rd O (i : Int) :: ((O.drop (i + 1)).take lead)).drop (lead + 1) = (O.drop (i + 1)).take lead := by
  rw [List.drop_append, List.drop_of_length_le (by omega), List.nil_append, show lead + 1 - U.length = 1 by omega]
  rfl
 rw [h4] at h3
 rw [h3, List.sum_cons] at h2
 have h5 : (Q.take (i + lead + 1)).drop i = (Q.drop i).take (lead + 1) := by
  rw [List.drop_take, show i + lead + 1 - i = lead + 1 by omega]
 rw [h1, h5]
 omega
theorem run_last (O Q : List Int) (d : Nat) : ∀ (i : Nat) (o : List Int) (s : Int) (U : List Int), (runFrom O Q d i o s U).2.2.2 = true → (0 < i → o.length = i ∧ rd o ((i : Int) - 1) = s) → (i = 0 → o = []) → 0 < (runFrom O Q d i o s U).1.length → rd (runFrom O Q d i o s U).1 (((runFrom O Q d i o s U).1.length : Int) - 1) = (runFrom O Q d i o s U).2.1 := by
 induction d with
 | zero =>
  intro i o s U _ h1 h2 h3
  simp only [runFrom] at h3 ⊢
  by_cases hi : i = 0
  ·rw [h2 hi] at h3; simp at h3
  ·obtain ⟨a, b⟩ := h1 (by omega)
   rw [a]; exact b
 | succ d ih =>
  intro i o s U h0 h1 h2 h3
  rw [runFrom] at h0 h3 ⊢
  by_cases hc : dayOk O Q i s U = true
  ·rw [if_pos hc] at h0 h3 ⊢
   have hl : o.length = i := by
    by_cases hi : i = 0
    ·rw [h2 hi, hi]; rfl
    ·exact (h1 (by omega)).1
   refine ih (i + 1) _ _ _ h0 (fun _ => ⟨by simp [hl], ?_⟩) (fun h => by omega) h3
   rw [show ((i + 1 : Nat) : Int) - 1 = (i : Int) by omega]
   unfold rd
   rw [List.getD_eq_getElem?_getD, Int.toNat_natCast, List.getElem?_append_right (by omega), hl]
   simp
  ·rw [if_neg hc] at h0; cases h0
theorem upto_next {lo hi s q : Int} {U : List Int} {o : Int} (ho : o = rOrd 1 lo hi s U) (hpos : 0 < o) (hf : flowB s U = true) (hb : (inB o 0 40 && inB q 0 20) = true) : rOrd 1 lo hi (dayStock s U o q) (dayUnder U o) = q := by
 have hd := (day_sum hf hb).1
 rw [Bool.and_eq_true, inB_iff, inB_iff] at hb
 unfold rOrd ordV at ho ⊢
 rw [if_pos rfl] at ho ⊢
 unfold mx at ho ⊢
 omega

theorem wf_u8 {x : Int} (h : (Lit.int .u8 x).wf = true) : 0 ≤ x ∧ x ≤ 255 := by
 simp [Lit.wf, IntKind.min, IntKind.max, IntKind.signed, IntKind.bits] at h
 omega

theorem fl_add {x y : Int} (hx : -2000 ≤ x ∧ x ≤ 2000) (hy : -2000 ≤ y ∧ y ≤ 2000) : wrap64 (x + y) = x + y := w64 (by omega) (by omega)
theorem fl_sub {x y : Int} (hx : -2000 ≤ x ∧ x ≤ 2000) (hy : -2000 ≤ y ∧ y ≤ 2000) : wrap64 (x - y) = x - y := w64 (by omega) (by omega)
theorem fl_nat {i j : Nat} (hi : i ≤ 100) (hj : j ≤ 100) : wrap64 ((i : Int) + (j : Int)) = ((i + j : Nat) : Int) := by rw [w64 (by omega) (by omega)]; rfl
theorem needsV_get {Q : List Int} {lead i : Nat} (h : i < Q.length - lead) : rd (needsV Q (lead : Int)) (i : Int) = wrap64 ((Q.take (i + lead + 1)).drop i).sum := by
 have hl : i < (needsV Q (lead : Int)).length := by unfold needsV; rw [needsFrom_length]; omega
 rw [rd_nat hl]
 unfold needsV needsFrom
 simp
theorem part_sum {Q : List Int} (hq : ∀ x ∈ Q, 0 ≤ x ∧ x ≤ 20) (hn : Q.length ≤ 20) (i j : Nat) : 0 ≤ ((Q.take j).drop i).sum ∧ ((Q.take j).drop i).sum ≤ 400 := by
 have hm : ∀ y ∈ ((Q.take j).drop i), 0 ≤ y ∧ y ≤ 20 := fun y hy => hq y (List.mem_of_mem_take (List.mem_of_mem_drop hy))
 have s1 := sum_le (b := 20) (fun y hy => (hm y hy).2)
 have s2 := le_sum (b := 0) (fun y hy => (hm y hy).1)
 have : ((Q.take j).drop i).length ≤ 20 := by rw [List.length_drop, List.length_take]; omega
 omega
theorem ev_FnLeads_l0 (k lo hi : Int) (O T Q : List Int) (lead : Nat) (hO : O.length = Q.length) (hT : T.length = Q.length) (hQ : Q.length ≤ 20) (hq : ∀ x ∈ Q, 0 ≤ x ∧ x ≤ 20) (hle : lead ≤ 4) (d : Nat) : ∀ (i : Nat) (s : Int) (U : List Int), i + d = Q.length → U.length = lead → flowB s U = true → Days k lo hi O T Q d i s U → (0 < i → k = 1 → 0 < rd O ((i : Int) - 1) → rOrd 1 lo hi s U = rd Q ((i : Int) - 1)) → Ev (fun n => laws_FnLeads.l0 n Q O T (lead : Int) (needsV Q (lead : Int)) (s + U.sum) (i : Int) k lo hi) true := by
 induction d with
 | zero =>
  intro i s U hi' hU hf hD hp
  refine ev_succ ?_
  have h1 : ¬ (i : Int) < (Q.length : Int) := by omega
  simp only [laws_FnLeads.l0, h1, ↓reduceIte]
  exact Ev.now _
 | succ d ih =>
  intro i s U hi' hU hf hD hp
  have hD0 := hD
  obtain ⟨hok, ho, ht, hD2⟩ := hD
  have hok2 := hok
  unfold rOk at hok2
  rw [Bool.and_eq_true, ← ho] at hok2
  have hb := hok2.1
  have hbb := hb
  rw [Bool.and_eq_true, inB_iff, inB_iff] at hbb
  have hpr := pos_range hf
  have hds := (day_sum hf hb).1
  have hiQ : i < Q.length := by omega
  have hiO : i < O.length := by omega
  have hnl : (needsV Q (lead : Int)).length = Q.length - lead := by unfold needsV; rw [needsFrom_length]; omega
  have c1 : (i : Int) < (Q.length : Int) := by omega
  have c2 : (0 : Int) ≤ (i : Int) := by omega
  have c3 : (i : Int) < (O.length : Int) := by omega
  have b1 : -2000 ≤ s + U.sum ∧ s + U.sum ≤ 2000 := by clear hds hok ht; omega
  have b2 : -2000 ≤ rd O (i : Int) ∧ rd O (i : Int) ≤ 2000 := by clear hds hok ht; omega
  have b3 : -2000 ≤ rd Q (i : Int) ∧ rd Q (i : Int) ≤ 2000 := by clear hds hok ht; omega
  have b4 : -2000 ≤ s + U.sum + rd O (i : Int) ∧ s + U.sum + rd O (i : Int) ≤ 2000 := by clear hds hok ht; omega
  have b5 : i ≤ 100 := by omega
  have hQm : Q.length ≤ 9223372036854775807 := by omega
  have hnext := ih (i + 1) _ _ (by omega) (by rw [dayUnder_length]; exact hU) hok2.2 hD2 (fun _ hk hpos => by
   have e : (((i + 1 : Nat) : Int) - 1) = (i : Int) := by omega
   rw [e] at hpos ⊢
   subst hk
   exact upto_next ho hpos hf hb)
  rw [hds] at hnext
  have hj : ∀ b : Bool, b = false → Ev (fun n => laws_FnLeads.j10 n Q O T (lead : Int) (needsV Q (lead : Int)) (s + U.sum + rd O (i : Int)) (i : Int) b k lo hi) true := by
   intro b hbf
   subst hbf
   refine ev_succ ?_
   simp only [laws_FnLeads.j10, Bool.false_eq_true, ↓reduceIte, c1, c2, c3, fl_sub b4 b3, w64_nat hiQ hQm]
   refine ev_ite (fun hk => ?_) (fun _ => hnext)
   refine ev_ite (fun hpos => ?_) (fun _ => hnext)
   simp only [fl_sub (show -2000 ≤ (i : Int) ∧ (i : Int) ≤ 2000 by omega) (show (-2000 : Int) ≤ 1 ∧ (1 : Int) ≤ 2000 by omega)]
   refine ev_yes (by omega) ?_
   refine ev_yes (by omega) ?_
   refine ev_ite (fun hop => ?_) (fun _ => hnext)
   refine ev_yes (by omega) ?_
   have h5 := hp (by omega) hk (by omega)
   refine ev_yes ?_ hnext
   rw [ho, hk]
   exact h5
  refine ev_succ ?_
  simp only [laws_FnLeads.l0, c1, c2, c3, fl_add b1 b2, ↓reduceIte]
  refine ev_ite (fun h => ?_) (fun _ => hj false rfl)
  have h6 : i < Q.length - lead := by omega
  have hls := lead_stock hU (by omega) (by omega) hf (days_part k lo hi O T Q (d + 1) (lead + 1) i s U (by omega) hD0)
  have hps := part_sum hq hQ i (i + lead + 1)
  simp only [fl_nat b5 (show lead ≤ 100 by omega), needsV_get h6]
  refine ev_yes (by omega) ?_
  refine ev_yes (by omega) ?_
  refine hj _ ?_
  rw [hls, w64 (x := ((Q.take (i + lead + 1)).drop i).sum) (by clear hls hds; omega) (by clear hls hds; omega), fl_sub b4 (by clear hls hds; omega), bne_self_eq_false]
theorem days_all (k lo hi : Int) (O T Q : List Int) (d : Nat) : ∀ (i : Nat) (s : Int) (U : List Int), Days k lo hi O T Q d i s U → ∀ j : Nat, i ≤ j → j < i + d → 0 ≤ rd Q (j : Int) ∧ rd Q (j : Int) ≤ 20 := by
 induction d with
 | zero => intro i s U _ j h1 h2; omega
 | succ d ih =>
  intro i s U h j h1 h2
  obtain ⟨hok, _, _, hD2⟩ := h
  by_cases e : j = i
  ·subst e
   unfold rOk at hok
   simp only [Bool.and_eq_true, inB_iff] at hok
   exact hok.1.2
  ·exact ih (i + 1) _ _ hD2 j (by omega) (by omega)
theorem ev_FnLeads_j5 (st : Int) (U : List Int) (k lo hi : Int) (Q O T : List Int) (hU : U.length ≤ 20) (hf : flowB st U = true) (hQ : Q.length ≤ 20) (hO : O.length = Q.length) (hT : T.length = Q.length) (hD : Days k lo hi O T Q Q.length 0 st U) : Ev (fun n => laws_FnLeads.j5 n Q O T false st U k lo hi) true := by
 have hq : ∀ x ∈ Q, 0 ≤ x ∧ x ≤ 20 := by
  intro x hx
  obtain ⟨j, hj, rfl⟩ := List.mem_iff_getElem.1 hx
  have := days_all k lo hi O T Q Q.length 0 st U hD j (by omega) (by omega)
  rwa [rd_nat hj] at this
 have hm := flowB_mem hf
 refine ev_succ ?_
 simp only [laws_FnLeads.j5, Bool.false_eq_true, ↓reduceIte]
 refine Ev.bind (ev_impl_RunOrders st U O Q (by omega)) ?_
 have hrun : runV st U O Q = (T, (stt O Q Q.length 0 st U).1, (stt O Q Q.length 0 st U).2, true) := by
  unfold runV
  rw [if_pos (by rw [hf]; simp only [Bool.true_and, Bool.and_eq_true, decide_eq_true_eq, Bool.not_eq_true', decide_eq_false_iff_not]; omega), hO, ← hT]
  have := days_run k lo hi O T Q T.length 0 st U (by omega) (by rw [hT]; exact hD)
  simpa using this
 rw [hrun]
 simp only [if_true]
 refine Ev.bind (ev_laws_rInts_self T (by omega)) ?_
 refine ev_succ ?_
 simp only [laws_FnLeads.j6, Bool.not_true, Bool.false_eq_true, ↓reduceIte]
 have hdp := days_pos k lo hi O T Q Q.length 0 st U (by omega) (by omega) hf hD
 have hm2 := flowB_mem hdp.1
 have hp2 := pos_range hdp.1
 have hp1 := pos_range hf
 refine Ev.bind (ev_impl_PositionOf _ _ (by omega)) ?_
 refine Ev.bind (ev_impl_PositionOf st U (by omega)) ?_
 unfold posV
 rw [if_pos hdp.1, if_pos hf]
 simp only [if_true]
 refine Ev.bind (ev_laws_rSum O (by omega)) ?_
 refine Ev.bind (ev_laws_rSum Q (by omega)) ?_
 have eO : ((O.drop 0).take Q.length).sum = O.sum := by rw [List.drop_zero, List.take_of_length_le (by omega)]
 have eQ : ((Q.drop 0).take Q.length).sum = Q.sum := by rw [List.drop_zero, List.take_of_length_le (by omega)]
 rw [eO, eQ] at hdp
 have e1 : wrap64 (wrap64 (wrap64 (st + wrap64 U.sum) + wrap64 O.sum) - wrap64 Q.sum) = st + U.sum + O.sum - Q.sum := by
  rw [hp1.1, w64_add_r, w64_sub_l, w64_sub_r]
  exact w64 (by omega) (by omega)
 have e2 : (wrap64 ((stt O Q Q.length 0 st U).1 + wrap64 (stt O Q Q.length 0 st U).2.sum) != wrap64 (wrap64 (wrap64 (st + wrap64 U.sum) + wrap64 O.sum) - wrap64 Q.sum)) = false := by
  rw [e1, hp2.1, hdp.2]
  exact bne_self_eq_false _
 rw [e2]
 refine ev_succ ?_
 simp only [laws_FnLeads.j7, Bool.false_eq_true, ↓reduceIte]
 have hask : askedB Q (U.length : Int) = true := by
  unfold askedB
  simp only [Bool.and_eq_true, decide_eq_true_eq, inB_iff]
  refine ⟨⟨by omega, ?_⟩, by omega⟩
  unfold allB
  rw [List.all_eq_true]
  intro x hx
  exact decide_eq_true (hq x hx)
 have hv1 := ev_impl_LeadNeeds Q (U.length : Int) (by omega)
 have hv2 := ev_spec_LeadNeeds Q (U.length : Int) (by omega)
 unfold leadV at hv1 hv2
 rw [if_pos hask] at hv1 hv2
 refine Ev.bind hv1 ?_
 refine Ev.bind hv2 ?_
 simp only [if_true]
 refine Ev.bind (ev_laws_rInts_self _ (by unfold needsV; rw [needsFrom_length]; omega)) ?_
 refine ev_succ ?_
 simp only [laws_FnLeads.j8, Bool.not_true, Bool.false_eq_true, ↓reduceIte]
 rw [hp1.1]
 exact ev_FnLeads_l0 k lo hi O T Q U.length hO hT hQ hq hm.2.1 Q.length 0 st U (by omega) rfl hf hD (fun h => by omega)
theorem ev_FnLeads_j4 (st : Int) (U : List Int) (k lo hi : Int) (Q : List Int) (hU : U.length ≤ 20) (hQ : Q.length ≤ 100) : Ev (fun n => laws_FnLeads.j4 n Q (rRunV st U k lo hi Q).1 (rRunV st U k lo hi Q).2.1 (rRunV st U k lo hi Q).2.2.2 (serviceV st U k lo hi Q).1 (serviceV st U k lo hi Q).2.1 false st U k lo hi) true := by
 refine ev_succ ?_
 simp only [laws_FnLeads.j4, Bool.false_eq_true, ↓reduceIte]
 refine ev_ite (fun hok => ?_) (fun _ => Ev.now _)
 unfold serviceV
 rw [if_pos hok]
 by_cases hc : (flowB st U && (ruleB k lo hi && decide ((Q.length : Int) ≤ 20))) = true
 ·have hc2 := hc
  simp only [Bool.and_eq_true, decide_eq_true_eq] at hc2
  have hr : rRunV st U k lo hi Q = rFrom k lo hi Q Q.length 0 [] [] 0 st U := by unfold rRunV; rw [if_pos hc]
  rw [hr] at hok ⊢
  obtain ⟨O, T, V, b, he⟩ : ∃ O T V b, rFrom k lo hi Q Q.length 0 [] [] 0 st U = (O, T, V, b) := ⟨_, _, _, _, rfl⟩
  rw [he] at hok ⊢
  dsimp only at hok ⊢
  subst hok
  obtain ⟨hD, hO, hT, _, _, hv1, hv2⟩ := rFrom_days k lo hi Q O T V Q.length 0 [] [] 0 st U rfl rfl (by omega) (by omega) he
  have eQ : ((Q.drop 0).take Q.length).sum = Q.sum := by rw [List.drop_zero, List.take_of_length_le (by omega)]
  rw [eQ] at hv2
  have hq : ∀ x ∈ Q, x ≤ 20 := by
   intro x hx
   obtain ⟨j, hj, rfl⟩ := List.mem_iff_getElem.1 hx
   have := days_all k lo hi O T Q Q.length 0 st U hD j (by omega) (by omega)
   rw [rd_nat hj] at this
   exact this.2
  have s1 := sum_le hq
  have e : wrap64 Q.sum = Q.sum := w64 (by omega) (by omega)
  refine ev_no (by omega) ?_
  refine ev_no (by rw [e]; omega) ?_
  refine Ev.bind (ev_laws_rSum Q (by omega)) ?_
  rw [bne_self_eq_false]
  exact ev_FnLeads_j5 st U k lo hi Q O T hU hc2.1 (by omega) (by omega) (by omega) hD
 ·have hr : rRunV st U k lo hi Q = ([], [], 0, false) := by unfold rRunV; rw [if_neg hc]
  rw [hr] at hok
  cases hok
theorem FnLeads (l0 : List (Int)) (h0 : l0.length ≤ 9223372036854775807) (w0 : ∀ y ∈ l0, (Lit.int .u8 y).wf = true) : ∃ k, laws_FnLeads.f k l0 = some true := by
 refine Ev.rounds ?_
 have hl : codeOk l0 := fun x hx => wf_u8 (w0 x hx)
 unfold laws_FnLeads.f
 simp only [laws_rBig.f, Option.bind_some]
 refine ev_ite (fun h => Ev.now _) (fun _ => ?_)
 obtain ⟨st, U, k, lo, hi, Q, h1, hU, hQ⟩ := ev_spec_DrawRunRule l0 hl
 refine Ev.bind h1 ?_
 dsimp only
 refine Ev.bind (ev_impl_RunRule st U k lo hi Q (by omega) (by omega)) ?_
 refine Ev.bind (ev_spec_RunRule st U k lo hi Q (by omega) (by omega)) ?_
 have hlen : (rRunV st U k lo hi Q).1.length ≤ 100 ∧ (rRunV st U k lo hi Q).2.1.length ≤ 100 := by
  unfold rRunV
  by_cases hc : (flowB st U && (ruleB k lo hi && decide ((Q.length : Int) ≤ 20))) = true
  ·rw [if_pos hc]
   have := rFrom_length k lo hi Q Q.length 0 [] [] 0 st U
   simp only [List.length_nil] at this
   omega
  ·rw [if_neg hc]; simp
 have hj4 := ev_FnLeads_j4 st U k lo hi Q hU hQ
 simp only [bne_self_eq_false, Bool.false_eq_true, ↓reduceIte]
 refine Ev.bind (ev_laws_rInts_self _ (by omega)) ?_
 simp only [if_true]
 refine Ev.bind (ev_laws_rInts_self _ (by omega)) ?_
 refine ev_succ ?_
 simp only [laws_FnLeads.j0, Bool.not_true, Bool.false_eq_true, ↓reduceIte]
 refine Ev.bind (ev_impl_ServiceOf st U k lo hi Q (by omega) (by omega)) ?_
 refine Ev.bind (ev_spec_ServiceOf st U k lo hi Q (by omega) (by omega)) ?_
 have hso : (serviceV st U k lo hi Q).2.2 = (rRunV st U k lo hi Q).2.2.2 := by
  unfold serviceV
  by_cases hc : (rRunV st U k lo hi Q).2.2.2 = true
  ·rw [if_pos hc, hc]
  ·rw [if_neg hc]; simpa using hc
 simp only [bne_self_eq_false, Bool.false_eq_true, ↓reduceIte, hso]
 refine ev_succ ?_
 simp only [laws_FnLeads.j1, Bool.false_eq_true, ↓reduceIte]
 refine Ev.bind (ev_impl_RuleOrder st U k lo hi (by omega)) ?_
 refine Ev.bind (ev_spec_RuleOrder st U k lo hi (by omega)) ?_
 simp only [bne_self_eq_false, Bool.false_eq_true, ↓reduceIte]
 refine Ev.bind (ev_impl_IsRule k lo hi) ?_
 refine Ev.bind (ev_spec_IsRule k lo hi) ?_
 simp only [bne_self_eq_false]
 refine ev_succ ?_
 simp only [laws_FnLeads.j2, Bool.false_eq_true, ↓reduceIte]
 obtain ⟨st2, U2, O2, Q2, h2, hU2, hO2, hQ2⟩ := ev_spec_DrawRunOrders l0 hl
 refine Ev.bind h2 ?_
 dsimp only
 refine Ev.bind (ev_impl_RunOrders st2 U2 O2 Q2 (by omega)) ?_
 refine Ev.bind (ev_spec_RunOrders st2 U2 O2 Q2 (by omega)) ?_
 have hlen2 : (runV st2 U2 O2 Q2).1.length ≤ 101 ∧ (runV st2 U2 O2 Q2).2.2.1.length ≤ 4 := by
  unfold runV
  by_cases hc : (flowB st2 U2 && (decide ((O2.length : Int) = (Q2.length : Int)) && !decide ((Q2.length : Int) > 20))) = true
  ·rw [if_pos hc]
   have hc2 := hc
   rw [Bool.and_eq_true] at hc2
   have := runFrom_length O2 Q2 O2.length 0 [] st2 U2 (flowB_mem hc2.1).2.1
   simp only [List.length_nil] at this
   omega
  ·rw [if_neg hc]; simp
 have hlast : (runV st2 U2 O2 Q2).2.2.2 = true → 0 < (runV st2 U2 O2 Q2).1.length → rd (runV st2 U2 O2 Q2).1 (((runV st2 U2 O2 Q2).1.length : Int) - 1) = (runV st2 U2 O2 Q2).2.1 := by
  unfold runV
  by_cases hc : (flowB st2 U2 && (decide ((O2.length : Int) = (Q2.length : Int)) && !decide ((Q2.length : Int) > 20))) = true
  ·rw [if_pos hc]
   intro h3 h4
   exact run_last O2 Q2 O2.length 0 [] st2 U2 h3 (fun h => by omega) (fun _ => rfl) h4
  ·rw [if_neg hc]
   intro h3
   cases h3
 generalize runV st2 U2 O2 Q2 = R at hlen2 hlast
 simp only [bne_self_eq_false, Bool.false_eq_true, ↓reduceIte]
 refine Ev.bind (ev_laws_rInts_self _ (by omega)) ?_
 simp only [if_true]
 refine Ev.bind (ev_laws_rInts_self _ (by omega)) ?_
 refine ev_succ ?_
 simp only [laws_FnLeads.j3, Bool.not_true, Bool.false_eq_true, ↓reduceIte]
 refine ev_ite (fun h3 => ?_) (fun _ => hj4)
 refine ev_ite (fun h4 => ?_) (fun _ => hj4)
 have e : wrap64 ((R.1.length : Int) - 1) = (R.1.length : Int) - 1 := w64 (by omega) (by omega)
 rw [e]
 refine ev_yes (by omega) ?_
 refine ev_yes (by omega) ?_
 rw [hlast h3 (by omega), bne_self_eq_false]
 exact hj4

end Go.Proofs.Ytfgclhojgaaepaa.Pure
