/- The pure side of FnExactRunOrders: what the program's text computes and what the reference's text computes are the same value, for every argument. No condition. -/
import Derived.Test.YtjenbljkjmkbfaaPFnExactRunOrdersx6
namespace Go.Proofs.Ytjenbljkjmkbfaa.Pure
open Go.RowKit Go.Proofs.Ytjenbljkjmkbfaa.PFnExactRunOrders Go.Proofs.YtjenbljkjmkbfaaW.PrintWords Go.Proofs.YtjenbljkjmkbfaaW.PrintLast
set_option linter.unusedVariables false
set_option linter.unusedSimpArgs false

theorem ev_succ {α : Type} {g : Nat → Option α} {r : α} (h : Ev (fun k => g (k + 1)) r) : Ev g r := Ev.step (fun _ => rfl) h
theorem ev_pure {α : Type} {x : Option α} {r : α} (h : x = some r) : Ev (fun _ => x) r := ⟨0, fun _ _ => h⟩
theorem ev_eq {α : Type} {g : Nat → Option α} {r r' : α} (h : Ev g r) (e : r = r') : Ev g r' := e ▸ h
theorem ev_ite {α : Type} {c : Prop} [Decidable c] {g f : Nat → Option α} {r : α} (h1 : c → Ev g r) (h2 : ¬ c → Ev f r) : Ev (fun k => if c then g k else f k) r := by
  by_cases h : c
  · simp only [h, if_true]; exact h1 h
  · simp only [h, if_false]; exact h2 h
theorem w64 {x : Int} (h : -9223372036854775808 ≤ x) (h' : x ≤ 9223372036854775807) : wrap64 x = x := by unfold wrap64; omega
theorem w64_zero : wrap64 0 = 0 := w64 (by omega) (by omega)
theorem w64_idem (x : Int) : wrap64 (wrap64 x) = wrap64 x := by unfold wrap64; omega
theorem w64_add_l (x y : Int) : wrap64 (wrap64 x + y) = wrap64 (x + y) := by unfold wrap64; omega
theorem w64_add_r (x y : Int) : wrap64 (x + wrap64 y) = wrap64 (x + y) := by unfold wrap64; omega
theorem w64_sub_l (x y : Int) : wrap64 (wrap64 x - y) = wrap64 (x - y) := by unfold wrap64; omega
theorem w64_sub_r (x y : Int) : wrap64 (x - wrap64 y) = wrap64 (x - y) := by unfold wrap64; omega
theorem w64_shift (x k : Int) : wrap64 (x + 18446744073709551616 * k) = wrap64 x := by unfold wrap64; omega
theorem w64_ex (x : Int) : ∃ k, wrap64 x = x + 18446744073709551616 * k := by
  unfold wrap64
  exact ⟨-((x + 9223372036854775808) / 18446744073709551616), by omega⟩
theorem w64_mul_l (x y : Int) : wrap64 (wrap64 x * y) = wrap64 (x * y) := by
  obtain ⟨k, hk⟩ := w64_ex x
  rw [hk, Int.add_mul, Int.mul_assoc, w64_shift]
theorem w64_mul_r (x y : Int) : wrap64 (x * wrap64 y) = wrap64 (x * y) := by
  rw [Int.mul_comm, w64_mul_l, Int.mul_comm]
theorem w64_neg (x : Int) : wrap64 (-wrap64 x) = wrap64 (-x) := by unfold wrap64; omega
theorem w64_range (x : Int) : -9223372036854775808 ≤ wrap64 x ∧ wrap64 x ≤ 9223372036854775807 := by unfold wrap64; omega
theorem w64_nat {i n : Nat} (h : i < n) (hn : n ≤ 9223372036854775807) : wrap64 ((i : Int) + 1) = ((i + 1 : Nat) : Int) := by rw [w64 (by omega) (by omega)]; rfl
theorem wf_range {x : Int} (h : (Lit.int .i64 x).wf = true) : -9223372036854775808 ≤ x ∧ x ≤ 9223372036854775807 := by
  simp [Lit.wf, IntKind.min, IntKind.max, IntKind.signed, IntKind.bits] at h
  omega
theorem rd_nat {l : List Int} {i : Nat} (h : i < l.length) : rd l (i : Int) = l[i] := by
  unfold rd
  simp [List.getD_eq_getElem?_getD, h]
def allB (l : List Int) (a b : Int) : Bool := l.all fun x => decide (a ≤ x ∧ x ≤ b)
def inB (x a b : Int) : Bool := decide (a ≤ x ∧ x ≤ b)
theorem allB_mem {l : List Int} {a b : Int} (h : allB l a b = true) : ∀ x ∈ l, a ≤ x ∧ x ≤ b := by
  intro x hx
  have := List.all_eq_true.1 h x hx
  simpa using this
theorem inB_iff {x a b : Int} : inB x a b = true ↔ a ≤ x ∧ x ≤ b := by unfold inB; simp
theorem sum_le {l : List Int} {b : Int} (hb : ∀ x ∈ l, x ≤ b) : l.sum ≤ l.length * b := by
  induction l with
  | nil => simp
  | cons x l ih =>
    have h1 := hb x (by simp)
    have h2 := ih (fun y hy => hb y (by simp [hy]))
    rw [List.sum_cons, List.length_cons]
    have : ((l.length + 1 : Nat) : Int) * b = l.length * b + b := by rw [Int.natCast_add, Int.add_mul]; simp
    rw [this]; omega
theorem le_sum {l : List Int} {b : Int} (hb : ∀ x ∈ l, b ≤ x) : l.length * b ≤ l.sum := by
  induction l with
  | nil => simp
  | cons x l ih =>
    have h1 := hb x (by simp)
    have h2 := ih (fun y hy => hb y (by simp [hy]))
    rw [List.sum_cons, List.length_cons]
    have : ((l.length + 1 : Nat) : Int) * b = l.length * b + b := by rw [Int.natCast_add, Int.add_mul]; simp
    rw [this]; omega
theorem drop_cons {α : Type} {l : List α} {i : Nat} (h : i < l.length) : l.drop i = l[i] :: l.drop (i + 1) := List.drop_eq_getElem_cons h

theorem ev_laws_toIntS_l0 (l : List Int) (hl : l.length ≤ 9223372036854775807) (d : Nat) : ∀ (i : Nat) (o : List Int), i + d = l.length → o.length = l.length → Ev (fun k => laws_toIntS.l0 k l o (i : Int)) (o.take i ++ l.drop i) := by
  induction d with
  | zero =>
    intro i o hi ho
    refine ev_succ ?_
    have h1 : ¬ (i : Int) < (l.length : Int) := by omega
    simp only [laws_toIntS.l0, h1, ↓reduceIte]
    rw [List.drop_eq_nil_of_le (by omega), List.take_of_length_le (by omega), List.append_nil]
    exact Ev.now _
  | succ d ih =>
    intro i o hi ho
    refine ev_succ ?_
    have h1 : (i : Int) < (l.length : Int) := by omega
    have h2 : (i : Int) < (o.length : Int) := by omega
    have h0 : (0 : Int) ≤ (i : Int) := by omega
    have hi' : i < l.length := by omega
    simp only [laws_toIntS.l0, h1, h2, h0, ↓reduceIte, rd_nat hi', w64_nat hi' hl, Int.toNat_natCast]
    refine ev_eq (ih (i + 1) _ (by omega) (by simp [ho])) ?_
    rw [drop_cons hi', List.take_add_one]
    simp [ho, hi', List.take_set_of_le (Nat.le_refl i)]
theorem ev_laws_toIntS (l : List Int) (hl : l.length ≤ 1048576) : Ev (fun k => laws_toIntS.f k l) l := by
  unfold laws_toIntS.f
  have h0 : (0 : Int) ≤ (l.length : Int) := by omega
  have h1 : ((l.length : Int) : Int).toNat ≤ 35184372088832 := by omega
  simp only [h0, h1, ↓reduceIte]
  simpa using ev_laws_toIntS_l0 l (by omega) l.length 0 (List.replicate ((l.length : Int) : Int).toNat 0) (by omega) (by simp)

theorem ev_laws_eqIntS_l0 (l m : List Int) (hl : l.length ≤ 9223372036854775807) (he : l.length = m.length) (d : Nat) : ∀ (i : Nat), i + d = l.length → Ev (fun k => laws_eqIntS.l0 k l m (i : Int)) (decide (l.drop i = m.drop i)) := by
  induction d with
  | zero =>
    intro i hi
    refine ev_succ ?_
    have h1 : ¬ (i : Int) < (l.length : Int) := by omega
    simp only [laws_eqIntS.l0, h1, ↓reduceIte]
    rw [List.drop_eq_nil_of_le (by omega), List.drop_eq_nil_of_le (by omega)]
    exact Ev.now _
  | succ d ih =>
    intro i hi
    refine ev_succ ?_
    have h1 : (i : Int) < (l.length : Int) := by omega
    have h2 : (i : Int) < (m.length : Int) := by omega
    have h0 : (0 : Int) ≤ (i : Int) := by omega
    have hi' : i < l.length := by omega
    have hm' : i < m.length := by omega
    simp only [laws_eqIntS.l0, h1, h2, h0, ↓reduceIte, rd_nat hi', rd_nat hm', w64_nat hi' hl]
    refine ev_ite (fun h => ?_) (fun h => ?_)
    · refine ev_eq (ih (i + 1) (by omega)) ?_
      rw [drop_cons hi', drop_cons hm', decide_eq_decide, h, List.cons.injEq]
      exact (and_iff_right rfl).symm
    · refine ev_eq (Ev.now _) ?_
      rw [drop_cons hi', drop_cons hm']
      symm
      rw [decide_eq_false_iff_not, List.cons.injEq]
      exact fun hc => h hc.1
theorem ev_laws_eqIntS (l m : List Int) (hl : l.length ≤ 9223372036854775807) : Ev (fun k => laws_eqIntS.f k l m) (decide (l = m)) := by
  unfold laws_eqIntS.f
  refine ev_ite (fun h => ?_) (fun h => ?_)
  · simpa using ev_laws_eqIntS_l0 l m hl (by omega) l.length 0 (by omega)
  · refine ev_eq (Ev.now _) ?_
    symm
    rw [decide_eq_false_iff_not]
    rintro rfl
    exact h rfl
theorem ev_laws_eqIntS_self (l : List Int) (hl : l.length ≤ 9223372036854775807) : Ev (fun k => laws_eqIntS.f k l l) true := by
  simpa using ev_laws_eqIntS l l hl

theorem laws_szIntS_le (l : List Int) (hl : l.length ≤ 1048576) : laws_szIntS.f l 1048576 = some (1048576 - (l.length : Int)) := by
  unfold laws_szIntS.f
  rw [w64 (by omega) (by omega), if_neg (by omega)]
theorem laws_szIntS_gt (l : List Int) (h : l.length ≤ 9223372036854775807) (hl : 1048576 < l.length) : laws_szIntS.f l 1048576 = some (-1) := by
  unfold laws_szIntS.f
  rw [w64 (by omega) (by omega), if_pos (by omega)]
theorem laws_szIntS_f (l : List Int) (t : Int) (h : l.length ≤ 9223372036854775807) (h0 : 0 ≤ t) (h1 : t ≤ 1048576) : laws_szIntS.f l t = some (if t - (l.length : Int) < 0 then -1 else t - (l.length : Int)) := by
  unfold laws_szIntS.f
  rw [w64 (by omega) (by omega)]
  by_cases hc : t - (l.length : Int) < 0
  · rw [if_pos hc, if_pos hc]
  · rw [if_neg hc, if_neg hc]

theorem laws_szFlow_le (a : Int) (l : List Int) (hl : l.length ≤ 1048576) : laws_szFlow.f a l 1048576 = some (1048576 - (l.length : Int)) := by
  unfold laws_szFlow.f
  rw [laws_szIntS_le l hl, Option.bind_some, if_neg (by omega)]
theorem laws_szFlow_gt (a : Int) (l : List Int) (h : l.length ≤ 9223372036854775807) (hl : 1048576 < l.length) : laws_szFlow.f a l 1048576 = some (-1) := by
  unfold laws_szFlow.f
  rw [laws_szIntS_gt l h hl, Option.bind_some, if_pos (by omega)]

theorem ev_laws_toFlow (a : Int) (l : List Int) (hl : l.length ≤ 1048576) : Ev (fun k => laws_toFlow.f k a l) (a, l) := by
  unfold laws_toFlow.f
  refine Ev.bind (ev_laws_toIntS l hl) ?_
  exact Ev.now _

theorem ev_laws_eqFlow_self (a : Int) (l : List Int) (hl : l.length ≤ 9223372036854775807) : Ev (fun k => laws_eqFlow.f k a l a l) true := by
  unfold laws_eqFlow.f
  simp only [if_true]
  refine Ev.bind (ev_laws_eqIntS_self l hl) ?_
  simp only [if_true]
  exact Ev.now _

def marked (m : Int) : Nat → List Int
  | 0 => []
  | n + 1 => m :: marked (m + 1) n
theorem marked_length (m : Int) (n : Nat) : (marked m n).length = n := by
  induction n generalizing m with
  | zero => rfl
  | succ n ih => simp [marked, ih]
theorem marked_get (m : Int) (n i : Nat) (h : i < (marked m n).length) : (marked m n)[i] = m + i := by
  induction n generalizing m i with
  | zero => simp [marked] at h
  | succ n ih =>
    cases i with
    | zero => simp [marked]
    | succ i =>
      simp only [marked, List.getElem_cons_succ]
      rw [ih]
      omega
theorem ev_laws_markIntS_l0 (l0 : List Int) (hl : l0.length ≤ 4611686018427387904) (m0 : Int) (h0 : 0 ≤ m0) (h1 : m0 ≤ 1000000000) (d : Nat) : ∀ (i : Nat) (l : List Int), i + d = l.length → l.length = l0.length → Ev (fun k => laws_markIntS.l0 k l (m0 + (i : Int)) (i : Int)) (m0 + (l.length : Int), l.take i ++ marked (m0 + i) d) := by
  induction d with
  | zero =>
    intro i l hi hle
    refine ev_succ ?_
    have h1 : ¬ (i : Int) < (l.length : Int) := by omega
    simp only [laws_markIntS.l0, h1, ↓reduceIte]
    rw [List.take_of_length_le (by omega)]
    have : i = l.length := by omega
    subst this
    simp only [marked, List.append_nil]
    exact Ev.now _
  | succ d ih =>
    intro i l hi hle
    refine ev_succ ?_
    have h1' : (i : Int) < (l.length : Int) := by omega
    have h0' : (0 : Int) ≤ (i : Int) := by omega
    have hi' : i < l.length := by omega
    have e1 : wrap64 (m0 + (i : Int) + 1) = m0 + ((i + 1 : Nat) : Int) := by rw [w64 (by omega) (by omega)]; omega
    simp only [laws_markIntS.l0, h1', h0', ↓reduceIte, w64_nat hi' (by omega : l.length ≤ 9223372036854775807), Int.toNat_natCast, e1]
    refine ev_eq (ih (i + 1) (l.set i (m0 + (i : Int))) (by simp; omega) (by simp [hle])) ?_
    rw [List.length_set]
    congr 1
    rw [List.take_add_one]
    simp only [List.getElem?_set_self hi', List.take_set_of_le (Nat.le_refl i)]
    simp only [Option.toList_some, List.append_assoc, List.singleton_append, marked]
    congr 3
    omega
theorem ev_laws_markIntS (l : List Int) (m : Int) (hl : l.length ≤ 4611686018427387904) (h0 : 0 ≤ m) (h1 : m ≤ 1000000000) : Ev (fun k => laws_markIntS.f k l m) (m + (l.length : Int), marked m l.length) := by
  unfold laws_markIntS.f
  simpa using ev_laws_markIntS_l0 l hl m h0 h1 l.length 0 l (by omega) rfl

theorem ev_laws_heldIntS_l0 (m0 : Int) (n : Nat) (hn : n ≤ 4611686018427387904) (h0 : 0 ≤ m0) (h1 : m0 ≤ 1000000000) (d : Nat) : ∀ (i : Nat), i + d = n → Ev (fun k => laws_heldIntS.l0 k (marked m0 n) (m0 + (i : Int)) (i : Int)) (m0 + (n : Int)) := by
  induction d with
  | zero =>
    intro i hi
    refine ev_succ ?_
    have h1 : ¬ (i : Int) < ((marked m0 n).length : Int) := by rw [marked_length]; omega
    simp only [laws_heldIntS.l0, h1, ↓reduceIte]
    have : i = n := by omega
    subst this
    exact Ev.now _
  | succ d ih =>
    intro i hi
    refine ev_succ ?_
    have h1' : (i : Int) < ((marked m0 n).length : Int) := by rw [marked_length]; omega
    have h0' : (0 : Int) ≤ (i : Int) := by omega
    have hi' : i < (marked m0 n).length := by rw [marked_length]; omega
    have e1 : wrap64 (m0 + (i : Int) + 1) = m0 + ((i + 1 : Nat) : Int) := by rw [w64 (by omega) (by omega)]; omega
    have e2 : wrap64 ((i : Int) + 1) = ((i + 1 : Nat) : Int) := w64_nat (n := n) (by omega) (by omega)
    simp only [laws_heldIntS.l0, h1', h0', ↓reduceIte, rd_nat hi', marked_get, e1, e2]
    exact ih (i + 1) (by omega)
theorem ev_laws_heldIntS (m : Int) (n : Nat) (hn : n ≤ 4611686018427387904) (h0 : 0 ≤ m) (h1 : m ≤ 1000000000) : Ev (fun k => laws_heldIntS.f k (marked m n) m) (m + (n : Int)) := by
  unfold laws_heldIntS.f
  simpa using ev_laws_heldIntS_l0 m n hn h0 h1 n 0 (by omega)

theorem ev_laws_markFlow (a : Int) (l : List Int) (x : Int) (hl : l.length ≤ 4611686018427387904) (h0 : 0 ≤ x) (h1 : x ≤ 1000000000) : Ev (fun k => laws_markFlow.f k a l x) (x + (l.length : Int), marked x l.length) := by
  unfold laws_markFlow.f
  exact Ev.bind (ev_laws_markIntS l x hl h0 h1) (Ev.now _)

theorem ev_laws_heldFlow (a : Int) (m : Int) (n : Nat) (hn : n ≤ 4611686018427387904) (h0 : 0 ≤ m) (h1 : m ≤ 1000000000) : Ev (fun k => laws_heldFlow.f k a (marked m n) m) (m + (n : Int)) := by
  unfold laws_heldFlow.f
  refine Ev.bind (ev_laws_heldIntS m n hn h0 h1) ?_
  refine ev_ite (fun h => absurd h (by omega)) (fun _ => ?_)
  exact Ev.now _

theorem spec_l1In_f (a b c : Int) : spec_l1In.f a b c = some (inB a b c) := by
  unfold spec_l1In.f inB
  by_cases h : a ≥ b
  · rw [if_pos h]; congr 1; rw [decide_eq_decide]; omega
  · rw [if_neg h]; congr 1; symm; rw [decide_eq_false_iff_not]; omega

theorem ev_spec_l2Row_l0 (n b : Int) (l : List Int) (hl : l.length ≤ 9223372036854775807) (d : Nat) : ∀ i : Nat, i + d = l.length → Ev (fun k => spec_l2Row.l0 k l n b (i : Int)) (allB (l.drop i) 0 b && ((l.length : Int) == n)) := by
  induction d with
  | zero =>
    intro i hi
    refine ev_succ ?_
    have h1 : ¬ (i : Int) < (l.length : Int) := by omega
    simp only [spec_l2Row.l0, h1, ↓reduceIte]
    rw [List.drop_eq_nil_of_le (by omega)]
    exact Ev.now _
  | succ d ih =>
    intro i hi
    refine ev_succ ?_
    have h1 : (i : Int) < (l.length : Int) := by omega
    have h0 : (0 : Int) ≤ (i : Int) := by omega
    have hi' : i < l.length := by omega
    simp only [spec_l2Row.l0, h1, h0, ↓reduceIte, spec_l1In_f, Option.bind_some, rd_nat hi', w64_nat hi' hl]
    rw [drop_cons hi']
    show Ev _ ((inB l[i] 0 b && allB (l.drop (i + 1)) 0 b) && _)
    cases inB l[i] 0 b with
    | true => simpa using ih (i + 1) (by omega)
    | false => simpa using Ev.now false
theorem ev_spec_l2Row (l : List Int) (n b : Int) (hl : l.length ≤ 9223372036854775807) : Ev (fun k => spec_l2Row.f k l n b) (allB l 0 b && ((l.length : Int) == n)) := by
  unfold spec_l2Row.f
  simpa using ev_spec_l2Row_l0 n b l hl l.length 0 (by omega)

theorem ev_spec_l11Numbers (l : List Int) (n b : Int) (hl : l.length ≤ 9223372036854775807) : Ev (fun k => spec_l11Numbers.f k l n b) (decide ((l.length : Int) ≤ n) && allB l 0 b) := by
  unfold spec_l11Numbers.f
  refine ev_ite (fun h => ?_) (fun h => ?_)
  · refine Ev.bind (ev_spec_l2Row l _ b hl) ?_
    refine ev_eq (Ev.now _) ?_
    simp [h]
  · refine ev_eq (Ev.now _) ?_
    simp [h]

def flowB (a : Int) (l : List Int) : Bool := inB a (-200) 200 && (decide ((l.length : Int) ≤ 4) && allB l 0 40)
theorem flowB_mem {a : Int} {l : List Int} (h : flowB a l = true) : (-200 ≤ a ∧ a ≤ 200) ∧ l.length ≤ 4 ∧ ∀ x ∈ l, 0 ≤ x ∧ x ≤ 40 := by
  unfold flowB at h
  simp only [Bool.and_eq_true, decide_eq_true_eq] at h
  exact ⟨inB_iff.1 h.1, by omega, allB_mem h.2.2⟩

theorem ev_spec_l11Flow (a : Int) (l : List Int) (hl : l.length ≤ 9223372036854775807) : Ev (fun k => spec_l11Flow.f k a l) (flowB a l) := by
  unfold spec_l11Flow.f flowB
  simp only [spec_l1In_f, Option.bind_some]
  refine ev_ite (fun h => ?_) (fun h => ?_)
  · refine Ev.bind (ev_spec_l11Numbers l 4 40 hl) ?_
    refine ev_eq (Ev.now _) ?_
    simp [h]
  · refine ev_eq (Ev.now _) ?_
    simp [h]

theorem spec_l1Own_f (l : List Int) (hl : l.length ≤ 1000000000) : spec_l1Own.f l = some l := by
  unfold spec_l1Own.f
  simp only [Option.bind_some, List.length_nil, List.nil_append]
  rw [if_pos (by omega)]

/-- The flow behind a day: its stock, and what is under way. -/
def dayStock (a : Int) (l : List Int) (o q : Int) : Int := wrap64 (wrap64 (a + rd (l ++ [o]) 0) - q)
def dayUnder (l : List Int) (o : Int) : List Int := (l ++ [o]).drop 1
def dayBefore (a : Int) (l : List Int) (o : Int) : Int := wrap64 (a + rd (l ++ [o]) 0)
theorem dayUnder_length (l : List Int) (o : Int) : (dayUnder l o).length = l.length := by simp [dayUnder]
def dayV (a : Int) (l : List Int) (o q : Int) : Int × List Int × Bool :=
  if (flowB a l && (inB o 0 40 && inB q 0 20) && flowB (dayStock a l o q) (dayUnder l o)) = true then (dayStock a l o q, dayUnder l o, true) else (0, [], false)
theorem dayV_length {a : Int} {l : List Int} {o q : Int} (hl : l.length ≤ 9223372036854775807) : (dayV a l o q).2.1.length ≤ 4 := by
  unfold dayV
  split
  · rename_i h
    simp only [Bool.and_eq_true] at h
    have := flowB_mem h.2
    exact this.2.1
  · simp

theorem spec_l11Day_f (a : Int) (l : List Int) (o q : Int) (hl : l.length ≤ 100000000) : spec_l11Day.f a l o q = some (dayStock a l o q, dayUnder l o, dayBefore a l o) := by
  unfold spec_l11Day.f
  have h1 : (0 : Int) < ((l ++ [o]).length : Int) := by rw [List.length_append]; simp only [List.length_cons, List.length_nil]; omega
  have h2 : (1 : Int) ≤ ((l ++ [o]).length : Int) := by rw [List.length_append]; simp only [List.length_cons, List.length_nil]; omega
  have h3 : l.length < 17592186044416 := by omega
  simp only [spec_l1Own_f l (by omega), Option.bind_some, h1, h2, h3, ↓reduceIte]
  rw [spec_l1Own_f _ (by simp; omega), Option.bind_some]
  rfl

theorem ev_spec_DayOf_no (a : Int) (l : List Int) (o q : Int) : Ev (fun k => spec_DayOf.j0 k o q true a l) (0, [], false) := by
  refine ev_succ ?_
  simp only [spec_DayOf.j0, ↓reduceIte]
  exact Ev.now _
theorem ev_spec_DayOf (a : Int) (l : List Int) (o q : Int) (hl : l.length ≤ 9223372036854775807) : Ev (fun k => spec_DayOf.f k a l o q) (dayV a l o q) := by
  unfold spec_DayOf.f dayV
  simp only [spec_l1In_f, Option.bind_some]
  refine Ev.bind (ev_spec_l11Flow a l hl) ?_
  refine ev_ite (fun h1 => ?_) (fun h1 => ?_)
  · have hm := flowB_mem h1
    refine ev_ite (fun h2 => ?_) (fun h2 => ?_)
    · cases h3 : inB q 0 20 with
      | false => exact ev_eq (ev_spec_DayOf_no a l o q) (by simp)
      | true =>
        refine ev_succ ?_
        simp only [spec_DayOf.j0, Bool.not_true, Bool.false_eq_true, ↓reduceIte, spec_l11Day_f a l o q (by omega), Option.bind_some]
        refine Ev.bind (ev_spec_l11Flow _ _ (by rw [dayUnder_length]; omega)) ?_
        refine ev_ite (fun h4 => ?_) (fun h4 => ?_)
        · exact ev_eq (Ev.now _) (by rw [h1, h2, h4]; rfl)
        · exact ev_eq (Ev.now _) (by simp [h4])
    · exact ev_eq (ev_spec_DayOf_no a l o q) (by simp [h2])
  · exact ev_eq (ev_spec_DayOf_no a l o q) (by simp [h1])

def dayOk (O Q : List Int) (i : Nat) (s : Int) (U : List Int) : Bool := (inB (rd O (i : Int)) 0 40 && inB (rd Q (i : Int)) 0 20) && flowB (dayStock s U (rd O (i : Int)) (rd Q (i : Int))) (dayUnder U (rd O (i : Int)))
def runFrom (O Q : List Int) : Nat → Nat → List Int → Int → List Int → List Int × Int × List Int × Bool
  | 0, _, o, s, U => (o, s, U, true)
  | d + 1, i, o, s, U => if dayOk O Q i s U = true then runFrom O Q d (i + 1) (o ++ [dayStock s U (rd O (i : Int)) (rd Q (i : Int))]) (dayStock s U (rd O (i : Int)) (rd Q (i : Int))) (dayUnder U (rd O (i : Int))) else ([], 0, [], false)
def runV (a : Int) (l O Q : List Int) : List Int × Int × List Int × Bool := if (flowB a l && (decide ((O.length : Int) = (Q.length : Int)) && !decide ((Q.length : Int) > 20))) = true then runFrom O Q O.length 0 [] a l else ([], 0, [], false)
theorem runFrom_length (O Q : List Int) (d : Nat) : ∀ (i : Nat) (o : List Int) (s : Int) (U : List Int), U.length ≤ 4 → (runFrom O Q d i o s U).1.length ≤ o.length + d ∧ (runFrom O Q d i o s U).2.2.1.length ≤ 4 := by
  induction d with
  | zero => intro i o s U hU; simpa [runFrom] using hU
  | succ d ih =>
    intro i o s U hU
    rw [runFrom]
    split
    · have := ih (i + 1) (o ++ [dayStock s U (rd O (i : Int)) (rd Q (i : Int))]) (dayStock s U (rd O (i : Int)) (rd Q (i : Int))) (dayUnder U (rd O (i : Int))) (by rw [dayUnder_length]; exact hU)
      rw [List.length_append, List.length_singleton] at this
      omega
    · simp
theorem runV_length (a : Int) (l O Q : List Int) : (runV a l O Q).1.length ≤ 20 ∧ (runV a l O Q).2.2.1.length ≤ 4 := by
  unfold runV
  by_cases h : (flowB a l && (decide ((O.length : Int) = (Q.length : Int)) && !decide ((Q.length : Int) > 20))) = true
  · rw [if_pos h]
    simp only [Bool.and_eq_true, decide_eq_true_eq, Bool.not_eq_true', decide_eq_false_iff_not] at h
    have hm := flowB_mem h.1
    have := runFrom_length O Q O.length 0 [] a l hm.2.1
    simp only [List.length_nil, Nat.zero_add] at this
    omega
  · rw [if_neg h]; simp

theorem ev_spec_RunOrders_l0 (O Q : List Int) (hO : O.length ≤ 20) (hQ : O.length = Q.length) (d : Nat) : ∀ (i : Nat) (o : List Int) (s : Int) (U : List Int), i + d = O.length → o.length ≤ i → flowB s U = true → Ev (fun k => spec_RunOrders.l0 k O Q o (i : Int) s U) (runFrom O Q d i o s U) := by
  induction d with
  | zero =>
    intro i o s U hi ho hf
    refine ev_succ ?_
    have h1 : ¬ (i : Int) < (O.length : Int) := by omega
    simp only [spec_RunOrders.l0, h1, ↓reduceIte, runFrom]
    exact Ev.now _
  | succ d ih =>
    intro i o s U hi ho hf
    have hm := flowB_mem hf
    refine ev_succ ?_
    have h1 : (i : Int) < (O.length : Int) := by omega
    have h0 : (0 : Int) ≤ (i : Int) := by omega
    have h2 : (i : Int) < (Q.length : Int) := by omega
    have h3 : o.length < 17592186044416 := by omega
    have hi' : i < O.length := by omega
    simp only [spec_RunOrders.l0, h1, h0, h2, h3, ↓reduceIte, w64_nat hi' (by omega : O.length ≤ 9223372036854775807)]
    refine Ev.bind (ev_spec_DayOf s U (rd O (i : Int)) (rd Q (i : Int)) (by omega)) ?_
    have e : dayV s U (rd O (i : Int)) (rd Q (i : Int)) = if dayOk O Q i s U = true then (dayStock s U (rd O (i : Int)) (rd Q (i : Int)), dayUnder U (rd O (i : Int)), true) else (0, [], false) := by
      unfold dayV dayOk
      rw [hf, Bool.true_and]
    rw [e, runFrom]
    by_cases hd : dayOk O Q i s U = true
    · simp only [hd, ↓reduceIte]
      refine ih (i + 1) _ _ _ (by omega) (by simp; omega) ?_
      unfold dayOk at hd
      rw [Bool.and_eq_true] at hd
      exact hd.2
    · simp only [hd, Bool.false_eq_true, ↓reduceIte]
      exact Ev.now _
theorem ev_spec_RunOrders_no (a : Int) (l O Q : List Int) : Ev (fun k => spec_RunOrders.j0 k O Q [] true a l) ([], 0, [], false) := by
  refine ev_succ ?_
  simp only [spec_RunOrders.j0, ↓reduceIte]
  exact Ev.now _
theorem ev_spec_RunOrders (a : Int) (l O Q : List Int) (hl : l.length ≤ 9223372036854775807) : Ev (fun k => spec_RunOrders.f k a l O Q) (runV a l O Q) := by
  unfold spec_RunOrders.f runV
  simp only [Option.bind_some]
  refine Ev.bind (ev_spec_l11Flow a l hl) ?_
  refine ev_ite (fun h1 => ?_) (fun h1 => ?_)
  · refine ev_ite (fun h2 => ?_) (fun h2 => ?_)
    · by_cases h3 : (Q.length : Int) > 20
      · rw [decide_eq_true h3]
        exact ev_eq (ev_spec_RunOrders_no _ _ _ _) (by simp)
      · rw [decide_eq_false h3, if_pos (by simp [h1, h2])]
        have hm := flowB_mem h1
        refine ev_succ ?_
        simp only [spec_RunOrders.j0, Bool.false_eq_true, ↓reduceIte, spec_l1Own_f l (by omega), Option.bind_some]
        exact ev_spec_RunOrders_l0 O Q (by omega) (by omega) O.length 0 [] a l (by omega) (by simp) h1
    · exact ev_eq (ev_spec_RunOrders_no _ _ _ _) (by simp [h2])
  · exact ev_eq (ev_spec_RunOrders_no _ _ _ _) (by simp [h1])

theorem impl_within_f (a b c : Int) : impl_within.f a b c = some (inB a b c) := by
  unfold impl_within.f inB
  by_cases h : a ≥ b
  · rw [if_pos h]; congr 1; rw [decide_eq_decide]; omega
  · rw [if_neg h]; congr 1; symm; rw [decide_eq_false_iff_not]; omega

theorem impl_isStock_f (a : Int) : impl_isStock.f a = some (inB a (-200) 200) := by
  unfold impl_isStock.f
  rw [impl_within_f, Option.bind_some]

theorem ev_impl_allWithin_l0 (a b : Int) (l : List Int) (hl : l.length ≤ 9223372036854775807) (d : Nat) : ∀ i : Nat, i + d = l.length → Ev (fun k => impl_allWithin.l0 k a b l (l.length : Int) (i : Int)) (allB (l.drop i) a b) := by
  induction d with
  | zero =>
    intro i hi
    refine ev_succ ?_
    have h1 : ¬ (i : Int) < (l.length : Int) := by omega
    simp only [impl_allWithin.l0, h1, ↓reduceIte]
    rw [List.drop_eq_nil_of_le (by omega)]
    exact Ev.now _
  | succ d ih =>
    intro i hi
    refine ev_succ ?_
    have h1 : (i : Int) < (l.length : Int) := by omega
    have h0 : (0 : Int) ≤ (i : Int) := by omega
    have hi' : i < l.length := by omega
    simp only [impl_allWithin.l0, h1, h0, ↓reduceIte, impl_within_f, Option.bind_some, rd_nat hi', w64_nat hi' hl]
    rw [drop_cons hi']
    show Ev _ (inB l[i] a b && allB (l.drop (i + 1)) a b)
    cases inB l[i] a b with
    | true => simpa using ih (i + 1) (by omega)
    | false => simpa using Ev.now false
theorem ev_impl_allWithin (l : List Int) (a b : Int) (hl : l.length ≤ 9223372036854775807) : Ev (fun k => impl_allWithin.f k l a b) (allB l a b) := by
  unfold impl_allWithin.f
  simpa using ev_impl_allWithin_l0 a b l hl l.length 0 (by omega)

theorem ev_impl_IsFlow (a : Int) (l : List Int) (hl : l.length ≤ 9223372036854775807) : Ev (fun k => impl_IsFlow.f k a l) (flowB a l) := by
  unfold impl_IsFlow.f flowB
  simp only [impl_isStock_f, Option.bind_some]
  refine ev_ite (fun h => ?_) (fun h => ?_)
  · refine ev_ite (fun h2 => ?_) (fun h2 => ?_)
    · refine Ev.bind (ev_impl_allWithin l 0 40 hl) ?_
      refine ev_eq (Ev.now _) ?_
      simp [h, h2]
    · refine ev_eq (Ev.now _) ?_
      simp [h, h2]
  · refine ev_eq (Ev.now _) ?_
    simp [h]

theorem impl_copied_f (l : List Int) (hl : l.length ≤ 1000000000) : impl_copied.f l = some l := by
  unfold impl_copied.f
  simp only [Option.bind_some, List.length_nil, List.nil_append]
  rw [if_pos (by omega)]

theorem ev_impl_Flow_day_no (a : Int) (l : List Int) (o q : Int) : Ev (fun k => impl_Flow_day.j0 k o q true a l) (0, [], 0, false) := by
  refine ev_succ ?_
  simp only [impl_Flow_day.j0, ↓reduceIte]
  exact Ev.now _
def fdayV (a : Int) (l : List Int) (o q : Int) : Int × List Int × Int × Bool :=
  if (inB o 0 40 && inB q 0 20) = true then (dayStock a l o q, dayUnder l o, mx 0 (mn q (dayBefore a l o)), flowB (dayStock a l o q) (dayUnder l o)) else (0, [], 0, false)
theorem ev_impl_Flow_day (a : Int) (l : List Int) (o q : Int) (hl : l.length ≤ 100000000) : Ev (fun k => impl_Flow_day.f k a l o q) (fdayV a l o q) := by
  unfold impl_Flow_day.f fdayV
  simp only [impl_within_f, Option.bind_some]
  cases h2 : inB o 0 40 with
  | false => exact ev_eq (ev_impl_Flow_day_no a l o q) (by simp)
  | true =>
    cases h3 : inB q 0 20 with
    | false => exact ev_eq (ev_impl_Flow_day_no a l o q) (by simp)
    | true =>
      simp only [Bool.not_true, Bool.false_eq_true, ↓reduceIte]
      refine ev_succ ?_
      have h1 : (0 : Int) < ((l ++ [o]).length : Int) := by rw [List.length_append]; simp only [List.length_cons, List.length_nil]; omega
      have h4 : (1 : Int) ≤ ((l ++ [o]).length : Int) := by rw [List.length_append]; simp only [List.length_cons, List.length_nil]; omega
      have h5 : l.length < 17592186044416 := by omega
      simp only [impl_Flow_day.j0, Bool.false_eq_true, ↓reduceIte, impl_copied_f l (by omega), Option.bind_some, h1, h4, h5]
      refine Ev.bind (ev_impl_IsFlow _ _ (by simp; omega)) ?_
      exact Ev.now _

theorem ev_impl_RunOrders_l0 (O Q : List Int) (hO : O.length ≤ 20) (hQ : O.length = Q.length) (d : Nat) : ∀ (i : Nat) (o : List Int) (s : Int) (U : List Int), i + d = O.length → o.length ≤ i → flowB s U = true → Ev (fun k => impl_RunOrders.l0 k Q o O (O.length : Int) (i : Int) s U) (runFrom O Q d i o s U) := by
  induction d with
  | zero =>
    intro i o s U hi ho hf
    refine ev_succ ?_
    have h1 : ¬ (i : Int) < (O.length : Int) := by omega
    simp only [impl_RunOrders.l0, h1, ↓reduceIte, runFrom]
    exact Ev.now _
  | succ d ih =>
    intro i o s U hi ho hf
    have hm := flowB_mem hf
    refine ev_succ ?_
    have h1 : (i : Int) < (O.length : Int) := by omega
    have h0 : (0 : Int) ≤ (i : Int) := by omega
    have h2 : (i : Int) < (Q.length : Int) := by omega
    have h3 : o.length < 17592186044416 := by omega
    have hi' : i < O.length := by omega
    simp only [impl_RunOrders.l0, h1, h0, h2, h3, ↓reduceIte, w64_nat hi' (by omega : O.length ≤ 9223372036854775807)]
    refine Ev.bind (ev_impl_Flow_day s U (rd O (i : Int)) (rd Q (i : Int)) (by omega)) ?_
    unfold fdayV
    rw [runFrom]
    by_cases hd : dayOk O Q i s U = true
    · have hd2 := hd
      unfold dayOk at hd2
      rw [Bool.and_eq_true] at hd2
      simp only [hd, hd2.1, hd2.2, ↓reduceIte]
      exact ih (i + 1) _ _ _ (by omega) (by simp; omega) hd2.2
    · simp only [hd, Bool.false_eq_true, ↓reduceIte]
      by_cases hb : (inB (rd O (i : Int)) 0 40 && inB (rd Q (i : Int)) 0 20) = true
      · have hn : flowB (dayStock s U (rd O (i : Int)) (rd Q (i : Int))) (dayUnder U (rd O (i : Int))) = false := by
          unfold dayOk at hd
          rw [hb, Bool.true_and, Bool.not_eq_true] at hd
          exact hd
        simp only [hb, hn, Bool.false_eq_true, ↓reduceIte]
        exact Ev.now _
      · simp only [hb, Bool.false_eq_true, ↓reduceIte]
        exact Ev.now _
theorem ev_impl_RunOrders_no (a : Int) (l O Q : List Int) : Ev (fun k => impl_RunOrders.j0 k O Q true a l) ([], 0, [], false) := by
  refine ev_succ ?_
  simp only [impl_RunOrders.j0, ↓reduceIte]
  exact Ev.now _
theorem ev_impl_RunOrders (a : Int) (l O Q : List Int) (hl : l.length ≤ 9223372036854775807) : Ev (fun k => impl_RunOrders.f k a l O Q) (runV a l O Q) := by
  unfold impl_RunOrders.f runV
  refine Ev.bind (ev_impl_IsFlow a l hl) ?_
  refine ev_ite (fun h1 => ?_) (fun h1 => ?_)
  · refine ev_ite (fun h2 => ?_) (fun h2 => ?_)
    · refine ev_eq (ev_impl_RunOrders_no _ _ _ _) ?_
      rw [if_neg]
      simp only [Bool.and_eq_true, decide_eq_true_eq, Bool.not_eq_true', decide_eq_false_iff_not]
      omega
    · by_cases h3 : (O.length : Int) = (Q.length : Int)
      · rw [bne_eq_false_iff_eq.2 h3, if_pos (by simp [h1, h3]; omega)]
        have hm := flowB_mem h1
        refine ev_succ ?_
        simp only [impl_RunOrders.j0, Bool.false_eq_true, ↓reduceIte, impl_copied_f l (by omega), Option.bind_some]
        exact ev_impl_RunOrders_l0 O Q (by omega) (by omega) O.length 0 [] a l (by omega) (by simp) h1
      · rw [bne_iff_ne.2 h3]
        refine ev_eq (ev_impl_RunOrders_no _ _ _ _) ?_
        rw [if_neg (by simp [h3])]
  · exact ev_eq (ev_impl_RunOrders_no _ _ _ _) (by simp [h1])

theorem FnExactRunOrders (a0_0 : Int) (l0_1 : List (Int)) (l1 : List (Int)) (l2 : List (Int)) (w0_0 : (Lit.int .i64 a0_0).wf = true) (h0_1 : l0_1.length ≤ 9223372036854775807) (w0_1 : ∀ y ∈ l0_1, (Lit.int .i64 y).wf = true) (h1 : l1.length ≤ 9223372036854775807) (w1 : ∀ y ∈ l1, (Lit.int .i64 y).wf = true) (h2 : l2.length ≤ 9223372036854775807) (w2 : ∀ y ∈ l2, (Lit.int .i64 y).wf = true) : ∃ k, laws_FnExactRunOrders.f k a0_0 l0_1 l1 l2 = some true := by
  refine Ev.rounds ?_
  unfold laws_FnExactRunOrders.f
  refine ev_ite (fun h => Ev.now _) (fun h1' => ?_)
  refine ev_ite (fun h => Ev.now _) (fun h2' => ?_)
  have hl1 : l1.length ≤ 1048576 := by omega
  have hl2 : l2.length ≤ 1048576 := by omega
  by_cases hn : l0_1.length ≤ 1048576
  · have hs := ev_spec_RunOrders a0_0 l0_1 l1 l2 h0_1
    have hi := ev_impl_RunOrders a0_0 l0_1 l1 l2 h0_1
    have hv := runV_length a0_0 l0_1 l1 l2
    generalize runV a0_0 l0_1 l1 l2 = v at hs hi hv
    obtain ⟨v, v2, v3, b⟩ := v
    dsimp only at hv
    simp only [laws_szFlow_le a0_0 l0_1 hn, Option.bind_some]
    repeat first
      | exact Ev.now _
      | (refine Ev.bind ht ?_; try dsimp only)
      | (refine Ev.bind hs ?_; try dsimp only)
      | (refine Ev.bind hi ?_; try dsimp only)
      | (refine Ev.bind (ev_laws_toIntS _ (by first | assumption | omega)) ?_; try dsimp only)
      | (refine Ev.bind (ev_laws_eqIntS_self _ (by first | assumption | omega)) ?_; try dsimp only)
      | (refine Ev.bind (ev_laws_toFlow _ _ (by first | assumption | omega)) ?_; try dsimp only)
      | (refine Ev.bind (ev_laws_eqFlow_self _ _ (by first | assumption | omega)) ?_; try dsimp only)
      | (refine Ev.bind (ev_laws_markIntS _ _ (by first | assumption | omega) (by first | assumption | omega) (by first | assumption | omega)) ?_; try dsimp only)
      | (refine Ev.bind (ev_laws_heldIntS _ _ (by first | assumption | omega) (by first | assumption | omega) (by first | assumption | omega)) ?_; try dsimp only)
      | (refine Ev.bind (ev_laws_markFlow _ _ _ (by first | assumption | omega) (by first | assumption | omega) (by first | assumption | omega)) ?_; try dsimp only)
      | (refine Ev.bind (ev_laws_heldFlow _ _ _ (by first | assumption | omega) (by first | assumption | omega) (by first | assumption | omega)) ?_; try dsimp only)
      | (refine ev_ite (fun h => absurd h (by omega)) (fun _ => ?_))
      | (refine ev_ite (fun _ => ?_) (fun h => absurd (by omega) h))
      | (simp only [bne_self_eq_false, Bool.false_eq_true, ↓reduceIte])
      | (refine ev_succ ?_; simp only [laws_FnExactRunOrders.j0])
      | (refine ev_succ ?_; simp only [laws_FnExactRunOrders.j1])
      | (refine ev_succ ?_; simp only [laws_FnExactRunOrders.j2])
  · simp only [laws_szFlow_gt a0_0 l0_1 h0_1 (by omega), Option.bind_some]
    exact Ev.now _

end Go.Proofs.Ytjenbljkjmkbfaa.Pure
