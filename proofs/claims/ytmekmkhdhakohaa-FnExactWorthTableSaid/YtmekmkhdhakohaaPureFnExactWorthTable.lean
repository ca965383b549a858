/- The pure side of FnExactWorthTable: what the program's text computes and what the reference's text computes are the same value, for every argument. No condition. -/
import Derived.Test.YtmekmkhdhakohaaPFnExactWorthTablex10
namespace Go.Proofs.Ytmekmkhdhakohaa.Pure
open Go.RowKit Go.Proofs.Ytmekmkhdhakohaa.PFnExactWorthTable Go.Proofs.YtmekmkhdhakohaaW.PrintWords Go.Proofs.YtmekmkhdhakohaaW.PrintLast
set_option linter.unusedVariables false
set_option linter.unusedSimpArgs false

theorem ev_succ {α : Type} {g : Nat → Option α} {r : α} (h : Ev (fun k => g (k + 1)) r) : Ev g r := Ev.step (fun _ => rfl) h
theorem ev_pure {α : Type} {x : Option α} {r : α} (h : x = some r) : Ev (fun _ => x) r := ⟨0, fun _ _ => h⟩
theorem ev_eq {α : Type} {g : Nat → Option α} {r r' : α} (h : Ev g r) (e : r = r') : Ev g r' := e ▸ h
theorem ev_ite {α : Type} {c : Prop} [Decidable c] {g f : Nat → Option α} {r : α} (h1 : c → Ev g r) (h2 : ¬ c → Ev f r) : Ev (fun k => if c then g k else f k) r := by
  by_cases h : c
  · simp only [h, if_true]; exact h1 h
  · simp only [h, if_false]; exact h2 h
theorem w64 {x : Int} (h : -9223372036854775808 ≤ x) (h' : x ≤ 9223372036854775807) : wrap64 x = x := by unfold wrap64; omega
theorem w64_zero : wrap64 0 = 0 := w64 (by omega) (by omega)
theorem w64_idem (x : Int) : wrap64 (wrap64 x) = wrap64 x := by unfold wrap64; omega
theorem w64_add_l (x y : Int) : wrap64 (wrap64 x + y) = wrap64 (x + y) := by unfold wrap64; omega
theorem w64_add_r (x y : Int) : wrap64 (x + wrap64 y) = wrap64 (x + y) := by unfold wrap64; omega
theorem w64_sub_l (x y : Int) : wrap64 (wrap64 x - y) = wrap64 (x - y) := by unfold wrap64; omega
theorem w64_sub_r (x y : Int) : wrap64 (x - wrap64 y) = wrap64 (x - y) := by unfold wrap64; omega
theorem w64_shift (x k : Int) : wrap64 (x + 18446744073709551616 * k) = wrap64 x := by unfold wrap64; omega
theorem w64_ex (x : Int) : ∃ k, wrap64 x = x + 18446744073709551616 * k := by
  unfold wrap64
  exact ⟨-((x + 9223372036854775808) / 18446744073709551616), by omega⟩
theorem w64_mul_l (x y : Int) : wrap64 (wrap64 x * y) = wrap64 (x * y) := by
  obtain ⟨k, hk⟩ := w64_ex x
  rw [hk, Int.add_mul, Int.mul_assoc, w64_shift]
theorem w64_mul_r (x y : Int) : wrap64 (x * wrap64 y) = wrap64 (x * y) := by
  rw [Int.mul_comm, w64_mul_l, Int.mul_comm]
theorem w64_neg (x : Int) : wrap64 (-wrap64 x) = wrap64 (-x) := by unfold wrap64; omega
theorem w64_range (x : Int) : -9223372036854775808 ≤ wrap64 x ∧ wrap64 x ≤ 9223372036854775807 := by unfold wrap64; omega
theorem w64_nat {i n : Nat} (h : i < n) (hn : n ≤ 9223372036854775807) : wrap64 ((i : Int) + 1) = ((i + 1 : Nat) : Int) := by rw [w64 (by omega) (by omega)]; rfl
theorem wf_range {x : Int} (h : (Lit.int .i64 x).wf = true) : -9223372036854775808 ≤ x ∧ x ≤ 9223372036854775807 := by
  simp [Lit.wf, IntKind.min, IntKind.max, IntKind.signed, IntKind.bits] at h
  omega
theorem rd_nat {l : List Int} {i : Nat} (h : i < l.length) : rd l (i : Int) = l[i] := by
  unfold rd
  simp [List.getD_eq_getElem?_getD, h]
def allB (l : List Int) (a b : Int) : Bool := l.all fun x => decide (a ≤ x ∧ x ≤ b)
def inB (x a b : Int) : Bool := decide (a ≤ x ∧ x ≤ b)
theorem allB_mem {l : List Int} {a b : Int} (h : allB l a b = true) : ∀ x ∈ l, a ≤ x ∧ x ≤ b := by
  intro x hx
  have := List.all_eq_true.1 h x hx
  simpa using this
theorem inB_iff {x a b : Int} : inB x a b = true ↔ a ≤ x ∧ x ≤ b := by unfold inB; simp
theorem sum_le {l : List Int} {b : Int} (hb : ∀ x ∈ l, x ≤ b) : l.sum ≤ l.length * b := by
  induction l with
  | nil => simp
  | cons x l ih =>
    have h1 := hb x (by simp)
    have h2 := ih (fun y hy => hb y (by simp [hy]))
    rw [List.sum_cons, List.length_cons]
    have : ((l.length + 1 : Nat) : Int) * b = l.length * b + b := by rw [Int.natCast_add, Int.add_mul]; simp
    rw [this]; omega
theorem le_sum {l : List Int} {b : Int} (hb : ∀ x ∈ l, b ≤ x) : l.length * b ≤ l.sum := by
  induction l with
  | nil => simp
  | cons x l ih =>
    have h1 := hb x (by simp)
    have h2 := ih (fun y hy => hb y (by simp [hy]))
    rw [List.sum_cons, List.length_cons]
    have : ((l.length + 1 : Nat) : Int) * b = l.length * b + b := by rw [Int.natCast_add, Int.add_mul]; simp
    rw [this]; omega
theorem drop_cons {α : Type} {l : List α} {i : Nat} (h : i < l.length) : l.drop i = l[i] :: l.drop (i + 1) := List.drop_eq_getElem_cons h
theorem ev_yes {α : Type} {c : Prop} [Decidable c] {g f : Nat → Option α} {r : α} (h : c) (hg : Ev g r) : Ev (fun k => if c then g k else f k) r := ev_ite (fun _ => hg) (fun hn => absurd h hn)
theorem ev_no {α : Type} {c : Prop} [Decidable c] {g f : Nat → Option α} {r : α} (h : ¬ c) (hf : Ev f r) : Ev (fun k => if c then g k else f k) r := ev_ite (fun hn => absurd hn h) (fun _ => hf)

theorem laws_szIntS_le (l : List Int) (hl : l.length ≤ 1048576) : laws_szIntS.f l 1048576 = some (1048576 - (l.length : Int)) := by
  unfold laws_szIntS.f
  rw [w64 (by omega) (by omega), if_neg (by omega)]
theorem laws_szIntS_gt (l : List Int) (h : l.length ≤ 9223372036854775807) (hl : 1048576 < l.length) : laws_szIntS.f l 1048576 = some (-1) := by
  unfold laws_szIntS.f
  rw [w64 (by omega) (by omega), if_pos (by omega)]
theorem laws_szIntS_f (l : List Int) (t : Int) (h : l.length ≤ 9223372036854775807) (h0 : 0 ≤ t) (h1 : t ≤ 1048576) : laws_szIntS.f l t = some (if t - (l.length : Int) < 0 then -1 else t - (l.length : Int)) := by
  unfold laws_szIntS.f
  rw [w64 (by omega) (by omega)]
  by_cases hc : t - (l.length : Int) < 0
  · rw [if_pos hc, if_pos hc]
  · rw [if_neg hc, if_neg hc]

theorem laws_szProcess_le (n : Int) (l : List Int) (s u h b : Int) (hl : l.length ≤ 1048576) : laws_szProcess.f n l s u h b 1048576 = some (1048576 - (l.length : Int)) := by
  unfold laws_szProcess.f
  rw [laws_szIntS_le l hl, Option.bind_some, if_neg (by omega)]
theorem laws_szProcess_gt (n : Int) (l : List Int) (s u h b : Int) (hh : l.length ≤ 9223372036854775807) (hl : 1048576 < l.length) : laws_szProcess.f n l s u h b 1048576 = some (-1) := by
  unfold laws_szProcess.f
  rw [laws_szIntS_gt l hh hl, Option.bind_some, if_pos (by omega)]

theorem ev_laws_toIntS_l0 (l : List Int) (hl : l.length ≤ 9223372036854775807) (d : Nat) : ∀ (i : Nat) (o : List Int), i + d = l.length → o.length = l.length → Ev (fun k => laws_toIntS.l0 k l o (i : Int)) (o.take i ++ l.drop i) := by
  induction d with
  | zero =>
    intro i o hi ho
    refine ev_succ ?_
    have h1 : ¬ (i : Int) < (l.length : Int) := by omega
    simp only [laws_toIntS.l0, h1, ↓reduceIte]
    rw [List.drop_eq_nil_of_le (by omega), List.take_of_length_le (by omega), List.append_nil]
    exact Ev.now _
  | succ d ih =>
    intro i o hi ho
    refine ev_succ ?_
    have h1 : (i : Int) < (l.length : Int) := by omega
    have h2 : (i : Int) < (o.length : Int) := by omega
    have h0 : (0 : Int) ≤ (i : Int) := by omega
    have hi' : i < l.length := by omega
    simp only [laws_toIntS.l0, h1, h2, h0, ↓reduceIte, rd_nat hi', w64_nat hi' hl, Int.toNat_natCast]
    refine ev_eq (ih (i + 1) _ (by omega) (by simp [ho])) ?_
    rw [drop_cons hi', List.take_add_one]
    simp [ho, hi', List.take_set_of_le (Nat.le_refl i)]
theorem ev_laws_toIntS (l : List Int) (hl : l.length ≤ 1048576) : Ev (fun k => laws_toIntS.f k l) l := by
  unfold laws_toIntS.f
  have h0 : (0 : Int) ≤ (l.length : Int) := by omega
  have h1 : ((l.length : Int) : Int).toNat ≤ 35184372088832 := by omega
  simp only [h0, h1, ↓reduceIte]
  simpa using ev_laws_toIntS_l0 l (by omega) l.length 0 (List.replicate ((l.length : Int) : Int).toNat 0) (by omega) (by simp)

theorem ev_laws_toProcess (n : Int) (l : List Int) (s u h b : Int) (hl : l.length ≤ 1048576) : Ev (fun k => laws_toProcess.f k n l s u h b) (n, l, s, u, h, b) := by
  unfold laws_toProcess.f
  exact Ev.bind (ev_laws_toIntS l hl) (Ev.now _)

theorem ev_laws_eqIntS_l0 (l m : List Int) (hl : l.length ≤ 9223372036854775807) (he : l.length = m.length) (d : Nat) : ∀ (i : Nat), i + d = l.length → Ev (fun k => laws_eqIntS.l0 k l m (i : Int)) (decide (l.drop i = m.drop i)) := by
  induction d with
  | zero =>
    intro i hi
    refine ev_succ ?_
    have h1 : ¬ (i : Int) < (l.length : Int) := by omega
    simp only [laws_eqIntS.l0, h1, ↓reduceIte]
    rw [List.drop_eq_nil_of_le (by omega), List.drop_eq_nil_of_le (by omega)]
    exact Ev.now _
  | succ d ih =>
    intro i hi
    refine ev_succ ?_
    have h1 : (i : Int) < (l.length : Int) := by omega
    have h2 : (i : Int) < (m.length : Int) := by omega
    have h0 : (0 : Int) ≤ (i : Int) := by omega
    have hi' : i < l.length := by omega
    have hm' : i < m.length := by omega
    simp only [laws_eqIntS.l0, h1, h2, h0, ↓reduceIte, rd_nat hi', rd_nat hm', w64_nat hi' hl]
    refine ev_ite (fun h => ?_) (fun h => ?_)
    · refine ev_eq (ih (i + 1) (by omega)) ?_
      rw [drop_cons hi', drop_cons hm', decide_eq_decide, h, List.cons.injEq]
      exact (and_iff_right rfl).symm
    · refine ev_eq (Ev.now _) ?_
      rw [drop_cons hi', drop_cons hm']
      symm
      rw [decide_eq_false_iff_not, List.cons.injEq]
      exact fun hc => h hc.1
theorem ev_laws_eqIntS (l m : List Int) (hl : l.length ≤ 9223372036854775807) : Ev (fun k => laws_eqIntS.f k l m) (decide (l = m)) := by
  unfold laws_eqIntS.f
  refine ev_ite (fun h => ?_) (fun h => ?_)
  · simpa using ev_laws_eqIntS_l0 l m hl (by omega) l.length 0 (by omega)
  · refine ev_eq (Ev.now _) ?_
    symm
    rw [decide_eq_false_iff_not]
    rintro rfl
    exact h rfl
theorem ev_laws_eqIntS_self (l : List Int) (hl : l.length ≤ 9223372036854775807) : Ev (fun k => laws_eqIntS.f k l l) true := by
  simpa using ev_laws_eqIntS l l hl

theorem ev_laws_eqProcess_self (n : Int) (l : List Int) (s u h b : Int) (hl : l.length ≤ 9223372036854775807) : Ev (fun k => laws_eqProcess.f k n l s u h b n l s u h b) true := by
  unfold laws_eqProcess.f
  simp only [↓reduceIte]
  refine Ev.bind (ev_laws_eqIntS_self l hl) ?_
  simp only [↓reduceIte]
  exact Ev.now _

def marked (m : Int) : Nat → List Int
  | 0 => []
  | n + 1 => m :: marked (m + 1) n
theorem marked_length (m : Int) (n : Nat) : (marked m n).length = n := by
  induction n generalizing m with
  | zero => rfl
  | succ n ih => simp [marked, ih]
theorem marked_get (m : Int) (n i : Nat) (h : i < (marked m n).length) : (marked m n)[i] = m + i := by
  induction n generalizing m i with
  | zero => simp [marked] at h
  | succ n ih =>
    cases i with
    | zero => simp [marked]
    | succ i =>
      simp only [marked, List.getElem_cons_succ]
      rw [ih]
      omega
theorem ev_laws_markIntS_l0 (l0 : List Int) (hl : l0.length ≤ 4611686018427387904) (m0 : Int) (h0 : 0 ≤ m0) (h1 : m0 ≤ 1000000000) (d : Nat) : ∀ (i : Nat) (l : List Int), i + d = l.length → l.length = l0.length → Ev (fun k => laws_markIntS.l0 k l (m0 + (i : Int)) (i : Int)) (m0 + (l.length : Int), l.take i ++ marked (m0 + i) d) := by
  induction d with
  | zero =>
    intro i l hi hle
    refine ev_succ ?_
    have h1 : ¬ (i : Int) < (l.length : Int) := by omega
    simp only [laws_markIntS.l0, h1, ↓reduceIte]
    rw [List.take_of_length_le (by omega)]
    have : i = l.length := by omega
    subst this
    simp only [marked, List.append_nil]
    exact Ev.now _
  | succ d ih =>
    intro i l hi hle
    refine ev_succ ?_
    have h1' : (i : Int) < (l.length : Int) := by omega
    have h0' : (0 : Int) ≤ (i : Int) := by omega
    have hi' : i < l.length := by omega
    have e1 : wrap64 (m0 + (i : Int) + 1) = m0 + ((i + 1 : Nat) : Int) := by rw [w64 (by omega) (by omega)]; omega
    simp only [laws_markIntS.l0, h1', h0', ↓reduceIte, w64_nat hi' (by omega : l.length ≤ 9223372036854775807), Int.toNat_natCast, e1]
    refine ev_eq (ih (i + 1) (l.set i (m0 + (i : Int))) (by simp; omega) (by simp [hle])) ?_
    rw [List.length_set]
    congr 1
    rw [List.take_add_one]
    simp only [List.getElem?_set_self hi', List.take_set_of_le (Nat.le_refl i)]
    simp only [Option.toList_some, List.append_assoc, List.singleton_append, marked]
    congr 3
    omega
theorem ev_laws_markIntS (l : List Int) (m : Int) (hl : l.length ≤ 4611686018427387904) (h0 : 0 ≤ m) (h1 : m ≤ 1000000000) : Ev (fun k => laws_markIntS.f k l m) (m + (l.length : Int), marked m l.length) := by
  unfold laws_markIntS.f
  simpa using ev_laws_markIntS_l0 l hl m h0 h1 l.length 0 l (by omega) rfl

theorem ev_laws_markProcess (n : Int) (l : List Int) (s u h b x : Int) (hl : l.length ≤ 4611686018427387904) (h0 : 0 ≤ x) (h1 : x ≤ 1000000000) : Ev (fun k => laws_markProcess.f k n l s u h b x) (x + (l.length : Int), marked x l.length) := by
  unfold laws_markProcess.f
  exact Ev.bind (ev_laws_markIntS l x hl h0 h1) (Ev.now _)

def cst (h b x : Int) : Int := if x > 0 then wrap64 (h * x) else wrap64 (wrap64 (-b) * x)
def ratesB (h b : Int) : Bool := inB h 0 9 && inB b 0 9
def costV (l : List Int) (h b : Int) : Int := wrap64 (l.map (cst h b)).sum
def stockV (l : List Int) (h b : Int) : Int × Bool := if (decide ((l.length : Int) ≤ 20) && ratesB h b && allB l (-200) 200) = true then (costV l h b, true) else (0, false)
theorem ratesB_mem {h b : Int} (hr : ratesB h b = true) : (0 ≤ h ∧ h ≤ 9) ∧ 0 ≤ b ∧ b ≤ 9 := by
  unfold ratesB at hr
  simp only [Bool.and_eq_true, inB_iff] at hr
  exact hr
theorem cst_impl {h b x : Int} (hh : 0 ≤ h ∧ h ≤ 9) (hb : 0 ≤ b ∧ b ≤ 9) (hx : -100000 ≤ x ∧ x ≤ 100000) : wrap64 (wrap64 (h * mx 0 x) + wrap64 (b * mx 0 (wrap64 (-x)))) = cst h b x := by
  have e : wrap64 (-x) = -x := w64 (by omega) (by omega)
  have e2 : wrap64 (-b) = -b := w64 (by omega) (by omega)
  rw [e]
  unfold cst
  rw [e2]
  by_cases hp : x > 0
  · have m1 : mx 0 x = x := by unfold mx; omega
    have m2 : mx 0 (-x) = 0 := by unfold mx; omega
    rw [m1, m2, if_pos hp, Int.mul_zero, w64_add_l, w64_add_r, Int.add_zero]
  · have m1 : mx 0 x = 0 := by unfold mx; omega
    have m2 : mx 0 (-x) = -x := by unfold mx; omega
    rw [m1, m2, if_neg hp, Int.mul_zero, w64_add_l, w64_add_r, Int.zero_add, Int.mul_neg, Int.neg_mul]
theorem cst_range {h b x : Int} (hh : 0 ≤ h ∧ h ≤ 9) (hb : 0 ≤ b ∧ b ≤ 9) (hx : -100000 ≤ x ∧ x ≤ 100000) : 0 ≤ cst h b x ∧ cst h b x ≤ 900000 := by
  unfold cst
  rw [w64 (x := -b) (by omega) (by omega)]
  by_cases hp : x > 0
  · rw [if_pos hp]
    have h1 : 0 ≤ h * x := Int.mul_nonneg hh.1 (by omega)
    have h2 : h * x ≤ 9 * x := Int.mul_le_mul_of_nonneg_right hh.2 (by omega)
    rw [w64 (by omega) (by omega)]
    omega
  · rw [if_neg hp, Int.neg_mul, ← Int.mul_neg]
    have h1 : 0 ≤ b * -x := Int.mul_nonneg hb.1 (by omega)
    have h2 : b * -x ≤ 9 * -x := Int.mul_le_mul_of_nonneg_right hb.2 (by omega)
    rw [w64 (by omega) (by omega)]
    omega

def procB (n : Int) (l : List Int) (s u h b : Int) : Bool := inB n 0 5 && (inB (l.length : Int) 1 5 && (allB l 0 4 && (decide (wrap64 l.sum > 0) && (inB s 0 99 && (inB u 0 9 && (inB h 0 9 && inB b 0 9))))))
theorem procB_spec {n : Int} {l : List Int} {s u h b : Int} (hp : procB n l s u h b = true) : (0 ≤ n ∧ n ≤ 5) ∧ (1 ≤ l.length ∧ l.length ≤ 5) ∧ (∀ x ∈ l, 0 ≤ x ∧ x ≤ 4) ∧ (0 < l.sum ∧ l.sum ≤ 20) ∧ (0 ≤ s ∧ s ≤ 99) ∧ (0 ≤ u ∧ u ≤ 9) ∧ (0 ≤ h ∧ h ≤ 9) ∧ (0 ≤ b ∧ b ≤ 9) := by
  unfold procB at hp
  simp only [Bool.and_eq_true, inB_iff, decide_eq_true_eq] at hp
  obtain ⟨h1, h2, h3, h4, h5, h6, h7, h8⟩ := hp
  have hm := allB_mem h3
  have s1 := sum_le (b := 4) (fun y hy => (hm y hy).2)
  have s2 := le_sum (b := 0) (fun y hy => (hm y hy).1)
  rw [w64 (by omega) (by omega)] at h4
  exact ⟨h1, by omega, hm, by omega, h5, h6, h7, h8⟩
def floorV (l : List Int) : Int := wrap64 (wrap64 ((l.length : Int) - 1) - 10)
theorem floorV_eq {l : List Int} (h : l.length ≤ 5) : floorV l = (l.length : Int) - 11 := by
  unfold floorV
  rw [w64 (x := (l.length : Int) - 1) (by omega) (by omega), w64 (by omega) (by omega)]
  omega
def orderV (s u x y : Int) : Int := if y > x then wrap64 (s + wrap64 (u * wrap64 (y - x))) else 0

theorem spec_l6Order_f (n : Int) (l : List Int) (s u h b x y : Int) : spec_l6Order.f n l s u h b x y = some (orderV s u x y) := by
  unfold spec_l6Order.f orderV
  split <;> rfl

theorem ev_spec_l2Sum_l0 (l : List Int) (hl : l.length ≤ 9223372036854775807) (d : Nat) : ∀ (i : Nat) (s : Int), i + d = l.length → wrap64 s = s → Ev (fun k => spec_l2Sum.l0 k l s (i : Int)) (wrap64 (s + (l.drop i).sum)) := by
  induction d with
  | zero =>
    intro i s hi hs
    refine ev_succ ?_
    have h1 : ¬ (i : Int) < (l.length : Int) := by omega
    simp only [spec_l2Sum.l0, h1, ↓reduceIte]
    rw [List.drop_eq_nil_of_le (by omega)]
    simp only [List.sum_nil, Int.add_zero, hs]
    exact Ev.now _
  | succ d ih =>
    intro i s hi hs
    refine ev_succ ?_
    have h1 : (i : Int) < (l.length : Int) := by omega
    have h0 : (0 : Int) ≤ (i : Int) := by omega
    have hi' : i < l.length := by omega
    simp only [spec_l2Sum.l0, h1, h0, ↓reduceIte, rd_nat hi', w64_nat hi' hl]
    refine ev_eq (ih (i + 1) _ (by omega) (w64_idem _)) ?_
    rw [drop_cons hi', List.sum_cons, w64_add_l, Int.add_assoc]
theorem ev_spec_l2Sum (l : List Int) (hl : l.length ≤ 9223372036854775807) : Ev (fun k => spec_l2Sum.f k l) (wrap64 l.sum) := by
  unfold spec_l2Sum.f
  simpa using ev_spec_l2Sum_l0 l hl l.length 0 0 (by omega) w64_zero

def powW (a : Int) : Nat → Int
  | 0 => 1
  | m + 1 => wrap64 (powW a m * a)
def powV (l : List Int) (n : Int) : Int := powW (wrap64 l.sum) n.toNat
def aftW (h b pw : Int) (N : List Int) : List Int → Int → Int → Int
  | [], _, acc => acc
  | w :: ws, y, acc => aftW h b pw N ws (y - 1) (wrap64 (acc + wrap64 (w * wrap64 (wrap64 (cst h b y * pw) + rd N (y + 10)))))
def aftV (l : List Int) (h b : Int) (N : List Int) (y m : Int) : Int := aftW h b (powV l (m - 1)) N l y 0
def lvCost (l : List Int) (s u h b : Int) (N : List Int) (m x y : Int) : Int := wrap64 (wrap64 (orderV s u x y * powV l m) + aftV l h b N y m)
def dnV (c : Int → Int) (hi : Int) : Nat → Int × Int
  | 0 => (hi, c hi)
  | d + 1 => if c (hi - ((d + 1 : Nat) : Int)) ≤ (dnV c hi d).2 then (hi - ((d + 1 : Nat) : Int), c (hi - ((d + 1 : Nat) : Int))) else dnV c hi d
def fwdV (c : Int → Int) : Nat → Int → Int × Int → Int × Int
  | 0, _, r => r
  | d + 1, y, r => fwdV c d (y + 1) (if c y < r.2 then (y, c y) else r)
theorem fwdV_dn (c : Int → Int) (d : Nat) : ∀ (y : Int) (r : Int × Int), fwdV c (d + 1) y r = if r.2 ≤ (dnV c (y + d) d).2 then r else dnV c (y + d) d := by
  induction d with
  | zero =>
    intro y r
    simp only [fwdV, dnV, Int.natCast_zero, Int.add_zero]
    by_cases h : c y < r.2
    · rw [if_pos h, if_neg (by omega)]
    · rw [if_neg h, if_pos (by omega)]
  | succ d ih =>
    intro y r
    rw [fwdV, ih]
    have e : y + ((d + 1 : Nat) : Int) = y + 1 + (d : Int) := by omega
    have e2 : y + 1 + (d : Int) - ((d + 1 : Nat) : Int) = y := by omega
    rw [e, dnV, e2]
    generalize dnV c (y + 1 + (d : Int)) d = q
    by_cases h1 : c y < r.2
    · rw [if_pos h1]
      by_cases h2 : c y ≤ q.2
      · rw [if_pos h2]
        rw [if_neg (by show ¬ r.2 ≤ c y; omega)]
      · rw [if_neg h2]
        rw [if_neg (by omega)]
    · rw [if_neg h1]
      by_cases h2 : c y ≤ q.2
      · rw [if_pos h2]
        rw [if_pos (by omega), if_pos (by show r.2 ≤ c y; omega)]
      · rw [if_neg h2]
def bestV (l : List Int) (s u h b : Int) (N : List Int) (m x : Int) : Int × Int := dnV (lvCost l s u h b N m x) 10 (10 - mx x (floorV l)).toNat
theorem fwdV_best (c : Int → Int) {lo : Int} (h : lo ≤ 10) : fwdV c (10 - lo).toNat (lo + 1) (lo, c lo) = dnV c 10 (10 - lo).toNat := by
  obtain ⟨d, hd⟩ : ∃ d : Nat, (10 - lo).toNat = d := ⟨_, rfl⟩
  rw [hd]
  cases d with
  | zero =>
    have : lo = 10 := by omega
    subst this
    rfl
  | succ d =>
    rw [fwdV_dn]
    have e : lo + 1 + (d : Int) = 10 := by omega
    have e2 : (10 : Int) - ((d + 1 : Nat) : Int) = lo := by omega
    rw [e, dnV, e2]
def rowV (l : List Int) (s u h b : Int) (N : List Int) (m : Int) : List Int := (List.range 21).map fun (i : Nat) => (bestV l s u h b N m ((i : Int) - 10)).2
theorem rowV_len (l : List Int) (s u h b : Int) (N : List Int) (m : Int) : (rowV l s u h b N m).length = 21 := by simp [rowV]
theorem rowV_get (l : List Int) (s u h b : Int) (N : List Int) (m : Int) {i : Nat} (hi : i < 21) : (rowV l s u h b N m)[i]? = some (bestV l s u h b N m ((i : Int) - 10)).2 := by
  simp [rowV, hi]
theorem rowV_take (l : List Int) (s u h b : Int) (N : List Int) (m : Int) {i : Nat} (hi : i < 21) : (rowV l s u h b N m).take (i + 1) = (rowV l s u h b N m).take i ++ [(bestV l s u h b N m ((i : Int) - 10)).2] := by
  rw [List.take_add_one, rowV_get l s u h b N m hi]
  rfl
def wts (l : List Int) (s u h b : Int) : Nat → List (List Int)
  | 0 => [List.replicate 21 0]
  | m + 1 => rowV l s u h b ((wts l s u h b m).headD []) ((m + 1 : Nat) : Int) :: wts l s u h b m
theorem wts_len (l : List Int) (s u h b : Int) : ∀ m, (wts l s u h b m).length = m + 1
  | 0 => rfl
  | m + 1 => by rw [wts, List.length_cons, wts_len]
theorem wts_rows (l : List Int) (s u h b : Int) : ∀ m, ∀ r ∈ wts l s u h b m, r.length = 21
  | 0, r, hr => by simp only [wts, List.mem_singleton] at hr; rw [hr]; simp
  | m + 1, r, hr => by
    rw [wts, List.mem_cons] at hr
    cases hr with
    | inl e => rw [e, rowV_len]
    | inr e => exact wts_rows l s u h b m r e
theorem wts_head (l : List Int) (s u h b : Int) (m : Nat) : (wts l s u h b m).headD [] = (wts l s u h b m).getD 0 [] := by
  cases m <;> rfl
theorem wts_head_len (l : List Int) (s u h b : Int) (m : Nat) : ((wts l s u h b m).headD []).length = 21 := by
  cases m with
  | zero => simp [wts]
  | succ m => rw [wts, List.headD_cons, rowV_len]
def billV (l : List Int) (u h b : Int) (N : List Int) (m y : Int) : Int := wrap64 (wrap64 (wrap64 (u * y) * powV l m) + aftV l h b N y m)
def billsV (l : List Int) (u h b : Int) (N : List Int) (m : Int) : List Int := (List.range (22 - l.length)).map fun (i : Nat) => billV l u h b N m (floorV l + (i : Int))
theorem billsV_len (l : List Int) (u h b : Int) (N : List Int) (m : Int) : (billsV l u h b N m).length = 22 - l.length := by simp [billsV]
theorem billsV_take (l : List Int) (u h b : Int) (N : List Int) (m : Int) {i : Nat} (hi : i < 22 - l.length) : (billsV l u h b N m).take (i + 1) = (billsV l u h b N m).take i ++ [billV l u h b N m (floorV l + (i : Int))] := by
  rw [List.take_add_one]
  simp [billsV, hi]
def nextV (n : Int) (l : List Int) (s u h b t : Int) : List Int := (wts l s u h b n.toNat).getD (t + 1).toNat []
theorem nextV_len {n : Int} {l : List Int} {s u h b t : Int} (ht : 0 ≤ t ∧ t ≤ n - 1) : (nextV n l s u h b t).length = 21 := by
  unfold nextV
  have hl : (t + 1).toNat < (wts l s u h b n.toNat).length := by rw [wts_len]; omega
  rw [List.getD_eq_getElem?_getD, List.getElem?_eq_getElem hl]
  exact wts_rows l s u h b _ _ (List.getElem_mem hl)
def billsOfV (n : Int) (l : List Int) (s u h b t : Int) : List Int × Bool :=
  if (procB n l s u h b && inB t 0 (wrap64 (n - 1))) = true then (billsV l u h b (nextV n l s u h b t) (n - t), true) else ([], false)
theorem billsOfV_len (n : Int) (l : List Int) (s u h b t : Int) : (billsOfV n l s u h b t).1.length ≤ 22 := by
  unfold billsOfV
  split
  · dsimp only; rw [billsV_len]; omega
  · simp
theorem turnB_spec {n : Int} {l : List Int} {s u h b t : Int} (hc : (procB n l s u h b && inB t 0 (wrap64 (n - 1))) = true) : procB n l s u h b = true ∧ 0 ≤ t ∧ t ≤ n - 1 := by
  rw [Bool.and_eq_true] at hc
  have h1 := procB_spec hc.1
  have h2 := inB_iff.1 hc.2
  rw [w64 (by omega) (by omega)] at h2
  exact ⟨hc.1, h2⟩

theorem ev_spec_l6Power_l0 (a n : Int) (hn : 0 ≤ n ∧ n ≤ 100) (d : Nat) : ∀ (i : Nat), (i : Int) + d = n → Ev (fun k => spec_l6Power.l0 k n (powW a i) a (i : Int)) (powW a n.toNat) := by
  induction d with
  | zero =>
    intro i hi
    refine ev_succ ?_
    have h1 : ¬ (i : Int) < n := by omega
    simp only [spec_l6Power.l0, h1, ↓reduceIte]
    rw [show n.toNat = i by omega]
    exact Ev.now _
  | succ d ih =>
    intro i hi
    refine ev_succ ?_
    have h1 : (i : Int) < n := by omega
    simp only [spec_l6Power.l0, h1, ↓reduceIte]
    rw [w64 (x := (i : Int) + 1) (by omega) (by omega)]
    have h2 := ih (i + 1) (by omega)
    rw [powW] at h2
    exact h2
theorem ev_spec_l6Power (n : Int) (l : List Int) (s u h b m : Int) (hl : l.length ≤ 9223372036854775807) (hm : 0 ≤ m ∧ m ≤ 100) : Ev (fun k => spec_l6Power.f k n l s u h b m) (powV l m) := by
  unfold spec_l6Power.f powV
  exact Ev.bind (ev_spec_l2Sum l hl) (ev_spec_l6Power_l0 _ m hm m.toNat 0 (by omega))

theorem spec_l6Kept_f (n : Int) (l : List Int) (s u h b x : Int) : spec_l6Kept.f n l s u h b x = some (cst h b x) := by
  unfold spec_l6Kept.f cst
  split <;> rfl

theorem ev_spec_l6After_l0 (n : Int) (l : List Int) (s u h b : Int) (N : List Int) (y m : Int) (hl : l.length ≤ 5) (hN : N.length = 21) (hm : 1 ≤ m ∧ m ≤ 6) (hy : (l.length : Int) - 11 ≤ y ∧ y ≤ 10) (d : Nat) : ∀ (i : Nat) (acc : Int), i + d = l.length → Ev (fun k => spec_l6After.l0 k N y m acc (i : Int) n l s u h b) (aftW h b (powV l (m - 1)) N (l.drop i) (y - i) acc) := by
  induction d with
  | zero =>
    intro i acc hi
    refine ev_succ ?_
    have h1 : ¬ (i : Int) < (l.length : Int) := by omega
    simp only [spec_l6After.l0, h1, ↓reduceIte]
    rw [List.drop_eq_nil_of_le (by omega), aftW]
    exact Ev.now _
  | succ d ih =>
    intro i acc hi
    refine ev_succ ?_
    have h1 : (i : Int) < (l.length : Int) := by omega
    have h0 : (0 : Int) ≤ (i : Int) := by omega
    have hi' : i < l.length := by omega
    have e1 : wrap64 (y - (i : Int)) = y - i := w64 (by omega) (by omega)
    have e2 : wrap64 (y - (i : Int) + 10) = y - i + 10 := w64 (by omega) (by omega)
    have e3 : wrap64 (m - 1) = m - 1 := w64 (by omega) (by omega)
    have e4 : wrap64 ((i : Int) + 1) = ((i + 1 : Nat) : Int) := w64_nat hi' (by omega)
    simp only [spec_l6After.l0, h1, h0, ↓reduceIte, e1, e2, e3, e4, spec_l6Kept_f, Option.bind_some]
    refine Ev.bind (ev_spec_l6Power n l s u h b (m - 1) (by omega) (by omega)) ?_
    refine ev_yes (show (0 : Int) ≤ y - i + 10 by omega) (ev_yes (show y - (i : Int) + 10 < (N.length : Int) by omega) ?_)
    rw [rd_nat hi', drop_cons hi', aftW]
    refine ev_eq (ih (i + 1) _ (by omega)) ?_
    rw [show y - ((i + 1 : Nat) : Int) = y - (i : Int) - 1 by omega]
theorem ev_spec_l6After (n : Int) (l : List Int) (s u h b : Int) (N : List Int) (y m : Int) (hl : l.length ≤ 5) (hN : N.length = 21) (hm : 1 ≤ m ∧ m ≤ 6) (hy : (l.length : Int) - 11 ≤ y ∧ y ≤ 10) : Ev (fun k => spec_l6After.f k n l s u h b N y m) (aftV l h b N y m) := by
  unfold spec_l6After.f aftV
  refine ev_eq (ev_spec_l6After_l0 n l s u h b N y m hl hN hm hy l.length 0 0 (by omega)) ?_
  rw [List.drop_zero, show y - ((0 : Nat) : Int) = y by omega]

theorem spec_l6Floor_f (n : Int) (l : List Int) (s u h b : Int) : spec_l6Floor.f n l s u h b = some (floorV l) := rfl

theorem spec_l1Most_f (a b : Int) : spec_l1Most.f a b = some (mx b a) := by
  unfold spec_l1Most.f mx
  by_cases h : a > b
  · rw [if_pos h, if_pos (by omega)]
  · rw [if_neg h, if_neg (by omega)]

theorem ev_spec_l6Best_l0 (n : Int) (l : List Int) (s u h b : Int) (N : List Int) (x m : Int) (hl : 1 ≤ l.length ∧ l.length ≤ 5) (hN : N.length = 21) (hm : 1 ≤ m ∧ m ≤ 6) (hx : -10 ≤ x ∧ x ≤ 10) (d : Nat) : ∀ (j : Nat), j + d = (10 - mx x (floorV l)).toNat → Ev (fun k => spec_l6Best.l0 k N x m (dnV (lvCost l s u h b N m x) 10 j).1 (dnV (lvCost l s u h b N m x) 10 j).2 (10 - ((j + 1 : Nat) : Int)) n l s u h b) (bestV l s u h b N m x) := by
  have hf := floorV_eq hl.2
  have hlo : mx x (floorV l) ≤ 10 ∧ (l.length : Int) - 11 ≤ mx x (floorV l) ∧ x ≤ mx x (floorV l) ∧ -10 ≤ mx x (floorV l) := by unfold mx; omega
  induction d with
  | zero =>
    intro j hj
    refine ev_succ ?_
    simp only [spec_l6Best.l0, spec_l6Floor_f, spec_l1Most_f, Option.bind_some]
    rw [show mx (floorV l) x = mx x (floorV l) by unfold mx; omega]
    refine ev_no (by omega) ?_
    refine ev_eq (Ev.now _) ?_
    unfold bestV
    rw [show (10 - mx x (floorV l)).toNat = j by omega]
  | succ d ih =>
    intro j hj
    refine ev_succ ?_
    simp only [spec_l6Best.l0, spec_l6Floor_f, spec_l1Most_f, Option.bind_some, spec_l6Order_f]
    rw [show mx (floorV l) x = mx x (floorV l) by unfold mx; omega]
    simp only [show ((10 - ((j + 1 : Nat) : Int)) ≥ mx x (floorV l)) = True from eq_true (by omega), if_true]
    refine Ev.bind (ev_spec_l6Power n l s u h b m (by omega) (by omega)) ?_
    refine Ev.bind (ev_spec_l6After n l s u h b N _ m hl.2 hN hm (by omega)) ?_
    refine ev_no (by omega) ?_
    have e : wrap64 (10 - ((j + 1 : Nat) : Int) - 1) = 10 - ((j + 1 + 1 : Nat) : Int) := by rw [w64 (by omega) (by omega)]; omega
    rw [e]
    have h2 := ih (j + 1) (by omega)
    rw [dnV] at h2
    refine ev_ite (fun h3 => ?_) (fun h3 => ?_)
    · have h3' : lvCost l s u h b N m x (10 - ((j + 1 : Nat) : Int)) ≤ (dnV (lvCost l s u h b N m x) 10 j).2 := h3
      rw [if_pos h3'] at h2; exact h2
    · have h3' : ¬ lvCost l s u h b N m x (10 - ((j + 1 : Nat) : Int)) ≤ (dnV (lvCost l s u h b N m x) 10 j).2 := h3
      rw [if_neg h3'] at h2; exact h2
theorem ev_spec_l6Best (n : Int) (l : List Int) (s u h b : Int) (N : List Int) (x m : Int) (hl : 1 ≤ l.length ∧ l.length ≤ 5) (hN : N.length = 21) (hm : 1 ≤ m ∧ m ≤ 6) (hx : -10 ≤ x ∧ x ≤ 10) : Ev (fun k => spec_l6Best.f k n l s u h b N x m) (bestV l s u h b N m x) := by
  have hf := floorV_eq hl.2
  have hlo : mx x (floorV l) ≤ 10 := by unfold mx; omega
  unfold spec_l6Best.f
  refine ev_succ ?_
  simp only [spec_l6Best.l0, spec_l6Floor_f, spec_l1Most_f, Option.bind_some, spec_l6Order_f]
  rw [show mx (floorV l) x = mx x (floorV l) by unfold mx; omega]
  simp only [show ((10 : Int) ≥ mx x (floorV l)) = True from eq_true (by omega), if_true]
  refine Ev.bind (ev_spec_l6Power n l s u h b m (by omega) (by omega)) ?_
  refine Ev.bind (ev_spec_l6After n l s u h b N _ m hl.2 hN hm (by omega)) ?_
  rw [show wrap64 ((10 : Int) - 1) = 10 - ((0 + 1 : Nat) : Int) from w64 (by omega) (by omega)]
  exact ev_spec_l6Best_l0 n l s u h b N x m hl hN hm hx (10 - mx x (floorV l)).toNat 0 (by omega)

theorem ev_spec_l6Worths_l1 (n : Int) (l : List Int) (s u h b : Int) (hl : 1 ≤ l.length ∧ l.length ≤ 5) (hn : 0 ≤ n ∧ n ≤ 5) (m : Nat) (hm : (m : Int) + 1 ≤ n) {r : List (List Int)} (hc : Ev (fun k => spec_l6Worths.l0 k (wts l s u h b (m + 1)) (n - 1 - ((m + 1 : Nat) : Int)) n l s u h b) r) (d : Nat) : ∀ (i : Nat), i + d = 21 → Ev (fun k => spec_l6Worths.l1 k (wts l s u h b m) (n - 1 - (m : Int)) ((rowV l s u h b ((wts l s u h b m).headD []) ((m + 1 : Nat) : Int)).take i) ((i : Int) - 10) n l s u h b) r := by
  induction d with
  | zero =>
    intro i hi
    refine ev_succ ?_
    have h1 : ¬ (i : Int) - 10 ≤ 10 := by omega
    simp only [spec_l6Worths.l1, h1, ↓reduceIte, Option.bind_some]
    rw [List.take_of_length_le (by rw [rowV_len]; omega)]
    refine ev_yes (by rw [wts_len]; simp only [List.length_singleton]; omega) ?_
    rw [show wrap64 (n - 1 - (m : Int) - 1) = n - 1 - ((m + 1 : Nat) : Int) by rw [w64 (by omega) (by omega)]; omega]
    exact hc
  | succ d ih =>
    intro i hi
    refine ev_succ ?_
    have h1 : (i : Int) - 10 ≤ 10 := by omega
    have h2 : (0 : Int) < ((wts l s u h b m).length : Int) := by rw [wts_len]; omega
    have e1 : wrap64 (n - (n - 1 - (m : Int))) = ((m + 1 : Nat) : Int) := by rw [w64 (by omega) (by omega)]; omega
    have e2 : wrap64 ((i : Int) - 10 + 1) = ((i + 1 : Nat) : Int) - 10 := by rw [w64 (by omega) (by omega)]; omega
    simp only [spec_l6Worths.l1, h1, h2, ↓reduceIte, e1, e2]
    have e3 : rd_L1 (wts l s u h b m) 0 = (wts l s u h b m).headD [] := by rw [wts_head]; rfl
    rw [e3]
    refine Ev.bind (ev_spec_l6Best n l s u h b _ _ _ hl (wts_head_len l s u h b m) (by omega) (by omega)) ?_
    refine ev_yes (by rw [List.length_take, rowV_len]; omega) ?_
    rw [← rowV_take l s u h b _ _ (by omega)]
    exact ih (i + 1) (by omega)
theorem ev_spec_l6Worths_l0 (n : Int) (l : List Int) (s u h b : Int) (hl : 1 ≤ l.length ∧ l.length ≤ 5) (hn : 0 ≤ n ∧ n ≤ 5) (d : Nat) : ∀ (m : Nat), (m : Int) + d = n → Ev (fun k => spec_l6Worths.l0 k (wts l s u h b m) (n - 1 - (m : Int)) n l s u h b) (wts l s u h b n.toNat) := by
  induction d with
  | zero =>
    intro m hm
    refine ev_succ ?_
    have h1 : ¬ n - 1 - (m : Int) ≥ 0 := by omega
    simp only [spec_l6Worths.l0, h1, ↓reduceIte]
    rw [show n.toNat = m by omega]
    exact Ev.now _
  | succ d ih =>
    intro m hm
    refine ev_succ ?_
    have h1 : n - 1 - (m : Int) ≥ 0 := by omega
    simp only [spec_l6Worths.l0, h1, ↓reduceIte]
    exact ev_spec_l6Worths_l1 n l s u h b hl hn m (by omega) (ih (m + 1) (by omega)) 21 0 (by omega)
theorem ev_spec_l6Worths (n : Int) (l : List Int) (s u h b : Int) (hl : 1 ≤ l.length ∧ l.length ≤ 5) (hn : 0 ≤ n ∧ n ≤ 5) : Ev (fun k => spec_l6Worths.f k n l s u h b) (wts l s u h b n.toNat) := by
  unfold spec_l6Worths.f
  refine ev_yes (by omega) ?_
  rw [show wrap64 (n - 1) = n - 1 - ((0 : Nat) : Int) by rw [w64 (by omega) (by omega)]; omega]
  exact ev_spec_l6Worths_l0 n l s u h b hl hn n.toNat 0 (by omega)

theorem spec_l1In_f (a b c : Int) : spec_l1In.f a b c = some (inB a b c) := by
  unfold spec_l1In.f inB
  by_cases h : a ≥ b
  · rw [if_pos h]; congr 1; rw [decide_eq_decide]; omega
  · rw [if_neg h]; congr 1; symm; rw [decide_eq_false_iff_not]; omega

theorem ev_spec_l2Row_l0 (n b : Int) (l : List Int) (hl : l.length ≤ 9223372036854775807) (d : Nat) : ∀ i : Nat, i + d = l.length → Ev (fun k => spec_l2Row.l0 k l n b (i : Int)) (allB (l.drop i) 0 b && ((l.length : Int) == n)) := by
  induction d with
  | zero =>
    intro i hi
    refine ev_succ ?_
    have h1 : ¬ (i : Int) < (l.length : Int) := by omega
    simp only [spec_l2Row.l0, h1, ↓reduceIte]
    rw [List.drop_eq_nil_of_le (by omega)]
    exact Ev.now _
  | succ d ih =>
    intro i hi
    refine ev_succ ?_
    have h1 : (i : Int) < (l.length : Int) := by omega
    have h0 : (0 : Int) ≤ (i : Int) := by omega
    have hi' : i < l.length := by omega
    simp only [spec_l2Row.l0, h1, h0, ↓reduceIte, spec_l1In_f, Option.bind_some, rd_nat hi', w64_nat hi' hl]
    rw [drop_cons hi']
    show Ev _ ((inB l[i] 0 b && allB (l.drop (i + 1)) 0 b) && _)
    cases inB l[i] 0 b with
    | true => simpa using ih (i + 1) (by omega)
    | false => simpa using Ev.now false
theorem ev_spec_l2Row (l : List Int) (n b : Int) (hl : l.length ≤ 9223372036854775807) : Ev (fun k => spec_l2Row.f k l n b) (allB l 0 b && ((l.length : Int) == n)) := by
  unfold spec_l2Row.f
  simpa using ev_spec_l2Row_l0 n b l hl l.length 0 (by omega)

theorem ev_spec_l6Good (n : Int) (l : List Int) (s u h b : Int) (hl : l.length ≤ 9223372036854775807) : Ev (fun k => spec_l6Good.f k n l s u h b) (procB n l s u h b) := by
  unfold spec_l6Good.f procB
  simp only [spec_l1In_f, Option.bind_some]
  refine ev_ite (fun h1 => ?_) (fun h1 => ?_)
  · refine ev_ite (fun h2 => ?_) (fun h2 => ?_)
    · refine Ev.bind (ev_spec_l2Row l _ 4 hl) ?_
      simp only [beq_self_eq_true, Bool.and_true]
      refine ev_ite (fun h3 => ?_) (fun h3 => ?_)
      · refine Ev.bind (ev_spec_l2Sum l hl) ?_
        refine ev_ite (fun h4 => ?_) (fun h4 => ?_)
        · refine ev_eq (ev_pure (x := _) (r := inB s 0 99 && (inB u 0 9 && (inB h 0 9 && inB b 0 9))) ?_) ?_
          · cases inB s 0 99 <;> cases inB u 0 9 <;> cases inB h 0 9 <;> rfl
          · simp [h1, h2, h3, h4]
        · exact ev_eq (Ev.now _) (by simp [h4])
      · exact ev_eq (Ev.now _) (by simp [h3])
    · exact ev_eq (Ev.now _) (by simp [h2])
  · exact ev_eq (Ev.now _) (by simp [h1])

def wtableV (n : Int) (l : List Int) (s u h b : Int) : List (List Int) × Bool := if procB n l s u h b = true then (wts l s u h b n.toNat, true) else ([], false)
theorem wtableV_len (n : Int) (l : List Int) (s u h b : Int) : (wtableV n l s u h b).1.length ≤ 6 ∧ ∀ r ∈ (wtableV n l s u h b).1, r.length = 21 := by
  unfold wtableV
  by_cases hc : procB n l s u h b = true
  · rw [if_pos hc]
    have hp := procB_spec hc
    exact ⟨by dsimp only; rw [wts_len]; omega, wts_rows l s u h b _⟩
  · rw [if_neg hc]; simp

theorem ev_spec_WorthTable (n : Int) (l : List Int) (s u h b : Int) (hl : l.length ≤ 9223372036854775807) : Ev (fun k => spec_WorthTable.f k n l s u h b) (wtableV n l s u h b) := by
  unfold spec_WorthTable.f wtableV
  refine Ev.bind (ev_spec_l6Good n l s u h b hl) ?_
  refine ev_ite (fun hc => ?_) (fun hc => ?_)
  · rw [if_pos hc]
    have hp := procB_spec hc
    exact Ev.bind (ev_spec_l6Worths n l s u h b hp.2.1 hp.1) (Ev.now _)
  · rw [if_neg hc]; exact Ev.now _

theorem impl_within_f (a b c : Int) : impl_within.f a b c = some (inB a b c) := by
  unfold impl_within.f inB
  by_cases h : a ≥ b
  · rw [if_pos h]; congr 1; rw [decide_eq_decide]; omega
  · rw [if_neg h]; congr 1; symm; rw [decide_eq_false_iff_not]; omega

theorem ev_impl_allWithin_l0 (a b : Int) (l : List Int) (hl : l.length ≤ 9223372036854775807) (d : Nat) : ∀ i : Nat, i + d = l.length → Ev (fun k => impl_allWithin.l0 k a b l (l.length : Int) (i : Int)) (allB (l.drop i) a b) := by
  induction d with
  | zero =>
    intro i hi
    refine ev_succ ?_
    have h1 : ¬ (i : Int) < (l.length : Int) := by omega
    simp only [impl_allWithin.l0, h1, ↓reduceIte]
    rw [List.drop_eq_nil_of_le (by omega)]
    exact Ev.now _
  | succ d ih =>
    intro i hi
    refine ev_succ ?_
    have h1 : (i : Int) < (l.length : Int) := by omega
    have h0 : (0 : Int) ≤ (i : Int) := by omega
    have hi' : i < l.length := by omega
    simp only [impl_allWithin.l0, h1, h0, ↓reduceIte, impl_within_f, Option.bind_some, rd_nat hi', w64_nat hi' hl]
    rw [drop_cons hi']
    show Ev _ (inB l[i] a b && allB (l.drop (i + 1)) a b)
    cases inB l[i] a b with
    | true => simpa using ih (i + 1) (by omega)
    | false => simpa using Ev.now false
theorem ev_impl_allWithin (l : List Int) (a b : Int) (hl : l.length ≤ 9223372036854775807) : Ev (fun k => impl_allWithin.f k l a b) (allB l a b) := by
  unfold impl_allWithin.f
  simpa using ev_impl_allWithin_l0 a b l hl l.length 0 (by omega)

theorem ev_impl_total_l0 (l : List Int) (hl : l.length ≤ 9223372036854775807) (d : Nat) : ∀ (i : Nat) (s : Int), i + d = l.length → wrap64 s = s → Ev (fun k => impl_total.l0 k s l (l.length : Int) (i : Int)) (wrap64 (s + (l.drop i).sum)) := by
  induction d with
  | zero =>
    intro i s hi hs
    refine ev_succ ?_
    have h1 : ¬ (i : Int) < (l.length : Int) := by omega
    simp only [impl_total.l0, h1, ↓reduceIte]
    rw [List.drop_eq_nil_of_le (by omega)]
    simp only [List.sum_nil, Int.add_zero, hs]
    exact Ev.now _
  | succ d ih =>
    intro i s hi hs
    refine ev_succ ?_
    have h1 : (i : Int) < (l.length : Int) := by omega
    have h0 : (0 : Int) ≤ (i : Int) := by omega
    have hi' : i < l.length := by omega
    simp only [impl_total.l0, h1, h0, ↓reduceIte, rd_nat hi', w64_nat hi' hl]
    refine ev_eq (ih (i + 1) _ (by omega) (w64_idem _)) ?_
    rw [drop_cons hi', List.sum_cons, w64_add_l, Int.add_assoc]
theorem ev_impl_total (l : List Int) (hl : l.length ≤ 9223372036854775807) : Ev (fun k => impl_total.f k l) (wrap64 l.sum) := by
  unfold impl_total.f
  simpa using ev_impl_total_l0 l hl l.length 0 0 (by omega) w64_zero

theorem ev_impl_IsProcess (n : Int) (l : List Int) (s u h b : Int) (hl : l.length ≤ 9223372036854775807) : Ev (fun k => impl_IsProcess.f k n l s u h b) (procB n l s u h b) := by
  unfold impl_IsProcess.f procB
  simp only [impl_within_f, Option.bind_some]
  refine ev_ite (fun h1 => ?_) (fun h1 => ?_)
  · refine ev_ite (fun h2 => ?_) (fun h2 => ?_)
    · refine Ev.bind (ev_impl_allWithin l 0 4 hl) ?_
      refine ev_ite (fun h3 => ?_) (fun h3 => ?_)
      · refine Ev.bind (ev_impl_total l hl) ?_
        refine ev_ite (fun h4 => ?_) (fun h4 => ?_)
        · refine ev_ite (fun h5 => ?_) (fun h5 => ?_)
          · refine Ev.bind (ev_impl_allWithin [u, h, b] 0 9 (by simp)) ?_
            refine ev_eq (Ev.now _) ?_
            have e : allB [u, h, b] 0 9 = (inB u 0 9 && (inB h 0 9 && inB b 0 9)) := by simp [allB, inB]
            rw [e]
            simp [h1, h2, h3, h4, h5]
          · exact ev_eq (Ev.now _) (by simp [h5])
        · exact ev_eq (Ev.now _) (by simp [h4])
      · exact ev_eq (Ev.now _) (by simp [h3])
    · exact ev_eq (Ev.now _) (by simp [h2])
  · exact ev_eq (Ev.now _) (by simp [h1])

theorem impl_Process_order_f (n : Int) (l : List Int) (s u h b x y : Int) (hxy : x ≤ y) : impl_Process_order.f n l s u h b x y = some (orderV s u x y) := by
  unfold impl_Process_order.f orderV
  by_cases hc : y = x
  · rw [if_pos hc, if_neg (by omega)]
  · rw [if_neg hc, if_pos (by omega)]

theorem ev_impl_power_l0 (a n : Int) (hn : 0 ≤ n ∧ n ≤ 100) (d : Nat) : ∀ (i : Nat), (i : Int) + d = n → Ev (fun k => impl_power.l0 k a (powW a i) n (i : Int)) (powW a n.toNat) := by
  induction d with
  | zero =>
    intro i hi
    refine ev_succ ?_
    have h1 : ¬ (i : Int) < n := by omega
    simp only [impl_power.l0, h1, ↓reduceIte]
    rw [show n.toNat = i by omega]
    exact Ev.now _
  | succ d ih =>
    intro i hi
    refine ev_succ ?_
    have h1 : (i : Int) < n := by omega
    simp only [impl_power.l0, h1, ↓reduceIte]
    rw [w64 (x := (i : Int) + 1) (by omega) (by omega)]
    have h2 := ih (i + 1) (by omega)
    rw [powW] at h2
    exact h2
theorem ev_impl_power (a n : Int) (hn : 0 ≤ n ∧ n ≤ 100) : Ev (fun k => impl_power.f k a n) (powW a n.toNat) := by
  unfold impl_power.f
  exact ev_impl_power_l0 a n hn n.toNat 0 (by omega)

theorem ev_impl_Process_whole (n : Int) (l : List Int) (s u h b m : Int) (hl : l.length ≤ 9223372036854775807) (hm : 0 ≤ m ∧ m ≤ 100) : Ev (fun k => impl_Process_whole.f k n l s u h b m) (powV l m) := by
  unfold impl_Process_whole.f powV
  exact Ev.bind (ev_impl_total l hl) (Ev.bind (ev_impl_power _ m hm) (Ev.now _))

def cellsL (x : S94) : List Int := [x.f0, x.f1, x.f2, x.f3, x.f4, x.f5, x.f6, x.f7, x.f8, x.f9, x.f10, x.f11, x.f12, x.f13, x.f14, x.f15, x.f16, x.f17, x.f18, x.f19, x.f20]
theorem cellsL_len (x : S94) : (cellsL x).length = 21 := rfl
theorem cellsL_z : cellsL z94 = List.replicate 21 0 := rfl
theorem cellsL_rd (L : List S94) (i : Int) : cellsL (rd_T94 L i) = (L.map cellsL).getD i.toNat (List.replicate 21 0) := by
  unfold rd_T94
  rw [List.getD_eq_getElem?_getD, List.getD_eq_getElem?_getD, List.getElem?_map]
  cases L[i.toNat]? <;> rfl

theorem impl_levels_at_f (x : S94) (y : Int) (hy : -10 ≤ y ∧ y ≤ 10) : impl_levels_at.f x.f0 x.f1 x.f2 x.f3 x.f4 x.f5 x.f6 x.f7 x.f8 x.f9 x.f10 x.f11 x.f12 x.f13 x.f14 x.f15 x.f16 x.f17 x.f18 x.f19 x.f20 y = some (rd (cellsL x) (y + 10)) := by
  have e : wrap64 (y + 10) = y + 10 := w64 (by omega) (by omega)
  unfold impl_levels_at.f
  rw [e, if_pos (by omega)]
  obtain ⟨j, hj⟩ : ∃ j : Nat, y + 10 = (j : Int) := ⟨(y + 10).toNat, by omega⟩
  have hj2 : j < 21 := by omega
  rw [hj]
  match j, hj2 with
  | 0, _ => rfl
  | 1, _ => rfl
  | 2, _ => rfl
  | 3, _ => rfl
  | 4, _ => rfl
  | 5, _ => rfl
  | 6, _ => rfl
  | 7, _ => rfl
  | 8, _ => rfl
  | 9, _ => rfl
  | 10, _ => rfl
  | 11, _ => rfl
  | 12, _ => rfl
  | 13, _ => rfl
  | 14, _ => rfl
  | 15, _ => rfl
  | 16, _ => rfl
  | 17, _ => rfl
  | 18, _ => rfl
  | 19, _ => rfl
  | 20, _ => rfl
  | j + 21, h => exact absurd h (by omega)

theorem impl_Process_keep_f (n : Int) (l : List Int) (s u h b x : Int) (hh : 0 ≤ h ∧ h ≤ 9) (hb : 0 ≤ b ∧ b ≤ 9) (hx : -100000 ≤ x ∧ x ≤ 100000) : impl_Process_keep.f n l s u h b x = some (cst h b x) := by
  unfold impl_Process_keep.f
  rw [cst_impl hh hb hx]

theorem ev_impl_Process_behind_l0 (n : Int) (l : List Int) (s u h b : Int) (x : S94) (y m : Int) (hl : l.length ≤ 5) (hh : 0 ≤ h ∧ h ≤ 9) (hb : 0 ≤ b ∧ b ≤ 9) (hm : 1 ≤ m ∧ m ≤ 6) (hy : (l.length : Int) - 11 ≤ y ∧ y ≤ 10) (d : Nat) : ∀ (i : Nat) (acc : Int), i + d = l.length → Ev (fun k => impl_Process_behind.l0 k m y acc l (l.length : Int) (i : Int) n l s u h b x.f0 x.f1 x.f2 x.f3 x.f4 x.f5 x.f6 x.f7 x.f8 x.f9 x.f10 x.f11 x.f12 x.f13 x.f14 x.f15 x.f16 x.f17 x.f18 x.f19 x.f20) (aftW h b (powV l (m - 1)) (cellsL x) (l.drop i) (y - i) acc) := by
  induction d with
  | zero =>
    intro i acc hi
    refine ev_succ ?_
    have h1 : ¬ (i : Int) < (l.length : Int) := by omega
    simp only [impl_Process_behind.l0, h1, ↓reduceIte]
    rw [List.drop_eq_nil_of_le (by omega), aftW]
    exact Ev.now _
  | succ d ih =>
    intro i acc hi
    refine ev_succ ?_
    have h1 : (i : Int) < (l.length : Int) := by omega
    have h0 : (0 : Int) ≤ (i : Int) := by omega
    have hi' : i < l.length := by omega
    have e1 : wrap64 (y - (i : Int)) = y - i := w64 (by omega) (by omega)
    have e3 : wrap64 (m - 1) = m - 1 := w64 (by omega) (by omega)
    have e4 : wrap64 ((i : Int) + 1) = ((i + 1 : Nat) : Int) := w64_nat hi' (by omega)
    have e5 := impl_Process_keep_f n l s u h b (y - i) hh hb (by omega)
    have e6 := impl_levels_at_f x (y - i) (by omega)
    simp only [impl_Process_behind.l0, h1, h0, ↓reduceIte, e1, e3, e4, e5, Option.bind_some]
    refine Ev.bind (ev_impl_Process_whole n l s u h b (m - 1) (by omega) (by omega)) ?_
    simp only [e6, Option.bind_some]
    rw [rd_nat hi', drop_cons hi', aftW]
    refine ev_eq (ih (i + 1) _ (by omega)) ?_
    rw [show y - ((i + 1 : Nat) : Int) = y - (i : Int) - 1 by omega]
theorem ev_impl_Process_behind (n : Int) (l : List Int) (s u h b : Int) (x : S94) (y m : Int) (hl : l.length ≤ 5) (hh : 0 ≤ h ∧ h ≤ 9) (hb : 0 ≤ b ∧ b ≤ 9) (hm : 1 ≤ m ∧ m ≤ 6) (hy : (l.length : Int) - 11 ≤ y ∧ y ≤ 10) : Ev (fun k => impl_Process_behind.f k n l s u h b m y x.f0 x.f1 x.f2 x.f3 x.f4 x.f5 x.f6 x.f7 x.f8 x.f9 x.f10 x.f11 x.f12 x.f13 x.f14 x.f15 x.f16 x.f17 x.f18 x.f19 x.f20) (aftV l h b (cellsL x) y m) := by
  unfold impl_Process_behind.f aftV
  refine ev_eq (ev_impl_Process_behind_l0 n l s u h b x y m hl hh hb hm hy l.length 0 0 (by omega)) ?_
  rw [List.drop_zero, show y - ((0 : Nat) : Int) = y by omega]

theorem impl_Process_floor_f (n : Int) (l : List Int) (s u h b : Int) : impl_Process_floor.f n l s u h b = some (floorV l) := rfl

theorem ev_impl_Process_least_l0 (n : Int) (l : List Int) (s u h b : Int) (z : S94) (x m : Int) (hl : l.length ≤ 5) (hh : 0 ≤ h ∧ h ≤ 9) (hb : 0 ≤ b ∧ b ≤ 9) (hm : 1 ≤ m ∧ m ≤ 6) (hx : -10 ≤ x ∧ x ≤ 10) (d : Nat) : ∀ (y : Int) (r : Int × Int), y + d = 11 → mx x (floorV l) ≤ y → Ev (fun k => impl_Process_least.l0 k m x r.1 r.2 y n l s u h b z.f0 z.f1 z.f2 z.f3 z.f4 z.f5 z.f6 z.f7 z.f8 z.f9 z.f10 z.f11 z.f12 z.f13 z.f14 z.f15 z.f16 z.f17 z.f18 z.f19 z.f20) ((fwdV (lvCost l s u h b (cellsL z) m x) d y r).2, (fwdV (lvCost l s u h b (cellsL z) m x) d y r).1) := by
  have hf := floorV_eq hl
  have hlo : (l.length : Int) - 11 ≤ mx x (floorV l) ∧ x ≤ mx x (floorV l) ∧ -10 ≤ mx x (floorV l) := by unfold mx; omega
  induction d with
  | zero =>
    intro y r hy hy2
    refine ev_succ ?_
    have h1 : ¬ y ≤ 10 := by omega
    simp only [impl_Process_least.l0, h1, ↓reduceIte, fwdV]
    exact Ev.now _
  | succ d ih =>
    intro y r hy hy2
    refine ev_succ ?_
    have h1 : y ≤ 10 := by omega
    have e5 := impl_Process_order_f n l s u h b x y (by omega)
    simp only [impl_Process_least.l0, h1, ↓reduceIte, e5, Option.bind_some]
    refine Ev.bind (ev_impl_Process_whole n l s u h b m (by omega) (by omega)) ?_
    refine Ev.bind (ev_impl_Process_behind n l s u h b z y m hl hh hb hm (by omega)) ?_
    rw [show wrap64 (y + 1) = y + 1 from w64 (by omega) (by omega)]
    rw [fwdV]
    refine ev_ite (fun h3 => ?_) (fun h3 => ?_)
    · have h3' : lvCost l s u h b (cellsL z) m x y < r.2 := h3
      rw [if_pos h3']
      exact ih (y + 1) (y, lvCost l s u h b (cellsL z) m x y) (by omega) (by omega)
    · have h3' : ¬ lvCost l s u h b (cellsL z) m x y < r.2 := h3
      rw [if_neg h3']
      exact ih (y + 1) r (by omega) (by omega)
theorem ev_impl_Process_least (n : Int) (l : List Int) (s u h b : Int) (z : S94) (x m : Int) (hl : 1 ≤ l.length ∧ l.length ≤ 5) (hh : 0 ≤ h ∧ h ≤ 9) (hb : 0 ≤ b ∧ b ≤ 9) (hm : 1 ≤ m ∧ m ≤ 6) (hx : -10 ≤ x ∧ x ≤ 10) : Ev (fun k => impl_Process_least.f k n l s u h b m x z.f0 z.f1 z.f2 z.f3 z.f4 z.f5 z.f6 z.f7 z.f8 z.f9 z.f10 z.f11 z.f12 z.f13 z.f14 z.f15 z.f16 z.f17 z.f18 z.f19 z.f20) ((bestV l s u h b (cellsL z) m x).2, (bestV l s u h b (cellsL z) m x).1) := by
  have hf := floorV_eq hl.2
  have hlo : mx x (floorV l) ≤ 10 ∧ (l.length : Int) - 11 ≤ mx x (floorV l) ∧ x ≤ mx x (floorV l) ∧ -10 ≤ mx x (floorV l) := by unfold mx; omega
  have e5 := impl_Process_order_f n l s u h b x (mx x (floorV l)) hlo.2.2.1
  unfold impl_Process_least.f
  simp only [impl_Process_floor_f, Option.bind_some, e5]
  refine Ev.bind (ev_impl_Process_whole n l s u h b m (by omega) (by omega)) ?_
  refine Ev.bind (ev_impl_Process_behind n l s u h b z _ m hl.2 hh hb hm (by omega)) ?_
  rw [show wrap64 (mx x (floorV l) + 1) = mx x (floorV l) + 1 from w64 (by omega) (by omega)]
  refine ev_eq (ev_impl_Process_least_l0 n l s u h b z x m hl.2 hh hb hm hx (10 - mx x (floorV l)).toNat (mx x (floorV l) + 1) (mx x (floorV l), lvCost l s u h b (cellsL z) m x (mx x (floorV l))) (by omega) (by omega)) ?_
  rw [fwdV_best _ hlo.1]
  rfl

theorem cellsL_put (x : S94) (t : Int) {j : Nat} (h : j < 21) : cellsL (putA94 x j t) = (cellsL x).set j t := match j, h with
  | 0, _ => rfl
  | 1, _ => rfl
  | 2, _ => rfl
  | 3, _ => rfl
  | 4, _ => rfl
  | 5, _ => rfl
  | 6, _ => rfl
  | 7, _ => rfl
  | 8, _ => rfl
  | 9, _ => rfl
  | 10, _ => rfl
  | 11, _ => rfl
  | 12, _ => rfl
  | 13, _ => rfl
  | 14, _ => rfl
  | 15, _ => rfl
  | 16, _ => rfl
  | 17, _ => rfl
  | 18, _ => rfl
  | 19, _ => rfl
  | 20, _ => rfl
  | j + 21, h => absurd h (by omega)

theorem set_mid {α : Type} {A B : List α} {x y : α} {i : Nat} (h : A.length = i) : (A ++ x :: B).set i y = A ++ y :: B := by
  subst h; simp
theorem getD_mid {α : Type} {A B : List α} {x z : α} {i : Nat} (h : A.length = i) : (A ++ x :: B).getD i z = x := by
  subst h; simp [List.getD_eq_getElem?_getD]
theorem row_set {R : List Int} {i : Nat} {v : Int} (hi : i < 21) (hR : R.length = 21) (hv : R[i]? = some v) : (R.take i ++ List.replicate (21 - i) 0).set i v = R.take (i + 1) ++ List.replicate (21 - (i + 1)) 0 := by
  have e : 21 - i = (21 - (i + 1)) + 1 := by omega
  rw [e, List.replicate_succ, set_mid (by rw [List.length_take]; omega), List.take_add_one, hv]
  simp
theorem ev_impl_Process_worths_l1 (n : Int) (l : List Int) (s u h b : Int) (hl : 1 ≤ l.length ∧ l.length ≤ 5) (hn : 0 ≤ n ∧ n ≤ 5) (hh : 0 ≤ h ∧ h ≤ 9) (hb : 0 ≤ b ∧ b ≤ 9) (m t : Nat) (hm : (t : Int) = n - 1 - (m : Int)) {Q : List S94 → Prop} (hc : ∀ L : List S94, L.map cellsL = List.replicate t (List.replicate 21 0) ++ wts l s u h b (m + 1) → ∃ r, Ev (fun k => impl_Process_worths.l0 k L ((t : Int) - 1) n l s u h b) r ∧ Q r) (d : Nat) : ∀ (i : Nat) (L : List S94), i + d = 21 → L.map cellsL = List.replicate t (List.replicate 21 0) ++ ((rowV l s u h b ((wts l s u h b m).headD []) ((m + 1 : Nat) : Int)).take i ++ List.replicate (21 - i) 0) :: wts l s u h b m → ∃ r, Ev (fun k => impl_Process_worths.l1 k L (t : Int) ((i : Int) - 10) n l s u h b) r ∧ Q r := by
  induction d with
  | zero =>
    intro i L hi hL
    have hi2 : i = 21 := by omega
    subst hi2
    rw [List.take_of_length_le (by rw [rowV_len]; omega)] at hL
    obtain ⟨r, h1, h2⟩ := hc L (by rw [hL, wts]; simp)
    refine ⟨r, ev_succ ?_, h2⟩
    have h3 : ¬ ((21 : Nat) : Int) - 10 ≤ 10 := by omega
    simp only [impl_Process_worths.l1, h3, ↓reduceIte]
    rw [show wrap64 ((t : Int) - 1) = (t : Int) - 1 from w64 (by omega) (by omega)]
    exact h1
  | succ d ih =>
    intro i L hi hL
    have hlen : L.length = t + (m + 2) := by
      have := congrArg List.length hL
      rw [List.length_map, List.length_append, List.length_replicate, List.length_cons, wts_len] at this
      omega
    have hnext : cellsL (rd_T94 L ((t : Int) + 1)) = (wts l s u h b m).headD [] := by
      rw [cellsL_rd, hL, show ((t : Int) + 1).toNat = t + 1 by omega, List.getD_eq_getElem?_getD, List.getElem?_append_right (by rw [List.length_replicate]; omega), List.length_replicate, show t + 1 - t = 1 by omega, List.getElem?_cons_succ]
      cases m <;> rfl
    have hcur : cellsL (rd_T94 L (t : Int)) = (rowV l s u h b ((wts l s u h b m).headD []) ((m + 1 : Nat) : Int)).take i ++ List.replicate (21 - i) 0 := by
      rw [cellsL_rd, hL, show (t : Int).toNat = t by omega, getD_mid (by rw [List.length_replicate])]
    obtain ⟨r, h1, h2⟩ := ih (i + 1) (L.set t (putA94 (rd_T94 L (t : Int)) i (bestV l s u h b ((wts l s u h b m).headD []) ((m + 1 : Nat) : Int) ((i : Int) - 10)).2)) (by omega) (by
      rw [List.map_set, cellsL_put _ _ (by omega), hcur, row_set (by omega) (rowV_len _ _ _ _ _ _ _) (rowV_get l s u h b _ _ (by omega)), hL, set_mid (by rw [List.length_replicate])])
    refine ⟨r, ev_succ ?_, h2⟩
    have c1 : (i : Int) - 10 ≤ 10 := by omega
    have c2 : (0 : Int) ≤ (t : Int) + 1 := by omega
    have c3 : (t : Int) + 1 < (L.length : Int) := by omega
    have c4 : (0 : Int) ≤ (t : Int) := by omega
    have c5 : (t : Int) < (L.length : Int) := by omega
    have e1 : wrap64 ((t : Int) + 1) = (t : Int) + 1 := w64 (by omega) (by omega)
    have e2 : wrap64 (n - (t : Int)) = ((m + 1 : Nat) : Int) := by rw [w64 (by omega) (by omega)]; omega
    have e3 : wrap64 ((i : Int) - 10 + 10) = (i : Int) := by rw [w64 (by omega) (by omega)]; omega
    have e4 : wrap64 ((i : Int) - 10 + 1) = ((i + 1 : Nat) : Int) - 10 := by rw [w64 (by omega) (by omega)]; omega
    have c6 : (0 : Int) ≤ (i : Int) := by omega
    have c7 : (i : Int) < 21 := by omega
    simp only [impl_Process_worths.l1, c1, c2, c3, c4, c5, c6, c7, e1, e2, e3, e4, ↓reduceIte]
    have hb2 := ev_impl_Process_least n l s u h b (rd_T94 L ((t : Int) + 1)) ((i : Int) - 10) ((m + 1 : Nat) : Int) hl hh hb (by omega) (by omega)
    rw [hnext] at hb2
    refine Ev.bind hb2 ?_
    rw [show (t : Int).toNat = t by omega, show (i : Int).toNat = i by omega]
    exact h1
theorem ev_impl_Process_worths_l0 (n : Int) (l : List Int) (s u h b : Int) (hl : 1 ≤ l.length ∧ l.length ≤ 5) (hn : 0 ≤ n ∧ n ≤ 5) (hh : 0 ≤ h ∧ h ≤ 9) (hb : 0 ≤ b ∧ b ≤ 9) (d : Nat) : ∀ (m : Nat) (L : List S94), (m : Int) + d = n → L.map cellsL = List.replicate d (List.replicate 21 0) ++ wts l s u h b m → ∃ r, Ev (fun k => impl_Process_worths.l0 k L ((d : Int) - 1) n l s u h b) r ∧ r.map cellsL = wts l s u h b n.toNat := by
  induction d with
  | zero =>
    intro m L hm hL
    refine ⟨L, ev_succ ?_, by rw [hL, show n.toNat = m by omega]; rfl⟩
    have h1 : ¬ ((0 : Nat) : Int) - 1 ≥ 0 := by omega
    simp only [impl_Process_worths.l0, h1, ↓reduceIte]
    exact Ev.now _
  | succ d ih =>
    intro m L hm hL
    obtain ⟨r, h1, h2⟩ := ev_impl_Process_worths_l1 n l s u h b hl hn hh hb m d (by omega) (Q := fun r => r.map cellsL = wts l s u h b n.toNat) (fun L hL => ih (m + 1) L (by omega) hL) 21 0 L (by omega) (by
      rw [hL, List.replicate_succ', List.append_assoc]
      simp)
    refine ⟨r, ev_succ ?_, h2⟩
    have c1 : ((d + 1 : Nat) : Int) - 1 ≥ 0 := by omega
    simp only [impl_Process_worths.l0, c1, ↓reduceIte]
    rw [show ((d + 1 : Nat) : Int) - 1 = (d : Int) by omega]
    exact h1
theorem ev_impl_Process_worths (n : Int) (l : List Int) (s u h b : Int) (hl : 1 ≤ l.length ∧ l.length ≤ 5) (hn : 0 ≤ n ∧ n ≤ 5) (hh : 0 ≤ h ∧ h ≤ 9) (hb : 0 ≤ b ∧ b ≤ 9) : ∃ r, Ev (fun k => impl_Process_worths.f k n l s u h b) r ∧ r.map cellsL = wts l s u h b n.toNat := by
  obtain ⟨r, h1, h2⟩ := ev_impl_Process_worths_l0 n l s u h b hl hn hh hb n.toNat 0 (List.replicate (n.toNat + 1) z94) (by omega) (by rw [List.map_replicate, cellsL_z, List.replicate_succ']; rfl)
  refine ⟨r, ?_, h2⟩
  unfold impl_Process_worths.f
  rw [show wrap64 (n + 1) = n + 1 from w64 (by omega) (by omega)]
  refine ev_yes (by omega) (ev_yes (by omega) ?_)
  rw [show wrap64 (n - 1) = (n.toNat : Int) - 1 by rw [w64 (by omega) (by omega)]; omega, show (n + 1).toNat = n.toNat + 1 by omega]
  exact h1
theorem nextV_of {n : Int} {l : List Int} {s u h b t : Int} {r : List S94} (hr : r.map cellsL = wts l s u h b n.toNat) (ht : 0 ≤ t ∧ t ≤ n - 1) : cellsL (rd_T94 r (t + 1)) = nextV n l s u h b t := by
  unfold nextV
  rw [cellsL_rd, hr, List.getD_eq_getElem?_getD, List.getD_eq_getElem?_getD, List.getElem?_eq_getElem (by rw [wts_len]; omega)]
  rfl
theorem wts_map_len {n : Int} {l : List Int} {s u h b : Int} {r : List S94} (hr : r.map cellsL = wts l s u h b n.toNat) : r.length = n.toNat + 1 := by
  have := congrArg List.length hr
  rw [List.length_map, wts_len] at this
  exact this

theorem impl_copied_f (l : List Int) (hl : l.length ≤ 1000000000) : impl_copied.f l = some l := by
  unfold impl_copied.f
  simp only [Option.bind_some, List.length_nil, List.nil_append]
  rw [if_pos (by omega)]

theorem ev_impl_WorthTable_l0 (R : List S94) (hR : R.length ≤ 6) (d : Nat) : ∀ (i : Nat), i + d = R.length → Ev (fun k => impl_WorthTable.l0 k ((R.map cellsL).take i) R (R.length : Int) (i : Int)) (R.map cellsL, true) := by
  induction d with
  | zero =>
    intro i hi
    refine ev_succ ?_
    have h1 : ¬ (i : Int) < (R.length : Int) := by omega
    simp only [impl_WorthTable.l0, h1, ↓reduceIte]
    rw [List.take_of_length_le (by rw [List.length_map]; omega)]
    exact Ev.now _
  | succ d ih =>
    intro i hi
    refine ev_succ ?_
    have h1 : (i : Int) < (R.length : Int) := by omega
    have h0 : (0 : Int) ≤ (i : Int) := by omega
    have hi' : i < R.length := by omega
    simp only [impl_WorthTable.l0, h1, h0, ↓reduceIte, w64_nat hi' (by omega : R.length ≤ 9223372036854775807)]
    rw [show [(rd_T94 R (i : Int)).f0, (rd_T94 R (i : Int)).f1, (rd_T94 R (i : Int)).f2, (rd_T94 R (i : Int)).f3, (rd_T94 R (i : Int)).f4, (rd_T94 R (i : Int)).f5, (rd_T94 R (i : Int)).f6, (rd_T94 R (i : Int)).f7, (rd_T94 R (i : Int)).f8, (rd_T94 R (i : Int)).f9, (rd_T94 R (i : Int)).f10, (rd_T94 R (i : Int)).f11, (rd_T94 R (i : Int)).f12, (rd_T94 R (i : Int)).f13, (rd_T94 R (i : Int)).f14, (rd_T94 R (i : Int)).f15, (rd_T94 R (i : Int)).f16, (rd_T94 R (i : Int)).f17, (rd_T94 R (i : Int)).f18, (rd_T94 R (i : Int)).f19, (rd_T94 R (i : Int)).f20] = cellsL (rd_T94 R (i : Int)) from rfl, impl_copied_f _ (by rw [cellsL_len]; omega)]
    simp only [Option.bind_some]
    refine ev_yes (by rw [List.length_take, List.length_map]; omega) ?_
    have e : (R.map cellsL).take (i + 1) = (R.map cellsL).take i ++ [cellsL (rd_T94 R (i : Int))] := by
      rw [List.take_add_one, List.getElem?_map, List.getElem?_eq_getElem hi']
      unfold rd_T94
      simp [List.getD_eq_getElem?_getD, hi']
    rw [← e]
    exact ih (i + 1) (by omega)
theorem ev_impl_WorthTable (n : Int) (l : List Int) (s u h b : Int) (hl : l.length ≤ 9223372036854775807) : Ev (fun k => impl_WorthTable.f k n l s u h b) (wtableV n l s u h b) := by
  unfold impl_WorthTable.f wtableV
  refine Ev.bind (ev_impl_IsProcess n l s u h b hl) ?_
  refine ev_ite (fun hc => ?_) (fun hc => ?_)
  · rw [if_pos hc]
    have hp := procB_spec hc
    obtain ⟨r, h1, h2⟩ := ev_impl_Process_worths n l s u h b hp.2.1 hp.1 hp.2.2.2.2.2.2.1 hp.2.2.2.2.2.2.2
    refine Ev.bind h1 ?_
    have h3 := wts_map_len h2
    rw [← h2]
    exact ev_impl_WorthTable_l0 r (by omega) r.length 0 (by omega)
  · rw [if_neg hc]; exact Ev.now _

def allFrom (g : Nat → Bool) : Nat → Nat → Bool
  | 0, _ => true
  | d + 1, i => g i && allFrom g d (i + 1)
theorem allFrom_iff (g : Nat → Bool) (d : Nat) : ∀ i, allFrom g d i = true ↔ ∀ j, i ≤ j → j < i + d → g j = true := by
  induction d with
  | zero => intro i; exact ⟨fun _ j h1 h2 => by omega, fun _ => rfl⟩
  | succ d ih =>
    intro i
    rw [allFrom, Bool.and_eq_true, ih (i + 1)]
    constructor
    · rintro ⟨h1, h2⟩ j h3 h4
      by_cases he : j = i
      · subst he; exact h1
      · exact h2 j (by omega) (by omega)
    · intro h
      exact ⟨h i (by omega) (by omega), fun j h1 h2 => h j (by omega) (by omega)⟩
theorem allFrom_congr {g g' : Nat → Bool} (d : Nat) : ∀ i, (∀ j, i ≤ j → j < i + d → g j = g' j) → allFrom g d i = allFrom g' d i := by
  induction d with
  | zero => intro i _; rfl
  | succ d ih =>
    intro i h
    rw [allFrom, allFrom, h i (by omega) (by omega), ih (i + 1) (fun j h1 h2 => h j (by omega) (by omega))]
def mapFrom {α : Type} (g : Nat → α) : Nat → Nat → List α
  | 0, _ => []
  | d + 1, i => g i :: mapFrom g d (i + 1)
theorem mapFrom_length {α : Type} (g : Nat → α) (d : Nat) : ∀ i, (mapFrom g d i).length = d := by
  induction d with
  | zero => intro i; rfl
  | succ d ih => intro i; rw [mapFrom, List.length_cons, ih]
theorem mapFrom_get {α : Type} (g : Nat → α) (d : Nat) : ∀ (i j : Nat) (h : j < (mapFrom g d i).length), (mapFrom g d i)[j] = g (i + j) := by
  induction d with
  | zero => intro i j h; simp [mapFrom] at h
  | succ d ih =>
    intro i j h
    cases j with
    | zero => rfl
    | succ j =>
      show (mapFrom g d (i + 1))[j]'_ = _
      rw [ih]
      congr 1
      omega
theorem mapFrom_congr {α : Type} {g g' : Nat → α} (d : Nat) : ∀ i, (∀ j, i ≤ j → j < i + d → g j = g' j) → mapFrom g d i = mapFrom g' d i := by
  induction d with
  | zero => intro i _; rfl
  | succ d ih =>
    intro i h
    rw [mapFrom, mapFrom, h i (by omega) (by omega), ih (i + 1) (fun j h1 h2 => h j (by omega) (by omega))]

theorem rdL_mem {m : List (List Int)} {i : Nat} (h : i < m.length) : rd_L1 m (i : Int) ∈ m := by
  unfold rd_L1
  simp [List.getD_eq_getElem?_getD, h]
theorem rdL_nat {m : List (List Int)} {i : Nat} (h : i < m.length) : rd_L1 m (i : Int) = m[i] := by
  unfold rd_L1
  simp [List.getD_eq_getElem?_getD, h]
def shelfB (a : Int) (s n : List Int) (c d : Int) : Bool := inB a 1 8 && (decide (n.length ≤ 8 ∧ s.length = n.length) && (allB s 0 20 && (allB n 0 20 && (inB c 0 20 && inB d 0 20))))
theorem shelfB_spec {a : Int} {s n : List Int} {c d : Int} (h : shelfB a s n c d = true) : (1 ≤ a ∧ a ≤ 8) ∧ n.length ≤ 8 ∧ s.length = n.length := by
  unfold shelfB at h
  rw [Bool.and_eq_true, Bool.and_eq_true, inB_iff, decide_eq_true_eq] at h
  exact ⟨h.1, h.2.1⟩
def useB (a : Int) (row : List Int) (i j : Nat) : Bool := !decide (rd row (j : Int) > 0) || decide ((j : Int) ≤ (i : Int) ∧ (i : Int) < (j : Int) + a)
def rowOk (n : List Int) (m : List (List Int)) (i : Nat) : Bool := decide ((rd_L1 m (i : Int)).length = n.length) && (allB (rd_L1 m (i : Int)) 0 20 && !decide (wrap64 (rd_L1 m (i : Int)).sum > rd n (i : Int)))
def rowB (a : Int) (n : List Int) (m : List (List Int)) (i : Nat) : Bool := rowOk n m i && allFrom (useB a (rd_L1 m (i : Int)) i) n.length 0
theorem rowOk_length {n : List Int} {m : List (List Int)} {i : Nat} (h : rowOk n m i = true) : (rd_L1 m (i : Int)).length = n.length := by
  unfold rowOk at h
  rw [Bool.and_eq_true, decide_eq_true_eq] at h
  exact h.1
theorem rowB_length {a : Int} {n : List Int} {m : List (List Int)} {i : Nat} (h : rowB a n m i = true) : (rd_L1 m (i : Int)).length = n.length := by
  unfold rowB at h
  rw [Bool.and_eq_true] at h
  exact rowOk_length h.1
def colFrom (m : List (List Int)) (j : Nat) : Nat → Nat → Int
  | 0, _ => 0
  | d + 1, i => rd (rd_L1 m (i : Int)) (j : Int) + colFrom m j d (i + 1)
def colV (m : List (List Int)) (j : Nat) : Int := wrap64 (colFrom m j m.length 0)
def colsB (s : List Int) (m : List (List Int)) (n : Nat) : Bool := allFrom (fun j => !decide (colV m j > rd s (j : Int))) n 0
def issueB (a : Int) (s n : List Int) (m : List (List Int)) : Bool := allFrom (rowB a n m) (min m.length n.length) 0 && (decide (m.length = n.length) && colsB s m n.length)
theorem issueB_spec {a : Int} {s n : List Int} {m : List (List Int)} (h : issueB a s n m = true) : m.length = n.length ∧ ∀ i, i < m.length → (rd_L1 m (i : Int)).length = m.length := by
  unfold issueB at h
  rw [Bool.and_eq_true, Bool.and_eq_true, decide_eq_true_eq, allFrom_iff] at h
  refine ⟨h.2.1, fun i hi => ?_⟩
  rw [rowB_length (h.1 i (by omega) (by omega)), h.2.1]
def lostV (n : List Int) (m : List (List Int)) : List Int := mapFrom (fun i => wrap64 (rd n (i : Int) - wrap64 (rd_L1 m (i : Int)).sum)) m.length 0
def wastedV (s : List Int) (m : List (List Int)) : List Int := mapFrom (fun j => wrap64 (rd s (j : Int) - colV m j)) m.length 0
def bothB (a : Int) (s n : List Int) (c d : Int) (m : List (List Int)) : Bool := shelfB a s n c d && issueB a s n m
theorem bothB_spec {a : Int} {s n : List Int} {c d : Int} {m : List (List Int)} (h : bothB a s n c d m = true) : s.length = m.length ∧ n.length = m.length ∧ m.length ≤ 8 ∧ ∀ i, i < m.length → (rd_L1 m (i : Int)).length = m.length := by
  unfold bothB at h
  rw [Bool.and_eq_true] at h
  have h1 := shelfB_spec h.1
  have h2 := issueB_spec h.2
  exact ⟨by omega, by omega, by omega, h2.2⟩
def shelfCostV (a : Int) (s n : List Int) (c d : Int) (m : List (List Int)) : Int × Bool := if bothB a s n c d m = true then (wrap64 (wrap64 (d * wrap64 (lostV n m).sum) + wrap64 (c * wrap64 (wastedV s m).sum)), true) else (0, false)
def lostNeedsV (a : Int) (s n : List Int) (c e : Int) (m : List (List Int)) : List Int × Bool := if bothB a s n c e m = true then (lostV n m, true) else ([], false)
def wastedUnitsV (a : Int) (s n : List Int) (c e : Int) (m : List (List Int)) : List Int × Bool := if bothB a s n c e m = true then (wastedV s m, true) else ([], false)
theorem lostNeedsV_length {a : Int} {s n : List Int} {c e : Int} {m : List (List Int)} : (lostNeedsV a s n c e m).1.length ≤ 8 := by
  unfold lostNeedsV
  by_cases h : bothB a s n c e m = true
  · rw [if_pos h]
    obtain ⟨h1, h2, h3, h4⟩ := bothB_spec h
    simp only [lostV, mapFrom_length]
    omega
  · rw [if_neg h]
    simp
theorem wastedUnitsV_length {a : Int} {s n : List Int} {c e : Int} {m : List (List Int)} : (wastedUnitsV a s n c e m).1.length ≤ 8 := by
  unfold wastedUnitsV
  by_cases h : bothB a s n c e m = true
  · rw [if_pos h]
    obtain ⟨h1, h2, h3, h4⟩ := bothB_spec h
    simp only [wastedV, mapFrom_length]
    omega
  · rw [if_neg h]
    simp

theorem ev_laws_eqIntSS_l0_self (m : List (List Int)) (h : m.length ≤ 1048576 ∧ ∀ i, i < m.length → (rd_L1 m (i : Int)).length ≤ 1048576) (d : Nat) : ∀ (i : Nat), i + d = m.length → Ev (fun k => laws_eqIntSS.l0 k m m (i : Int)) true := by
  induction d with
  | zero =>
    intro i hi
    refine ev_succ ?_
    have h1 : ¬ (i : Int) < (m.length : Int) := by omega
    simp only [laws_eqIntSS.l0, h1, ↓reduceIte]
    exact Ev.now _
  | succ d ih =>
    intro i hi
    refine ev_succ ?_
    have h1 : (i : Int) < (m.length : Int) := by omega
    have h0 : (0 : Int) ≤ (i : Int) := by omega
    have hi' : i < m.length := by omega
    simp only [laws_eqIntSS.l0, h1, h0, ↓reduceIte, w64_nat hi' (by omega : m.length ≤ 9223372036854775807)]
    refine Ev.bind (ev_laws_eqIntS_self _ (by have := h.2 i hi'; omega)) ?_
    simp only [↓reduceIte]
    exact ih (i + 1) (by omega)
theorem ev_laws_eqIntSS_self (m : List (List Int)) (h : m.length ≤ 1048576 ∧ ∀ i, i < m.length → (rd_L1 m (i : Int)).length ≤ 1048576) : Ev (fun k => laws_eqIntSS.f k m m) true := by
  unfold laws_eqIntSS.f
  simp only [↓reduceIte]
  exact ev_laws_eqIntSS_l0_self m h m.length 0 (by omega)

def lens : List (List Int) → Nat
  | [] => 0
  | r :: m => r.length + lens m
def markSS : List (List Int) → Int → List (List Int)
  | [], _ => []
  | r :: m, x => marked x r.length :: markSS m (x + (r.length : Int))
theorem markSS_length (m : List (List Int)) : ∀ x, (markSS m x).length = m.length := by
  induction m with
  | nil => intro x; rfl
  | cons r m ih => intro x; simp [markSS, ih]
theorem lens_mem {m : List (List Int)} : ∀ r ∈ m, r.length ≤ lens m := by
  induction m with
  | nil => intro r h; cases h
  | cons a m ih =>
    intro r h
    rcases List.mem_cons.1 h with rfl | h
    · simp [lens]
    · have := ih r h; simp only [lens]; omega
theorem ev_laws_markIntSS_l0 (S : List (List Int)) : ∀ (P : List (List Int)) (x : Int), (P ++ S).length ≤ 4611686018427387904 → 0 ≤ x → x + (lens S : Int) ≤ 1000000000 → Ev (fun k => laws_markIntSS.l0 k (P ++ S) x (P.length : Int)) (x + (lens S : Int), P ++ markSS S x) := by
  induction S with
  | nil =>
    intro P x hP h0 h1
    refine ev_succ ?_
    have h2 : ¬ (P.length : Int) < ((P ++ ([] : List (List Int))).length : Int) := by simp
    simp only [laws_markIntSS.l0, h2, ↓reduceIte, lens, markSS]
    exact ev_eq (Ev.now _) (by simp)
  | cons r S ih =>
    intro P x hP h0 h1
    simp only [lens] at h1
    have hl : (P ++ r :: S).length = P.length + S.length + 1 := by simp; omega
    refine ev_succ ?_
    have h2 : (P.length : Int) < ((P ++ r :: S).length : Int) := by omega
    have h3 : (0 : Int) ≤ (P.length : Int) := by omega
    have e1 : (P ++ r :: S).getD P.length [] = r := by simp [List.getD_eq_getElem?_getD]
    have e2 : ∀ v, (P ++ r :: S).set P.length v = (P ++ [v]) ++ S := by intro v; simp
    have e3 : wrap64 ((P.length : Int) + 1) = (((P.length + 1 : Nat)) : Int) := w64_nat (n := (P ++ r :: S).length) (by omega) (by omega)
    simp only [laws_markIntSS.l0, h2, h3, ↓reduceIte, Int.toNat_natCast, e1, e3, e2]
    refine Ev.bind (ev_laws_markIntS r x (by omega) h0 (by omega)) ?_
    dsimp only
    refine ev_eq (show Ev (fun k => laws_markIntSS.l0 k ((P ++ [marked x r.length]) ++ S) (x + (r.length : Int)) ((P.length + 1 : Nat) : Int)) _ from ?_) rfl
    have hh := ih (P ++ [marked x r.length]) (x + (r.length : Int)) (by simp at hP ⊢; omega) (by omega) (by omega)
    rw [List.length_append, List.length_singleton] at hh
    refine ev_eq hh ?_
    simp only [lens, markSS, Prod.mk.injEq, List.append_assoc, List.singleton_append, and_true]
    omega
theorem ev_laws_markIntSS (m : List (List Int)) (x : Int) (hm : m.length ≤ 4611686018427387904) (h0 : 0 ≤ x) (h1 : x + (lens m : Int) ≤ 1000000000) : Ev (fun k => laws_markIntSS.f k m x) (x + (lens m : Int), markSS m x) := by
  unfold laws_markIntSS.f
  exact ev_laws_markIntSS_l0 m [] x hm h0 h1

theorem ev_laws_heldIntS_l0 (m0 : Int) (n : Nat) (hn : n ≤ 4611686018427387904) (h0 : 0 ≤ m0) (h1 : m0 ≤ 1000000000) (d : Nat) : ∀ (i : Nat), i + d = n → Ev (fun k => laws_heldIntS.l0 k (marked m0 n) (m0 + (i : Int)) (i : Int)) (m0 + (n : Int)) := by
  induction d with
  | zero =>
    intro i hi
    refine ev_succ ?_
    have h1 : ¬ (i : Int) < ((marked m0 n).length : Int) := by rw [marked_length]; omega
    simp only [laws_heldIntS.l0, h1, ↓reduceIte]
    have : i = n := by omega
    subst this
    exact Ev.now _
  | succ d ih =>
    intro i hi
    refine ev_succ ?_
    have h1' : (i : Int) < ((marked m0 n).length : Int) := by rw [marked_length]; omega
    have h0' : (0 : Int) ≤ (i : Int) := by omega
    have hi' : i < (marked m0 n).length := by rw [marked_length]; omega
    have e1 : wrap64 (m0 + (i : Int) + 1) = m0 + ((i + 1 : Nat) : Int) := by rw [w64 (by omega) (by omega)]; omega
    have e2 : wrap64 ((i : Int) + 1) = ((i + 1 : Nat) : Int) := w64_nat (n := n) (by omega) (by omega)
    simp only [laws_heldIntS.l0, h1', h0', ↓reduceIte, rd_nat hi', marked_get, e1, e2]
    exact ih (i + 1) (by omega)
theorem ev_laws_heldIntS (m : Int) (n : Nat) (hn : n ≤ 4611686018427387904) (h0 : 0 ≤ m) (h1 : m ≤ 1000000000) : Ev (fun k => laws_heldIntS.f k (marked m n) m) (m + (n : Int)) := by
  unfold laws_heldIntS.f
  simpa using ev_laws_heldIntS_l0 m n hn h0 h1 n 0 (by omega)

theorem ev_laws_heldIntSS_l0 (S : List (List Int)) : ∀ (P : List (List Int)) (x : Int), (P ++ S).length ≤ 4611686018427387904 → 0 ≤ x → x + (lens S : Int) ≤ 1000000000 → Ev (fun k => laws_heldIntSS.l0 k (P ++ markSS S x) x (P.length : Int)) (x + (lens S : Int)) := by
  induction S with
  | nil =>
    intro P x hP h0 h1
    refine ev_succ ?_
    have h2 : ¬ (P.length : Int) < ((P ++ markSS ([] : List (List Int)) x).length : Int) := by simp [markSS]
    simp only [laws_heldIntSS.l0, h2, ↓reduceIte, lens]
    exact ev_eq (Ev.now _) (by simp)
  | cons r S ih =>
    intro P x hP h0 h1
    simp only [lens] at h1
    have hl : (P ++ markSS (r :: S) x).length = P.length + S.length + 1 := by rw [List.length_append, markSS_length]; simp; omega
    have hP2 : P.length + S.length + 1 ≤ 4611686018427387904 := by simp at hP; omega
    refine ev_succ ?_
    have h2 : (P.length : Int) < ((P ++ markSS (r :: S) x).length : Int) := by omega
    have h3 : (0 : Int) ≤ (P.length : Int) := by omega
    have e1 : rd_L1 (P ++ markSS (r :: S) x) (P.length : Int) = marked x r.length := by
      unfold rd_L1
      simp [markSS, List.getD_eq_getElem?_getD]
    have e3 : wrap64 ((P.length : Int) + 1) = (((P.length + 1 : Nat)) : Int) := w64 (by omega) (by omega)
    simp only [laws_heldIntSS.l0, h2, h3, ↓reduceIte, e1, e3]
    refine Ev.bind (ev_laws_heldIntS x r.length (by omega) h0 (by omega)) ?_
    refine ev_no (by omega) ?_
    have hh := ih (P ++ [marked x r.length]) (x + (r.length : Int)) (by simp; omega) (by omega) (by omega)
    rw [List.length_append, List.length_singleton, List.append_assoc, List.singleton_append] at hh
    refine ev_eq hh ?_
    simp only [lens]
    omega
theorem ev_laws_heldIntSS (m : List (List Int)) (x : Int) (hm : m.length ≤ 4611686018427387904) (h0 : 0 ≤ x) (h1 : x + (lens m : Int) ≤ 1000000000) : Ev (fun k => laws_heldIntSS.f k (markSS m x) x) (x + (lens m : Int)) := by
  unfold laws_heldIntSS.f
  exact ev_laws_heldIntSS_l0 m [] x hm h0 h1
theorem lens_le {m : List (List Int)} {c : Nat} (h : ∀ r ∈ m, r.length ≤ c) : lens m ≤ m.length * c := by
  induction m with
  | nil => simp [lens]
  | cons a m ih =>
    have h1 := h a (List.mem_cons_self ..)
    have h2 := ih (fun r hr => h r (List.mem_cons_of_mem _ hr))
    simp only [lens, List.length_cons, Nat.succ_mul]
    omega

theorem FnExactWorthTable (a0_0 : Int) (l0_1 : List (Int)) (a0_2 : Int) (a0_3 : Int) (a0_4 : Int) (a0_5 : Int) (w0_0 : (Lit.int .i64 a0_0).wf = true) (h0_1 : l0_1.length ≤ 9223372036854775807) (w0_1 : ∀ y ∈ l0_1, (Lit.int .i64 y).wf = true) (w0_2 : (Lit.int .i64 a0_2).wf = true) (w0_3 : (Lit.int .i64 a0_3).wf = true) (w0_4 : (Lit.int .i64 a0_4).wf = true) (w0_5 : (Lit.int .i64 a0_5).wf = true) : ∃ k, laws_FnExactWorthTable.f k a0_0 l0_1 a0_2 a0_3 a0_4 a0_5 = some true := by
  refine Ev.rounds ?_
  unfold laws_FnExactWorthTable.f
  by_cases hn : l0_1.length ≤ 1048576
  · simp only [laws_szProcess_le a0_0 l0_1 a0_2 a0_3 a0_4 a0_5 hn, Option.bind_some]
    refine ev_ite (fun h => Ev.now _) (fun h => ?_)
    have hs := ev_spec_WorthTable a0_0 l0_1 a0_2 a0_3 a0_4 a0_5 h0_1
    have hi := ev_impl_WorthTable a0_0 l0_1 a0_2 a0_3 a0_4 a0_5 h0_1
    have hv := wtableV_len a0_0 l0_1 a0_2 a0_3 a0_4 a0_5
    generalize wtableV a0_0 l0_1 a0_2 a0_3 a0_4 a0_5 = v at hs hi hv
    obtain ⟨v, b⟩ := v
    dsimp only at hv
    have hSS : v.length ≤ 1048576 ∧ ∀ i, i < v.length → (rd_L1 v (i : Int)).length ≤ 1048576 := ⟨by omega, fun i hi => by rw [hv.2 _ (rdL_mem hi)]; omega⟩
    have hln : (lens v : Int) ≤ 1000 := by
      have h1 := lens_le (c := 21) (fun r hr => Nat.le_of_eq (hv.2 r hr))
      have h2 : v.length * 21 ≤ 6 * 21 := Nat.mul_le_mul_right _ hv.1
      omega
    clear h
    repeat first
      | exact Ev.now _
      | (refine Ev.bind ht ?_; try dsimp only)
      | (refine Ev.bind hs ?_; try dsimp only)
      | (refine Ev.bind hi ?_; try dsimp only)
      | (refine Ev.bind (ev_laws_toIntS _ (by first | assumption | omega)) ?_; try dsimp only)
      | (refine Ev.bind (ev_laws_toProcess _ _ _ _ _ _ (by first | assumption | omega)) ?_; try dsimp only)
      | (refine Ev.bind (ev_laws_eqIntS_self _ (by first | assumption | omega)) ?_; try dsimp only)
      | (refine Ev.bind (ev_laws_eqProcess_self _ _ _ _ _ _ (by first | assumption | omega)) ?_; try dsimp only)
      | (refine Ev.bind (ev_laws_markIntS _ _ (by first | assumption | omega) (by first | assumption | omega) (by first | assumption | omega)) ?_; try dsimp only)
      | (refine Ev.bind (ev_laws_markProcess _ _ _ _ _ _ _ (by first | assumption | omega) (by first | assumption | omega) (by first | assumption | omega)) ?_; try dsimp only)
      | (refine Ev.bind (ev_laws_eqIntSS_self _ (by first | assumption | omega)) ?_; try dsimp only)
      | (refine Ev.bind (ev_laws_markIntSS _ _ (by first | assumption | omega) (by first | assumption | omega) (by first | assumption | omega)) ?_; try dsimp only)
      | (refine Ev.bind (ev_laws_heldIntS _ _ (by first | assumption | omega) (by first | assumption | omega) (by first | assumption | omega)) ?_; try dsimp only)
      | (refine Ev.bind (ev_laws_heldIntSS _ _ (by first | assumption | omega) (by first | assumption | omega) (by first | assumption | omega)) ?_; try dsimp only)
      | (refine ev_ite (fun h => absurd h (by omega)) (fun _ => ?_))
      | (refine ev_ite (fun _ => ?_) (fun h => absurd (by omega) h))
      | (simp only [bne_self_eq_false, Bool.false_eq_true, ↓reduceIte])
      | (refine ev_succ ?_; simp only [laws_FnExactWorthTable.j0])
      | (refine ev_succ ?_; simp only [laws_FnExactWorthTable.j1])
      | (refine ev_succ ?_; simp only [laws_FnExactWorthTable.j2])
  · simp only [laws_szProcess_gt a0_0 l0_1 a0_2 a0_3 a0_4 a0_5 h0_1 (by omega), Option.bind_some]
    exact Ev.now _

end Go.Proofs.Ytmekmkhdhakohaa.Pure
