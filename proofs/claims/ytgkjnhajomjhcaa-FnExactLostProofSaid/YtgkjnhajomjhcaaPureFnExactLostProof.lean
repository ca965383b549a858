/- The pure side of FnExactLostProof: what the program's text computes and what the reference's text computes are the same value, for every argument. No condition. -/
import Derived.Test.YtgkjnhajomjhcaaPFnExactLostProofx8
namespace Go.Proofs.Ytgkjnhajomjhcaa.Pure
open Go.RowKit Go.Proofs.Ytgkjnhajomjhcaa.PFnExactLostProof Go.Proofs.YtgkjnhajomjhcaaW.PrintWords Go.Proofs.YtgkjnhajomjhcaaW.PrintLast
set_option linter.unusedVariables false
set_option linter.unusedSimpArgs false

theorem ev_succ {α : Type} {g : Nat → Option α} {r : α} (h : Ev (fun k => g (k + 1)) r) : Ev g r := Ev.step (fun _ => rfl) h
theorem ev_pure {α : Type} {x : Option α} {r : α} (h : x = some r) : Ev (fun _ => x) r := ⟨0, fun _ _ => h⟩
theorem ev_eq {α : Type} {g : Nat → Option α} {r r' : α} (h : Ev g r) (e : r = r') : Ev g r' := e ▸ h
theorem ev_ite {α : Type} {c : Prop} [Decidable c] {g f : Nat → Option α} {r : α} (h1 : c → Ev g r) (h2 : ¬ c → Ev f r) : Ev (fun k => if c then g k else f k) r := by
 by_cases h : c
 ·simp only [h, if_true]; exact h1 h
 ·simp only [h, if_false]; exact h2 h
theorem w64 {x : Int} (h : -9223372036854775808 ≤ x) (h' : x ≤ 9223372036854775807) : wrap64 x = x := by unfold wrap64; omega
theorem w64_zero : wrap64 0 = 0 := w64 (by omega) (by omega)
theorem w64_idem (x : Int) : wrap64 (wrap64 x) = wrap64 x := by unfold wrap64; omega
theorem w64_add_l (x y : Int) : wrap64 (wrap64 x + y) = wrap64 (x + y) := by unfold wrap64; omega
theorem w64_add_r (x y : Int) : wrap64 (x + wrap64 y) = wrap64 (x + y) := by unfold wrap64; omega
theorem w64_sub_l (x y : Int) : wrap64 (wrap64 x - y) = wrap64 (x - y) := by unfold wrap64; omega
theorem w64_sub_r (x y : Int) : wrap64 (x - wrap64 y) = wrap64 (x - y) := by unfold wrap64; omega
theorem w64_shift (x k : Int) : wrap64 (x + 18446744073709551616 * k) = wrap64 x := by unfold wrap64; omega
theorem w64_ex (x : Int) : ∃ k, wrap64 x = x + 18446744073709551616 * k := by
 unfold wrap64
 exact ⟨-((x + 9223372036854775808) / 18446744073709551616), by omega⟩
theorem w64_mul_l (x y : Int) : wrap64 (wrap64 x * y) = wrap64 (x * y) := by
 obtain ⟨k, hk⟩ := w64_ex x
 rw [hk, Int.add_mul, Int.mul_assoc, w64_shift]
theorem w64_mul_r (x y : Int) : wrap64 (x * wrap64 y) = wrap64 (x * y) := by
 rw [Int.mul_comm, w64_mul_l, Int.mul_comm]
theorem w64_neg (x : Int) : wrap64 (-wrap64 x) = wrap64 (-x) := by unfold wrap64; omega
theorem w64_range (x : Int) : -9223372036854775808 ≤ wrap64 x ∧ wrap64 x ≤ 9223372036854775807 := by unfold wrap64; omega
theorem w64_nat {i n : Nat} (h : i < n) (hn : n ≤ 9223372036854775807) : wrap64 ((i : Int) + 1) = ((i + 1 : Nat) : Int) := by rw [w64 (by omega) (by omega)]; rfl
theorem wf_range {x : Int} (h : (Lit.int .i64 x).wf = true) : -9223372036854775808 ≤ x ∧ x ≤ 9223372036854775807 := by
 simp [Lit.wf, IntKind.min, IntKind.max, IntKind.signed, IntKind.bits] at h
 omega
theorem rd_nat {l : List Int} {i : Nat} (h : i < l.length) : rd l (i : Int) = l[i] := by
 unfold rd
 simp [List.getD_eq_getElem?_getD, h]
def allB (l : List Int) (a b : Int) : Bool := l.all fun x => decide (a ≤ x ∧ x ≤ b)
def inB (x a b : Int) : Bool := decide (a ≤ x ∧ x ≤ b)
theorem allB_mem {l : List Int} {a b : Int} (h : allB l a b = true) : ∀ x ∈ l, a ≤ x ∧ x ≤ b := by
 intro x hx
 have := List.all_eq_true.1 h x hx
 simpa using this
theorem inB_iff {x a b : Int} : inB x a b = true ↔ a ≤ x ∧ x ≤ b := by unfold inB; simp
theorem sum_le {l : List Int} {b : Int} (hb : ∀ x ∈ l, x ≤ b) : l.sum ≤ l.length * b := by
 induction l with
 | nil => simp
 | cons x l ih =>
  have h1 := hb x (by simp)
  have h2 := ih (fun y hy => hb y (by simp [hy]))
  rw [List.sum_cons, List.length_cons]
  have : ((l.length + 1 : Nat) : Int) * b = l.length * b + b := by rw [Int.natCast_add, Int.add_mul]; simp
  rw [this]; omega
theorem le_sum {l : List Int} {b : Int} (hb : ∀ x ∈ l, b ≤ x) : l.length * b ≤ l.sum := by
 induction l with
 | nil => simp
 | cons x l ih =>
  have h1 := hb x (by simp)
  have h2 := ih (fun y hy => hb y (by simp [hy]))
  rw [List.sum_cons, List.length_cons]
  have : ((l.length + 1 : Nat) : Int) * b = l.length * b + b := by rw [Int.natCast_add, Int.add_mul]; simp
  rw [this]; omega
theorem drop_cons {α : Type} {l : List α} {i : Nat} (h : i < l.length) : l.drop i = l[i] :: l.drop (i + 1) := List.drop_eq_getElem_cons h
theorem ev_yes {α : Type} {c : Prop} [Decidable c] {g f : Nat → Option α} {r : α} (h : c) (hg : Ev g r) : Ev (fun k => if c then g k else f k) r := ev_ite (fun _ => hg) (fun hn => absurd h hn)
theorem ev_no {α : Type} {c : Prop} [Decidable c] {g f : Nat → Option α} {r : α} (h : ¬ c) (hf : Ev f r) : Ev (fun k => if c then g k else f k) r := ev_ite (fun hn => absurd hn h) (fun _ => hf)

theorem laws_szIntS_le (l : List Int) (hl : l.length ≤ 1048576) : laws_szIntS.f l 1048576 = some (1048576 - (l.length : Int)) := by
 unfold laws_szIntS.f
 rw [w64 (by omega) (by omega), if_neg (by omega)]
theorem laws_szIntS_gt (l : List Int) (h : l.length ≤ 9223372036854775807) (hl : 1048576 < l.length) : laws_szIntS.f l 1048576 = some (-1) := by
 unfold laws_szIntS.f
 rw [w64 (by omega) (by omega), if_pos (by omega)]
theorem laws_szIntS_f (l : List Int) (t : Int) (h : l.length ≤ 9223372036854775807) (h0 : 0 ≤ t) (h1 : t ≤ 1048576) : laws_szIntS.f l t = some (if t - (l.length : Int) < 0 then -1 else t - (l.length : Int)) := by
 unfold laws_szIntS.f
 rw [w64 (by omega) (by omega)]
 by_cases hc : t - (l.length : Int) < 0
 ·rw [if_pos hc, if_pos hc]
 ·rw [if_neg hc, if_neg hc]

theorem laws_szShelf_f (a : Int) (s n : List Int) (c e : Int) (hs : s.length ≤ 9223372036854775807) (hn : n.length ≤ 9223372036854775807) : laws_szShelf.f a s n c e 1048576 = some (if 1048576 - (s.length : Int) < 0 then -1 else if 1048576 - (s.length : Int) - (n.length : Int) < 0 then -1 else 1048576 - (s.length : Int) - (n.length : Int)) := by
 unfold laws_szShelf.f
 rw [laws_szIntS_f s 1048576 hs (by omega) (by omega), Option.bind_some]
 by_cases h : 1048576 - (s.length : Int) < 0
 ·simp only [h, ↓reduceIte, show ((-1 : Int) < 0) = True from by simp]
 ·simp only [h, ↓reduceIte, laws_szIntS_f n _ hn (by omega : 0 ≤ 1048576 - (s.length : Int)) (by omega), Option.bind_some]
  by_cases h2 : 1048576 - (s.length : Int) - (n.length : Int) < 0
  ·simp only [h2, ↓reduceIte, show ((-1 : Int) < 0) = True from by simp]
  ·simp only [h2, ↓reduceIte]

theorem ev_laws_toIntS_l0 (l : List Int) (hl : l.length ≤ 9223372036854775807) (d : Nat) : ∀ (i : Nat) (o : List Int), i + d = l.length → o.length = l.length → Ev (fun k => laws_toIntS.l0 k l o (i : Int)) (o.take i ++ l.drop i) := by
 induction d with
 | zero =>
  intro i o hi ho
  refine ev_succ ?_
  have h1 : ¬ (i : Int) < (l.length : Int) := by omega
  simp only [laws_toIntS.l0, h1, ↓reduceIte]
  rw [List.drop_eq_nil_of_le (by omega), List.take_of_length_le (by omega), List.append_nil]
  exact Ev.now _
 | succ d ih =>
  intro i o hi ho
  refine ev_succ ?_
  have h1 : (i : Int) < (l.length : Int) := by omega
  have h2 : (i : Int) < (o.length : Int) := by omega
  have h0 : (0 : Int) ≤ (i : Int) := by omega
  have hi' : i < l.length := by omega
  simp only [laws_toIntS.l0, h1, h2, h0, ↓reduceIte, rd_nat hi', w64_nat hi' hl, Int.toNat_natCast]
  refine ev_eq (ih (i + 1) _ (by omega) (by simp [ho])) ?_
  rw [drop_cons hi', List.take_add_one]
  simp [ho, hi', List.take_set_of_le (Nat.le_refl i)]
theorem ev_laws_toIntS (l : List Int) (hl : l.length ≤ 1048576) : Ev (fun k => laws_toIntS.f k l) l := by
 unfold laws_toIntS.f
 have h0 : (0 : Int) ≤ (l.length : Int) := by omega
 have h1 : ((l.length : Int) : Int).toNat ≤ 35184372088832 := by omega
 simp only [h0, h1, ↓reduceIte]
 simpa using ev_laws_toIntS_l0 l (by omega) l.length 0 (List.replicate ((l.length : Int) : Int).toNat 0) (by omega) (by simp)

theorem ev_laws_toShelf (a : Int) (s n : List Int) (c e : Int) (h : s.length ≤ 1048576 ∧ n.length ≤ 1048576) : Ev (fun k => laws_toShelf.f k a s n c e) (a, s, n, c, e) := by
 unfold laws_toShelf.f
 refine Ev.bind (ev_laws_toIntS s h.1) ?_
 refine Ev.bind (ev_laws_toIntS n h.2) ?_
 exact Ev.now _

theorem ev_laws_eqIntS_l0 (l m : List Int) (hl : l.length ≤ 9223372036854775807) (he : l.length = m.length) (d : Nat) : ∀ (i : Nat), i + d = l.length → Ev (fun k => laws_eqIntS.l0 k l m (i : Int)) (decide (l.drop i = m.drop i)) := by
 induction d with
 | zero =>
  intro i hi
  refine ev_succ ?_
  have h1 : ¬ (i : Int) < (l.length : Int) := by omega
  simp only [laws_eqIntS.l0, h1, ↓reduceIte]
  rw [List.drop_eq_nil_of_le (by omega), List.drop_eq_nil_of_le (by omega)]
  exact Ev.now _
 | succ d ih =>
  intro i hi
  refine ev_succ ?_
  have h1 : (i : Int) < (l.length : Int) := by omega
  have h2 : (i : Int) < (m.length : Int) := by omega
  have h0 : (0 : Int) ≤ (i : Int) := by omega
  have hi' : i < l.length := by omega
  have hm' : i < m.length := by omega
  simp only [laws_eqIntS.l0, h1, h2, h0, ↓reduceIte, rd_nat hi', rd_nat hm', w64_nat hi' hl]
  refine ev_ite (fun h => ?_) (fun h => ?_)
  ·refine ev_eq (ih (i + 1) (by omega)) ?_
   rw [drop_cons hi', drop_cons hm', decide_eq_decide, h, List.cons.injEq]
   exact (and_iff_right rfl).symm
  ·refine ev_eq (Ev.now _) ?_
   rw [drop_cons hi', drop_cons hm']
   symm
   rw [decide_eq_false_iff_not, List.cons.injEq]
   exact fun hc => h hc.1
theorem ev_laws_eqIntS (l m : List Int) (hl : l.length ≤ 9223372036854775807) : Ev (fun k => laws_eqIntS.f k l m) (decide (l = m)) := by
 unfold laws_eqIntS.f
 refine ev_ite (fun h => ?_) (fun h => ?_)
 ·simpa using ev_laws_eqIntS_l0 l m hl (by omega) l.length 0 (by omega)
 ·refine ev_eq (Ev.now _) ?_
  symm
  rw [decide_eq_false_iff_not]
  rintro rfl
  exact h rfl
theorem ev_laws_eqIntS_self (l : List Int) (hl : l.length ≤ 9223372036854775807) : Ev (fun k => laws_eqIntS.f k l l) true := by
 simpa using ev_laws_eqIntS l l hl

theorem ev_laws_eqShelf_self (a : Int) (s n : List Int) (c e : Int) (h : s.length ≤ 1048576 ∧ n.length ≤ 1048576) : Ev (fun k => laws_eqShelf.f k a s n c e a s n c e) true := by
 unfold laws_eqShelf.f
 simp only [↓reduceIte]
 refine Ev.bind (ev_laws_eqIntS_self s (by omega)) ?_
 simp only [↓reduceIte]
 refine Ev.bind (ev_laws_eqIntS_self n (by omega)) ?_
 simp only [↓reduceIte]
 exact Ev.now _

def marked (m : Int) : Nat → List Int
 | 0 => []
 | n + 1 => m :: marked (m + 1) n
theorem marked_length (m : Int) (n : Nat) : (marked m n).length = n := by
 induction n generalizing m with
 | zero => rfl
 | succ n ih => simp [marked, ih]
theorem marked_get (m : Int) (n i : Nat) (h : i < (marked m n).length) : (marked m n)[i] = m + i := by
 induction n generalizing m i with
 | zero => simp [marked] at h
 | succ n ih =>
  cases i with
  | zero => simp [marked]
  | succ i =>
   simp only [marked, List.getElem_cons_succ]
   rw [ih]
   omega
theorem ev_laws_markIntS_l0 (l0 : List Int) (hl : l0.length ≤ 4611686018427387904) (m0 : Int) (h0 : 0 ≤ m0) (h1 : m0 ≤ 1000000000) (d : Nat) : ∀ (i : Nat) (l : List Int), i + d = l.length → l.length = l0.length → Ev (fun k => laws_markIntS.l0 k l (m0 + (i : Int)) (i : Int)) (m0 + (l.length : Int), l.take i ++ marked (m0 + i) d) := by
 induction d with
 | zero =>
  intro i l hi hle
  refine ev_succ ?_
  have h1 : ¬ (i : Int) < (l.length : Int) := by omega
  simp only [laws_markIntS.l0, h1, ↓reduceIte]
  rw [List.take_of_length_le (by omega)]
  have : i = l.length := by omega
  subst this
  simp only [marked, List.append_nil]
  exact Ev.now _
 | succ d ih =>
  intro i l hi hle
  refine ev_succ ?_
  have h1' : (i : Int) < (l.length : Int) := by omega
  have h0' : (0 : Int) ≤ (i : Int) := by omega
  have hi' : i < l.length := by omega
  have e1 : wrap64 (m0 + (i : Int) + 1) = m0 + ((i + 1 : Nat) : Int) := by rw [w64 (by omega) (by omega)]; omega
  simp only [laws_markIntS.l0, h1', h0', ↓reduceIte, w64_nat hi' (by omega : l.length ≤ 9223372036854775807), Int.toNat_natCast, e1]
  refine ev_eq (ih (i + 1) (l.set i (m0 + (i : Int))) (by simp; omega) (by simp [hle])) ?_
  rw [List.length_set]
  congr 1
  rw [List.take_add_one]
  simp only [List.getElem?_set_self hi', List.take_set_of_le (Nat.le_refl i)]
  simp only [Option.toList_some, List.append_assoc, List.singleton_append, marked]
  congr 3
  omega
theorem ev_laws_markIntS (l : List Int) (m : Int) (hl : l.length ≤ 4611686018427387904) (h0 : 0 ≤ m) (h1 : m ≤ 1000000000) : Ev (fun k => laws_markIntS.f k l m) (m + (l.length : Int), marked m l.length) := by
 unfold laws_markIntS.f
 simpa using ev_laws_markIntS_l0 l hl m h0 h1 l.length 0 l (by omega) rfl

theorem ev_laws_markShelf (a : Int) (s n : List Int) (c e : Int) (x : Int) (h : s.length ≤ 1048576 ∧ n.length ≤ 1048576) (h0 : 0 ≤ x) (h1 : x ≤ 1000000) : Ev (fun k => laws_markShelf.f k a s n c e x) (x + (s.length : Int) + (n.length : Int), marked x s.length, marked (x + (s.length : Int)) n.length) := by
 unfold laws_markShelf.f
 refine Ev.bind (ev_laws_markIntS s x (by omega) h0 (by omega)) ?_
 refine Ev.bind (ev_laws_markIntS n _ (by omega) (by dsimp only; omega) (by dsimp only; omega)) ?_
 exact Ev.now _

theorem ev_laws_heldIntS_l0 (m0 : Int) (n : Nat) (hn : n ≤ 4611686018427387904) (h0 : 0 ≤ m0) (h1 : m0 ≤ 1000000000) (d : Nat) : ∀ (i : Nat), i + d = n → Ev (fun k => laws_heldIntS.l0 k (marked m0 n) (m0 + (i : Int)) (i : Int)) (m0 + (n : Int)) := by
 induction d with
 | zero =>
  intro i hi
  refine ev_succ ?_
  have h1 : ¬ (i : Int) < ((marked m0 n).length : Int) := by rw [marked_length]; omega
  simp only [laws_heldIntS.l0, h1, ↓reduceIte]
  have : i = n := by omega
  subst this
  exact Ev.now _
 | succ d ih =>
  intro i hi
  refine ev_succ ?_
  have h1' : (i : Int) < ((marked m0 n).length : Int) := by rw [marked_length]; omega
  have h0' : (0 : Int) ≤ (i : Int) := by omega
  have hi' : i < (marked m0 n).length := by rw [marked_length]; omega
  have e1 : wrap64 (m0 + (i : Int) + 1) = m0 + ((i + 1 : Nat) : Int) := by rw [w64 (by omega) (by omega)]; omega
  have e2 : wrap64 ((i : Int) + 1) = ((i + 1 : Nat) : Int) := w64_nat (n := n) (by omega) (by omega)
  simp only [laws_heldIntS.l0, h1', h0', ↓reduceIte, rd_nat hi', marked_get, e1, e2]
  exact ih (i + 1) (by omega)
theorem ev_laws_heldIntS (m : Int) (n : Nat) (hn : n ≤ 4611686018427387904) (h0 : 0 ≤ m) (h1 : m ≤ 1000000000) : Ev (fun k => laws_heldIntS.f k (marked m n) m) (m + (n : Int)) := by
 unfold laws_heldIntS.f
 simpa using ev_laws_heldIntS_l0 m n hn h0 h1 n 0 (by omega)

theorem spec_l1In_f (a b c : Int) : spec_l1In.f a b c = some (inB a b c) := by
 unfold spec_l1In.f inB
 by_cases h : a ≥ b
 ·rw [if_pos h]; congr 1; rw [decide_eq_decide]; omega
 ·rw [if_neg h]; congr 1; symm; rw [decide_eq_false_iff_not]; omega

theorem ev_spec_l2Row_l0 (n b : Int) (l : List Int) (hl : l.length ≤ 9223372036854775807) (d : Nat) : ∀ i : Nat, i + d = l.length → Ev (fun k => spec_l2Row.l0 k l n b (i : Int)) (allB (l.drop i) 0 b && ((l.length : Int) == n)) := by
 induction d with
 | zero =>
  intro i hi
  refine ev_succ ?_
  have h1 : ¬ (i : Int) < (l.length : Int) := by omega
  simp only [spec_l2Row.l0, h1, ↓reduceIte]
  rw [List.drop_eq_nil_of_le (by omega)]
  exact Ev.now _
 | succ d ih =>
  intro i hi
  refine ev_succ ?_
  have h1 : (i : Int) < (l.length : Int) := by omega
  have h0 : (0 : Int) ≤ (i : Int) := by omega
  have hi' : i < l.length := by omega
  simp only [spec_l2Row.l0, h1, h0, ↓reduceIte, spec_l1In_f, Option.bind_some, rd_nat hi', w64_nat hi' hl]
  rw [drop_cons hi']
  show Ev _ ((inB l[i] 0 b && allB (l.drop (i + 1)) 0 b) && _)
  cases inB l[i] 0 b with
  | true => simpa using ih (i + 1) (by omega)
  | false => simpa using Ev.now false
theorem ev_spec_l2Row (l : List Int) (n b : Int) (hl : l.length ≤ 9223372036854775807) : Ev (fun k => spec_l2Row.f k l n b) (allB l 0 b && ((l.length : Int) == n)) := by
 unfold spec_l2Row.f
 simpa using ev_spec_l2Row_l0 n b l hl l.length 0 (by omega)

theorem spec_l5Charges_f (a b : Int) : spec_l5Charges.f a b = some (inB a 0 20 && inB b 0 20) := by
 unfold spec_l5Charges.f
 simp only [spec_l1In_f, Option.bind_some]
 cases inB a 0 20 <;> rfl

def allFrom (g : Nat → Bool) : Nat → Nat → Bool
 | 0, _ => true
 | d + 1, i => g i && allFrom g d (i + 1)
theorem allFrom_iff (g : Nat → Bool) (d : Nat) : ∀ i, allFrom g d i = true ↔ ∀ j, i ≤ j → j < i + d → g j = true := by
 induction d with
 | zero => intro i; exact ⟨fun _ j h1 h2 => by omega, fun _ => rfl⟩
 | succ d ih =>
  intro i
  rw [allFrom, Bool.and_eq_true, ih (i + 1)]
  constructor
  ·rintro ⟨h1, h2⟩ j h3 h4
   by_cases he : j = i
   ·subst he; exact h1
   ·exact h2 j (by omega) (by omega)
  ·intro h
   exact ⟨h i (by omega) (by omega), fun j h1 h2 => h j (by omega) (by omega)⟩
theorem allFrom_congr {g g' : Nat → Bool} (d : Nat) : ∀ i, (∀ j, i ≤ j → j < i + d → g j = g' j) → allFrom g d i = allFrom g' d i := by
 induction d with
 | zero => intro i _; rfl
 | succ d ih =>
  intro i h
  rw [allFrom, allFrom, h i (by omega) (by omega), ih (i + 1) (fun j h1 h2 => h j (by omega) (by omega))]
def mapFrom {α : Type} (g : Nat → α) : Nat → Nat → List α
 | 0, _ => []
 | d + 1, i => g i :: mapFrom g d (i + 1)
theorem mapFrom_length {α : Type} (g : Nat → α) (d : Nat) : ∀ i, (mapFrom g d i).length = d := by
 induction d with
 | zero => intro i; rfl
 | succ d ih => intro i; rw [mapFrom, List.length_cons, ih]
theorem mapFrom_get {α : Type} (g : Nat → α) (d : Nat) : ∀ (i j : Nat) (h : j < (mapFrom g d i).length), (mapFrom g d i)[j] = g (i + j) := by
 induction d with
 | zero => intro i j h; simp [mapFrom] at h
 | succ d ih =>
  intro i j h
  cases j with
  | zero => rfl
  | succ j =>
   show (mapFrom g d (i + 1))[j]'_ = _
   rw [ih]
   congr 1
   omega
theorem mapFrom_congr {α : Type} {g g' : Nat → α} (d : Nat) : ∀ i, (∀ j, i ≤ j → j < i + d → g j = g' j) → mapFrom g d i = mapFrom g' d i := by
 induction d with
 | zero => intro i _; rfl
 | succ d ih =>
  intro i h
  rw [mapFrom, mapFrom, h i (by omega) (by omega), ih (i + 1) (fun j h1 h2 => h j (by omega) (by omega))]

theorem rdL_mem {m : List (List Int)} {i : Nat} (h : i < m.length) : rd_L1 m (i : Int) ∈ m := by
 unfold rd_L1
 simp [List.getD_eq_getElem?_getD, h]
theorem rdL_nat {m : List (List Int)} {i : Nat} (h : i < m.length) : rd_L1 m (i : Int) = m[i] := by
 unfold rd_L1
 simp [List.getD_eq_getElem?_getD, h]
def shelfB (a : Int) (s n : List Int) (c d : Int) : Bool := inB a 1 8 && (decide (n.length ≤ 8 ∧ s.length = n.length) && (allB s 0 20 && (allB n 0 20 && (inB c 0 20 && inB d 0 20))))
theorem shelfB_spec {a : Int} {s n : List Int} {c d : Int} (h : shelfB a s n c d = true) : (1 ≤ a ∧ a ≤ 8) ∧ n.length ≤ 8 ∧ s.length = n.length := by
 unfold shelfB at h
 rw [Bool.and_eq_true, Bool.and_eq_true, inB_iff, decide_eq_true_eq] at h
 exact ⟨h.1, h.2.1⟩
def useB (a : Int) (row : List Int) (i j : Nat) : Bool := !decide (rd row (j : Int) > 0) || decide ((j : Int) ≤ (i : Int) ∧ (i : Int) < (j : Int) + a)
def rowOk (n : List Int) (m : List (List Int)) (i : Nat) : Bool := decide ((rd_L1 m (i : Int)).length = n.length) && (allB (rd_L1 m (i : Int)) 0 20 && !decide (wrap64 (rd_L1 m (i : Int)).sum > rd n (i : Int)))
def rowB (a : Int) (n : List Int) (m : List (List Int)) (i : Nat) : Bool := rowOk n m i && allFrom (useB a (rd_L1 m (i : Int)) i) n.length 0
theorem rowOk_length {n : List Int} {m : List (List Int)} {i : Nat} (h : rowOk n m i = true) : (rd_L1 m (i : Int)).length = n.length := by
 unfold rowOk at h
 rw [Bool.and_eq_true, decide_eq_true_eq] at h
 exact h.1
theorem rowB_length {a : Int} {n : List Int} {m : List (List Int)} {i : Nat} (h : rowB a n m i = true) : (rd_L1 m (i : Int)).length = n.length := by
 unfold rowB at h
 rw [Bool.and_eq_true] at h
 exact rowOk_length h.1
def colFrom (m : List (List Int)) (j : Nat) : Nat → Nat → Int
 | 0, _ => 0
 | d + 1, i => rd (rd_L1 m (i : Int)) (j : Int) + colFrom m j d (i + 1)
def colV (m : List (List Int)) (j : Nat) : Int := wrap64 (colFrom m j m.length 0)
def colsB (s : List Int) (m : List (List Int)) (n : Nat) : Bool := allFrom (fun j => !decide (colV m j > rd s (j : Int))) n 0
def issueB (a : Int) (s n : List Int) (m : List (List Int)) : Bool := allFrom (rowB a n m) (min m.length n.length) 0 && (decide (m.length = n.length) && colsB s m n.length)
theorem issueB_spec {a : Int} {s n : List Int} {m : List (List Int)} (h : issueB a s n m = true) : m.length = n.length ∧ ∀ i, i < m.length → (rd_L1 m (i : Int)).length = m.length := by
 unfold issueB at h
 rw [Bool.and_eq_true, Bool.and_eq_true, decide_eq_true_eq, allFrom_iff] at h
 refine ⟨h.2.1, fun i hi => ?_⟩
 rw [rowB_length (h.1 i (by omega) (by omega)), h.2.1]
def lostV (n : List Int) (m : List (List Int)) : List Int := mapFrom (fun i => wrap64 (rd n (i : Int) - wrap64 (rd_L1 m (i : Int)).sum)) m.length 0
def wastedV (s : List Int) (m : List (List Int)) : List Int := mapFrom (fun j => wrap64 (rd s (j : Int) - colV m j)) m.length 0
def bothB (a : Int) (s n : List Int) (c d : Int) (m : List (List Int)) : Bool := shelfB a s n c d && issueB a s n m
theorem bothB_spec {a : Int} {s n : List Int} {c d : Int} {m : List (List Int)} (h : bothB a s n c d m = true) : s.length = m.length ∧ n.length = m.length ∧ m.length ≤ 8 ∧ ∀ i, i < m.length → (rd_L1 m (i : Int)).length = m.length := by
 unfold bothB at h
 rw [Bool.and_eq_true] at h
 have h1 := shelfB_spec h.1
 have h2 := issueB_spec h.2
 exact ⟨by omega, by omega, by omega, h2.2⟩
def shelfCostV (a : Int) (s n : List Int) (c d : Int) (m : List (List Int)) : Int × Bool := if bothB a s n c d m = true then (wrap64 (wrap64 (d * wrap64 (lostV n m).sum) + wrap64 (c * wrap64 (wastedV s m).sum)), true) else (0, false)
def lostNeedsV (a : Int) (s n : List Int) (c e : Int) (m : List (List Int)) : List Int × Bool := if bothB a s n c e m = true then (lostV n m, true) else ([], false)
def wastedUnitsV (a : Int) (s n : List Int) (c e : Int) (m : List (List Int)) : List Int × Bool := if bothB a s n c e m = true then (wastedV s m, true) else ([], false)
theorem lostNeedsV_length {a : Int} {s n : List Int} {c e : Int} {m : List (List Int)} : (lostNeedsV a s n c e m).1.length ≤ 8 := by
 unfold lostNeedsV
 by_cases h : bothB a s n c e m = true
 ·rw [if_pos h]
  obtain ⟨h1, h2, h3, h4⟩ := bothB_spec h
  simp only [lostV, mapFrom_length]
  omega
 ·rw [if_neg h]
  simp
theorem wastedUnitsV_length {a : Int} {s n : List Int} {c e : Int} {m : List (List Int)} : (wastedUnitsV a s n c e m).1.length ≤ 8 := by
 unfold wastedUnitsV
 by_cases h : bothB a s n c e m = true
 ·rw [if_pos h]
  obtain ⟨h1, h2, h3, h4⟩ := bothB_spec h
  simp only [wastedV, mapFrom_length]
  omega
 ·rw [if_neg h]
  simp

theorem ev_spec_l9Good_j0 (x : Bool) (a : Int) (s n : List Int) (c d : Int) (hs : s.length ≤ 9223372036854775807) (hn : n.length ≤ 9223372036854775807) : Ev (fun k => spec_l9Good.j0 k x a s n c d) (!x && (decide (s.length = n.length) && (allB s 0 20 && (allB n 0 20 && (inB c 0 20 && inB d 0 20))))) := by
 refine ev_succ ?_
 cases x with
 | true => simp only [spec_l9Good.j0, ↓reduceIte]; exact Ev.now _
 | false =>
  simp only [spec_l9Good.j0, Bool.false_eq_true, ↓reduceIte, spec_l5Charges_f, Option.bind_some]
  refine Ev.bind (ev_spec_l2Row n _ 20 hn) ?_
  refine ev_ite (fun h => ?_) (fun h => ?_)
  ·refine Ev.bind (ev_spec_l2Row s _ 20 hs) ?_
   have h1 : allB n 0 20 = true := by simpa using h
   refine ev_ite (fun h2 => ?_) (fun h2 => ?_)
   ·refine ev_eq (Ev.now _) ?_
    rw [Bool.and_eq_true, beq_iff_eq] at h2
    have h3 : s.length = n.length := by omega
    simp [h1, h2.1, h3]
   ·refine ev_eq (Ev.now _) ?_
    symm
    rw [← Bool.not_eq_true]
    intro hc
    refine h2 ?_
    simp only [Bool.not_false, Bool.true_and, Bool.and_eq_true, decide_eq_true_eq] at hc
    rw [Bool.and_eq_true, beq_iff_eq]
    exact ⟨hc.2.1, by omega⟩
  ·refine ev_eq (Ev.now _) ?_
   have h1 : allB n 0 20 = false := by simpa using h
   simp [h1]
theorem ev_spec_l9Good (a : Int) (s n : List Int) (c d : Int) (hs : s.length ≤ 9223372036854775807) (hn : n.length ≤ 9223372036854775807) : Ev (fun k => spec_l9Good.f k a s n c d) (shelfB a s n c d) := by
 unfold spec_l9Good.f shelfB
 simp only [spec_l1In_f, Option.bind_some]
 cases inB a 1 8 with
 | false => exact ev_eq (ev_spec_l9Good_j0 true a s n c d hs hn) rfl
 | true =>
  refine ev_eq (ev_spec_l9Good_j0 (decide ((n.length : Int) > 8)) a s n c d hs hn) ?_
  by_cases h : n.length ≤ 8
  ·have h1 : ¬ (n.length : Int) > 8 := by omega
   simp [h, h1]
  ·have h1 : (n.length : Int) > 8 := by omega
   simp [h, h1]

theorem bits_one (n : Nat) (h : n < 9223372036854775808) : Go.bits .and .i64 (n : Int) 1 = ((n % 2 : Nat) : Int) := by
 have h1 : (BitVec.ofInt 64 (n : Int)).toNat = n := by
  rw [BitVec.ofInt_natCast, BitVec.toNat_ofNat]; exact Nat.mod_eq_of_lt (by omega)
 show IntKind.i64.wrap ((BitVec.ofInt 64 (n : Int) &&& BitVec.ofInt 64 1).toNat : Int) = _
 rw [BitVec.toNat_and, h1, show (BitVec.ofInt 64 1).toNat = 1 from rfl, Nat.and_one_is_mod, i64_w, w64 (by omega) (by omega)]
theorem bit_test (c i : Nat) (hc : c < 256) (hi : i ≤ 8) : (Go.bits .and .i64 (shr .i64 (c : Int) (i : Int)) 1 = 1) ↔ c.testBit i = true := by
 have h1 : shr .i64 (c : Int) (i : Int) = ((c / 2 ^ i : Nat) : Int) := by
  unfold shr
  rw [Int.toNat_natCast, Nat.min_eq_left (by show i ≤ 64; omega)]
  simp
 have h2 : c / 2 ^ i ≤ c := Nat.div_le_self _ _
 rw [h1, bits_one _ (by omega), Nat.testBit_eq_decide_div_mod_eq]
 simp only [decide_eq_true_eq]
 omega
def bitsV (c : Nat) : Nat → Nat → List Int
 | 0, _ => []
 | d + 1, i => if c.testBit i = true then (i : Int) :: bitsV c d (i + 1) else bitsV c d (i + 1)
theorem bitsV_mem {c : Nat} {x : Int} : ∀ (d i : Nat), x ∈ bitsV c d i ↔ ∃ j : Nat, i ≤ j ∧ j < i + d ∧ c.testBit j = true ∧ x = (j : Int)
 | 0, i => by
  simp only [bitsV, List.not_mem_nil, false_iff]
  rintro ⟨j, h1, h2, _⟩
  omega
 | d + 1, i => by
  rw [bitsV]
  have ih := bitsV_mem (c := c) (x := x) d (i + 1)
  constructor
  ·intro h
   by_cases hb : c.testBit i = true
   ·rw [if_pos hb] at h
    rcases List.mem_cons.1 h with h | h
    ·exact ⟨i, Nat.le_refl _, by omega, hb, h⟩
    ·obtain ⟨j, a, b, e⟩ := ih.1 h
     exact ⟨j, by omega, by omega, e⟩
   ·rw [if_neg hb] at h
    obtain ⟨j, a, b, e⟩ := ih.1 h
    exact ⟨j, by omega, by omega, e⟩
  ·rintro ⟨j, a, b, e, hx⟩
   by_cases hj : j = i
   ·subst hj
    rw [if_pos e, hx]
    exact List.mem_cons_self ..
   ·have h2 := ih.2 ⟨j, by omega, by omega, e, hx⟩
    by_cases hb : c.testBit i = true
    ·rw [if_pos hb]; exact List.mem_cons_of_mem _ h2
    ·rw [if_neg hb]; exact h2
theorem bitsV_len (c : Nat) : ∀ d i : Nat, (bitsV c d i).length ≤ d
 | 0, i => Nat.le_refl _
 | d + 1, i => by
  rw [bitsV]
  have := bitsV_len c d (i + 1)
  by_cases hb : c.testBit i = true
  ·rw [if_pos hb, List.length_cons]; omega
  ·rw [if_neg hb]; omega
def setsV (n : Nat) : List (List Int) := (List.range (2 ^ n)).map fun c => bitsV c n 0
theorem setsV_len (n : Nat) : (setsV n).length = 2 ^ n := by unfold setsV; simp
theorem bitsV_inj {n c e : Nat} (hc : c < 2 ^ n) (he : e < 2 ^ n) (h : bitsV c n 0 = bitsV e n 0) : c = e := by
 refine Nat.eq_of_testBit_eq (fun i => ?_)
 by_cases hi : i < n
 ·have h1 := bitsV_mem (c := c) (x := (i : Int)) n 0
  have h2 := bitsV_mem (c := e) (x := (i : Int)) n 0
  rw [h] at h1
  have h3 := h1.symm.trans h2
  rw [Bool.eq_iff_iff]
  constructor
  ·intro g
   obtain ⟨j, _, _, a, b⟩ := h3.1 ⟨i, by omega, by omega, g, rfl⟩
   rw [show i = j by omega]; exact a
  ·intro g
   obtain ⟨j, _, _, a, b⟩ := h3.2 ⟨i, by omega, by omega, g, rfl⟩
   rw [show i = j by omega]; exact a
 ·have hp : 2 ^ n ≤ 2 ^ i := Nat.pow_le_pow_right (by omega) (by omega)
  rw [Nat.testBit_lt_two_pow (by omega), Nat.testBit_lt_two_pow (by omega)]
theorem setsV_nodup (n : Nat) : (setsV n).Nodup := by
 unfold setsV
 refine List.pairwise_map.2 (List.Pairwise.imp_of_mem (fun ha hb hne e => hne ?_) List.nodup_range)
 exact bitsV_inj (List.mem_range.1 ha) (List.mem_range.1 hb) e
theorem setsV_mem {n : Nat} {s : List Int} (h : s ∈ setsV n) : s.length ≤ n ∧ ∀ x ∈ s, 0 ≤ x ∧ x < (n : Int) := by
 unfold setsV at h
 obtain ⟨c, _, rfl⟩ := List.mem_map.1 h
 refine ⟨bitsV_len c n 0, fun x hx => ?_⟩
 obtain ⟨j, _, h2, _, rfl⟩ := (bitsV_mem n 0).1 hx
 omega
theorem setsV_full (n : Nat) : ∃ s ∈ setsV n, ∀ j : Nat, j < n → (j : Int) ∈ s := by
 have hp : 0 < 2 ^ n := Nat.pow_pos (by omega)
 refine ⟨bitsV (2 ^ n - 1) n 0, List.mem_map.2 ⟨2 ^ n - 1, List.mem_range.2 (by omega), rfl⟩, fun j hj => ?_⟩
 refine (bitsV_mem n 0).2 ⟨j, by omega, by omega, ?_, rfl⟩
 rw [Nat.testBit_two_pow_sub_one]
 simpa using hj
theorem pow8 {n : Nat} (h : n ≤ 8) : 1 ≤ 2 ^ n ∧ 2 ^ n ≤ 256 := ⟨Nat.pow_pos (by omega), (Nat.pow_le_pow_right (by omega) h : 2 ^ n ≤ 2 ^ 8)⟩
theorem shl_pow {n : Nat} (h : n ≤ 8) : shl .i64 1 (n : Int) = ((2 ^ n : Nat) : Int) := by
 have := pow8 h
 unfold shl
 rw [Int.toNat_natCast, Nat.min_eq_left (by show n ≤ 64; omega), Int.one_mul, i64_w]
 have e : (2 : Int) ^ n = ((2 ^ n : Nat) : Int) := by simp
 rw [e, w64 (by omega) (by omega)]
theorem setsV_get {n c : Nat} (h : c < (setsV n).length) : (setsV n)[c] = bitsV c n 0 := by
 have hc : c < 2 ^ n := by rw [← setsV_len n]; exact h
 have e : (setsV n)[c]? = some (bitsV c n 0) := by unfold setsV; rw [List.getElem?_map, List.getElem?_range hc]; rfl
 exact Option.some.inj ((List.getElem?_eq_getElem h).symm.trans e)

theorem ev_spec_l2Bits_l0 (n c : Nat) (hn : n ≤ 8) (hc : c < 256) (d : Nat) : ∀ (i : Nat) (o : List Int), i + d = n → o.length ≤ i → Ev (fun k => spec_l2Bits.l0 k (n : Int) (c : Int) o (i : Int)) (o ++ bitsV c d i) := by
 induction d with
 | zero =>
  intro i o hi ho
  refine ev_succ ?_
  have c1 : ¬ (i : Int) < (n : Int) := by omega
  simp only [spec_l2Bits.l0, c1, ↓reduceIte, bitsV, List.append_nil]
  exact Ev.now _
 | succ d ih =>
  intro i o hi ho
  refine ev_succ ?_
  have c1 : (i : Int) < (n : Int) := by omega
  have c2 : (0 : Int) ≤ (i : Int) := by omega
  have c3 : o.length < 17592186044416 := by omega
  have hb := bit_test c i hc (by omega)
  have hw := w64_nat (show i < n by omega) (show n ≤ 9223372036854775807 by omega)
  simp only [spec_l2Bits.l0, c1, c2, c3, ↓reduceIte, hw]
  rw [bitsV]
  by_cases h : c.testBit i = true
  ·rw [if_pos h]
   simp only [if_pos (hb.2 h)]
   refine ev_eq (ih (i + 1) _ (by omega) (by rw [List.length_append, List.length_singleton]; omega)) ?_
   rw [List.append_assoc]
   rfl
  ·rw [if_neg h]
   simp only [if_neg (fun q => h (hb.1 q))]
   exact ih (i + 1) _ (by omega) (by omega)
theorem ev_spec_l2Bits (n c : Nat) (hn : n ≤ 8) (hc : c < 256) : Ev (fun k => spec_l2Bits.f k (n : Int) (c : Int)) (bitsV c n 0) := by
 unfold spec_l2Bits.f
 simpa using ev_spec_l2Bits_l0 n c hn hc n 0 [] (by omega) (Nat.le_refl _)

def fI (F : List Int → Option Int) : List (List Int) → List Int × Int → List Int × Int
 | [], r => r
 | s :: t, r => fI F t (match F s with
  | some c => if c < r.2 then (s, c) else r
  | none => r)
def fS (F : List Int → Option Int) : List (List Int) → List Int × Int → List Int × Int
 | [], r => r
 | s :: t, r => fS F t (match F s with
  | some c => if r.2 < 0 ∨ c < r.2 ∨ c = r.2 ∧ slices_SortFunc_int_int.cmpL s r.1 < 0 then (s, c) else r
  | none => r)
theorem fI_spec (F : List Int → Option Int) : ∀ (l : List (List Int)) (r : List Int × Int), l.Pairwise (fun a b => ¬ slices_SortFunc_int_int.cmpL b a < 0) →
  (fI F l r = r ∧ ∀ s ∈ l, ∀ c, F s = some c → r.2 ≤ c) ∨ ((fI F l r).1 ∈ l ∧ F (fI F l r).1 = some (fI F l r).2 ∧ (fI F l r).2 < r.2 ∧ ∀ s ∈ l, ∀ c, F s = some c → (fI F l r).2 < c ∨ ((fI F l r).2 = c ∧ ¬ slices_SortFunc_int_int.cmpL s (fI F l r).1 < 0))
 | [], r, _ => Or.inl ⟨rfl, fun s hs => by simp at hs⟩
 | s :: t, r, h => by
  have h2 := List.pairwise_cons.1 h
  rw [fI]
  cases hF : F s with
  | none =>
   rcases fI_spec F t r h2.2 with ⟨a, b⟩ | ⟨a, b, c, d⟩
   ·refine Or.inl ⟨a, fun x hx c hc => ?_⟩
    rcases List.mem_cons.1 hx with hx | hx
    ·rw [hx, hF] at hc; cases hc
    ·exact b x hx c hc
   ·refine Or.inr ⟨List.mem_cons_of_mem _ a, b, c, fun x hx c hc => ?_⟩
    rcases List.mem_cons.1 hx with hx | hx
    ·rw [hx, hF] at hc; cases hc
    ·exact d x hx c hc
  | some c0 =>
   dsimp only
   by_cases hc0 : c0 < r.2
   ·rw [if_pos hc0]
    rcases fI_spec F t (s, c0) h2.2 with ⟨a, b⟩ | ⟨a, b, c, d⟩
    ·rw [a]
     refine Or.inr ⟨List.mem_cons_self .., hF, hc0, fun x hx c hc => ?_⟩
     rcases List.mem_cons.1 hx with hx | hx
     ·rw [hx, hF] at hc
      injection hc with hc
      refine Or.inr ⟨hc, ?_⟩
      rw [hx, slices_SortFunc_int_int.cmpL_refl]
      omega
     ·have := b x hx c hc
      dsimp only at this
      by_cases he : c0 = c
      ·exact Or.inr ⟨he, h2.1 x hx⟩
      ·exact Or.inl (by dsimp only; omega)
    ·refine Or.inr ⟨List.mem_cons_of_mem _ a, b, by dsimp only at c; omega, fun x hx c1 hc => ?_⟩
     rcases List.mem_cons.1 hx with hx | hx
     ·rw [hx, hF] at hc
      injection hc with hc
      dsimp only at c
      exact Or.inl (by omega)
     ·exact d x hx c1 hc
   ·rw [if_neg hc0]
    rcases fI_spec F t r h2.2 with ⟨a, b⟩ | ⟨a, b, c, d⟩
    ·refine Or.inl ⟨a, fun x hx c hc => ?_⟩
     rcases List.mem_cons.1 hx with hx | hx
     ·rw [hx, hF] at hc
      injection hc with hc
      omega
     ·exact b x hx c hc
    ·refine Or.inr ⟨List.mem_cons_of_mem _ a, b, c, fun x hx c1 hc => ?_⟩
     rcases List.mem_cons.1 hx with hx | hx
     ·rw [hx, hF] at hc
      injection hc with hc
      exact Or.inl (by omega)
     ·exact d x hx c1 hc
theorem fS_spec (F : List Int → Option Int) (hnn : ∀ s c, F s = some c → 0 ≤ c) : ∀ (l : List (List Int)) (r : List Int × Int),
  (fS F l r = r ∧ ∀ s ∈ l, ∀ c, F s = some c → 0 ≤ r.2 ∧ (r.2 < c ∨ (r.2 = c ∧ ¬ slices_SortFunc_int_int.cmpL s r.1 < 0))) ∨ ((fS F l r).1 ∈ l ∧ F (fS F l r).1 = some (fS F l r).2 ∧ (r.2 < 0 ∨ (fS F l r).2 < r.2 ∨ ((fS F l r).2 = r.2 ∧ slices_SortFunc_int_int.cmpL (fS F l r).1 r.1 < 0)) ∧ ∀ s ∈ l, ∀ c, F s = some c → (fS F l r).2 < c ∨ ((fS F l r).2 = c ∧ ¬ slices_SortFunc_int_int.cmpL s (fS F l r).1 < 0))
 | [], r => Or.inl ⟨rfl, fun s hs => by simp at hs⟩
 | s :: t, r => by
  rw [fS]
  cases hF : F s with
  | none =>
   rcases fS_spec F hnn t r with ⟨a, b⟩ | ⟨a, b, c, d⟩
   ·refine Or.inl ⟨a, fun x hx c hc => ?_⟩
    rcases List.mem_cons.1 hx with hx | hx
    ·rw [hx, hF] at hc; cases hc
    ·exact b x hx c hc
   ·refine Or.inr ⟨List.mem_cons_of_mem _ a, b, c, fun x hx c hc => ?_⟩
    rcases List.mem_cons.1 hx with hx | hx
    ·rw [hx, hF] at hc; cases hc
    ·exact d x hx c hc
  | some c0 =>
   have hp := hnn s c0 hF
   dsimp only
   by_cases hc0 : r.2 < 0 ∨ c0 < r.2 ∨ c0 = r.2 ∧ slices_SortFunc_int_int.cmpL s r.1 < 0
   ·rw [if_pos hc0]
    rcases fS_spec F hnn t (s, c0) with ⟨a, b⟩ | ⟨a, b, c, d⟩
    ·rw [a]
     refine Or.inr ⟨List.mem_cons_self .., hF, hc0, fun x hx c hc => ?_⟩
     rcases List.mem_cons.1 hx with hx | hx
     ·rw [hx, hF] at hc
      injection hc with hc
      refine Or.inr ⟨hc, ?_⟩
      rw [hx, slices_SortFunc_int_int.cmpL_refl]
      omega
     ·exact (b x hx c hc).2
    ·dsimp only at c
     refine Or.inr ⟨List.mem_cons_of_mem _ a, b, ?_, fun x hx c1 hc => ?_⟩
     ·rcases c with c | c | c
      ·omega
      ·rcases hc0 with g | g | g
       ·exact Or.inl g
       ·exact Or.inr (Or.inl (by omega))
       ·exact Or.inr (Or.inl (by omega))
      ·rcases hc0 with g | g | g
       ·exact Or.inl g
       ·exact Or.inr (Or.inl (by omega))
       ·exact Or.inr (Or.inr ⟨by omega, slices_SortFunc_int_int.cmpL_trans c.2 g.2⟩)
     ·rcases List.mem_cons.1 hx with hx | hx
      ·rw [hx, hF] at hc
       injection hc with hc
       rcases c with c | c | c
       ·omega
       ·exact Or.inl (by omega)
       ·refine Or.inr ⟨by omega, ?_⟩
        rw [hx]
        have := slices_SortFunc_int_int.cmpL_neg s (fS F t (s, c0)).1
        omega
      ·exact d x hx c1 hc
   ·rw [if_neg hc0]
    have g1 : ¬ r.2 < 0 := fun g => hc0 (Or.inl g)
    have g2 : ¬ c0 < r.2 := fun g => hc0 (Or.inr (Or.inl g))
    have g3 : c0 = r.2 → ¬ slices_SortFunc_int_int.cmpL s r.1 < 0 := fun e g => hc0 (Or.inr (Or.inr ⟨e, g⟩))
    rcases fS_spec F hnn t r with ⟨a, b⟩ | ⟨a, b, c, d⟩
    ·refine Or.inl ⟨a, fun x hx c hc => ?_⟩
     rcases List.mem_cons.1 hx with hx | hx
     ·rw [hx, hF] at hc
      injection hc with hc
      rw [hx]
      by_cases he : c0 = r.2
      ·exact ⟨by omega, Or.inr ⟨by omega, g3 he⟩⟩
      ·exact ⟨by omega, Or.inl (by omega)⟩
     ·exact b x hx c hc
    ·refine Or.inr ⟨List.mem_cons_of_mem _ a, b, c, fun x hx c1 hc => ?_⟩
     rcases List.mem_cons.1 hx with hx | hx
     ·rw [hx, hF] at hc
      injection hc with hc
      rw [hx]
      rcases c with c | c | c
      ·exact absurd c g1
      ·exact Or.inl (by omega)
      ·by_cases he : c0 = r.2
       ·refine Or.inr ⟨by omega, fun g => ?_⟩
        exact g3 he (slices_SortFunc_int_int.cmpL_trans g c.2)
       ·exact Or.inl (by omega)
     ·exact d x hx c1 hc
theorem best_same {F : List Int → Option Int} {SS L : List (List Int)} {never : Int} (hp : L.Perm SS) (hs : L.Pairwise (fun a b => ¬ slices_SortFunc_int_int.cmpL b a < 0)) (hfeas : ∃ s ∈ SS, ∃ c, F s = some c) (hnn : ∀ s c, F s = some c → 0 ≤ c) (hlt : ∀ s ∈ SS, ∀ c, F s = some c → c < never) : fI F L ([], never) = fS F SS ([], -1) := by
 obtain ⟨s0, hs0, c0, hc0⟩ := hfeas
 rcases fI_spec F L ([], never) hs with ⟨_, b⟩ | ⟨a, b, c, d⟩
 ·have h1 := b s0 (hp.mem_iff.2 hs0) c0 hc0
  have h2 := hlt s0 hs0 c0 hc0
  dsimp only at h1
  omega
 ·rcases fS_spec F hnn SS ([], -1) with ⟨_, b'⟩ | ⟨a', b', c', d'⟩
  ·have h1 := (b' s0 hs0 c0 hc0).1
   dsimp only at h1
   omega
  ·have e1 := d _ (hp.mem_iff.2 a') _ b'
   have e2 := d' _ (hp.mem_iff.1 a) _ b
   generalize fI F L ([], never) = x at *
   generalize fS F SS ([], -1) = y at *
   have e3 := slices_SortFunc_int_int.cmpL_neg x.1 y.1
   rcases e1 with e1 | e1 <;> rcases e2 with e2 | e2
   ·omega
   ·omega
   ·omega
   ·have e4 := slices_SortFunc_int_int.cmpL_eq (a := x.1) (b := y.1) (by omega)
    exact Prod.ext e4 e1.1
theorem merge_sorted (l : List (List Int)) : (l.mergeSort slices_SortFunc_int_int.le).Pairwise (fun a b => ¬ slices_SortFunc_int_int.cmpL b a < 0) := by
 have h := List.pairwise_mergeSort (le := slices_SortFunc_int_int.le) (fun a b c h1 h2 => ?_) (fun a b => ?_) l
 ·refine h.imp (fun hab => ?_)
  unfold slices_SortFunc_int_int.le at hab
  simpa using hab
 ·unfold slices_SortFunc_int_int.le at h1 h2 ⊢
  simp only [Bool.not_eq_true', decide_eq_false_iff_not] at h1 h2 ⊢
  exact slices_SortFunc_int_int.cmpL_ntrans h2 h1
 ·unfold slices_SortFunc_int_int.le
  have := slices_SortFunc_int_int.cmpL_neg a b
  by_cases h1 : slices_SortFunc_int_int.cmpL b a < 0
  ·have h2 : ¬ slices_SortFunc_int_int.cmpL a b < 0 := by omega
   simp [h2]
  ·simp [h1]

def useX (a j x : Int) : Bool := decide (j ≤ x ∧ x < j + a)
def bS (N : List Int) : List Int → Int → Int
 | [], v => v
 | x :: t, v => bS N t (v + rd N x)
def bW (a : Int) (s : List Int) : List Int → Nat → Int → Int
 | [], _, v => v
 | y :: t, j, v => bW a s t (j + 1) (if s.any (useX a (j : Int)) = true then v - y else v)
def boundV (a : Int) (A N s : List Int) : Int := bW a s A 0 (bS N s 0)
theorem bS_in {N : List Int} (hN : ∀ y ∈ N, 0 ≤ y ∧ y ≤ 20) : ∀ (s : List Int) (v : Int), (∀ x ∈ s, 0 ≤ x ∧ x < (N.length : Int)) → v ≤ bS N s v ∧ bS N s v ≤ v + 20 * (s.length : Int)
 | [], v, _ => by simp [bS]
 | x :: t, v, h => by
  have h1 := h x (List.mem_cons_self ..)
  obtain ⟨i, rfl⟩ : ∃ i : Nat, x = (i : Int) := ⟨x.toNat, by omega⟩
  have hi : i < N.length := by omega
  have h2 := hN _ (List.getElem_mem hi)
  have ih := bS_in hN t (v + rd N (i : Int)) (fun y hy => h y (List.mem_cons_of_mem _ hy))
  rw [bS, List.length_cons]
  rw [rd_nat hi] at ih ⊢
  omega
theorem bW_in {a : Int} {s : List Int} : ∀ (A : List Int) (j : Nat) (v : Int), (∀ y ∈ A, 0 ≤ y ∧ y ≤ 20) → bW a s A j v ≤ v ∧ v - 20 * (A.length : Int) ≤ bW a s A j v
 | [], j, v, _ => by simp [bW]
 | y :: t, j, v, h => by
  have h1 := h y (List.mem_cons_self ..)
  have ih := bW_in (a := a) (s := s) t (j + 1) (if s.any (useX a (j : Int)) = true then v - y else v) (fun y hy => h y (List.mem_cons_of_mem _ hy))
  rw [bW, List.length_cons]
  by_cases q : s.any (useX a (j : Int)) = true
  ·rw [if_pos q] at ih ⊢; omega
  ·rw [if_neg q] at ih ⊢; omega
theorem bW_nil {a : Int} : ∀ (A : List Int) (j : Nat) (v : Int), bW a [] A j v = v
 | [], _, _ => rfl
 | y :: t, j, v => by
  rw [bW, if_neg (by simp)]
  exact bW_nil (a := a) t (j + 1) v
theorem boundV_nil (a : Int) (A N : List Int) : boundV a A N [] = 0 := bW_nil A 0 _
theorem shelfB_all {a : Int} {s n : List Int} {c d : Int} (h : shelfB a s n c d = true) : (∀ y ∈ s, 0 ≤ y ∧ y ≤ 20) ∧ (∀ y ∈ n, 0 ≤ y ∧ y ≤ 20) := by
 unfold shelfB at h
 simp only [Bool.and_eq_true] at h
 exact ⟨allB_mem h.2.2.1, allB_mem h.2.2.2.1⟩
def setN (N s : List Int) : Prop := s.length ≤ N.length ∧ ∀ x ∈ s, 0 ≤ x ∧ x < (N.length : Int)
theorem boundV_in {a : Int} {A N : List Int} {c d : Int} (h : shelfB a A N c d = true) {s : List Int} (hs : setN N s) : -160 ≤ boundV a A N s ∧ boundV a A N s ≤ 160 := by
 have h1 := shelfB_spec h
 have h2 := shelfB_all h
 have h3 := bS_in h2.2 s 0 hs.2
 have h4 := bW_in (a := a) (s := s) A 0 (bS N s 0) h2.1
 have h5 := hs.1
 unfold boundV
 omega
theorem setsV_setN {N s : List Int} (h : s ∈ setsV N.length) : setN N s := ⟨(setsV_mem h).1, (setsV_mem h).2⟩
def costF (a : Int) (A N : List Int) (s : List Int) : Option Int := if s ∈ setsV N.length then some (200 - boundV a A N s) else none
theorem costF_in {a : Int} {A N : List Int} {s : List Int} (h : s ∈ setsV N.length) : costF a A N s = some (200 - boundV a A N s) := if_pos h
theorem costF_nn {a : Int} {A N : List Int} {c d : Int} (h : shelfB a A N c d = true) (s : List Int) (v : Int) (hv : costF a A N s = some v) : 0 ≤ v := by
 unfold costF at hv
 by_cases hm : s ∈ setsV N.length
 ·rw [if_pos hm] at hv
  injection hv with hv
  have := boundV_in h (setsV_setN hm)
  omega
 ·rw [if_neg hm] at hv; cases hv
theorem setsV_head (n : Nat) : ∃ t, setsV n = [] :: t ∧ (setsV n).drop 1 = t := by
 have hp : 0 < 2 ^ n := Nat.pow_pos (by omega)
 have hb : ∀ d i, bitsV 0 d i = [] := by
  intro d
  induction d with
  | zero => intro i; rfl
  | succ d ih => intro i; rw [bitsV, if_neg (by simp), ih]
 cases h : setsV n with
 | nil => have := setsV_len n; rw [h] at this; simp at this; omega
 | cons x t =>
  have h0 : 0 < (setsV n).length := by rw [h]; simp
  have e := setsV_get h0
  simp only [h, List.getElem_cons_zero] at e
  rw [hb] at e
  subst e
  exact ⟨t, rfl, rfl⟩
theorem cmpL_nil (s : List Int) : ¬ slices_SortFunc_int_int.cmpL s [] < 0 := by
 unfold slices_SortFunc_int_int.cmpL
 cases s with
 | nil => simp [slices_SortFunc_int_int.lexC]
 | cons x t => rw [if_neg (by simp), List.length_cons, List.length_nil]; omega
theorem best_most {F : List Int → Option Int} {T L : List (List Int)} {m : Int} (hp : L.Perm ([] :: T)) (hs : L.Pairwise (fun a b => ¬ slices_SortFunc_int_int.cmpL b a < 0)) (h0 : F [] = some m) (hnn : ∀ s c, F s = some c → 0 ≤ c) : fI F L ([], m) = fS F T ([], m) := by
 rcases fI_spec F L ([], m) hs with ⟨a, b⟩ | ⟨a, b, c, d⟩
 ·rcases fS_spec F hnn T ([], m) with ⟨a', _⟩ | ⟨a', b', c', _⟩
  ·rw [a, a']
  ·have h1 := b _ (hp.mem_iff.2 (List.mem_cons_of_mem _ a')) _ b'
   have h2 := cmpL_nil (fS F T ([], m)).1
   have h3 := hnn _ _ h0
   dsimp only at h1 c'
   rcases c' with c' | c' | c'
   ·omega
   ·omega
   ·exact absurd c'.2 h2
 ·have hm := hp.mem_iff.1 a
  dsimp only at c
  rcases List.mem_cons.1 hm with hm | hm
  ·rw [hm, h0] at b
   injection b with b
   omega
  ·rcases fS_spec F hnn T ([], m) with ⟨_, b'⟩ | ⟨a', b', c', d'⟩
   ·have h1 := b' _ hm _ b
    dsimp only at h1
    omega
   ·have e1 := d _ (hp.mem_iff.2 (List.mem_cons_of_mem _ a')) _ b'
    have e2 := d' _ hm _ b
    generalize fI F L ([], m) = x at *
    generalize fS F T ([], m) = y at *
    have e3 := slices_SortFunc_int_int.cmpL_neg x.1 y.1
    rcases e1 with e1 | e1 <;> rcases e2 with e2 | e2
    ·omega
    ·omega
    ·omega
    ·have e4 := slices_SortFunc_int_int.cmpL_eq (a := x.1) (b := y.1) (by omega)
     exact Prod.ext e4 e1.1
def lostSet (a : Int) (A N : List Int) : List Int := (fS (costF a A N) ((setsV N.length).drop 1) ([], 200)).1
def lostProofV (a : Int) (A N : List Int) (c d : Int) : List Int × Bool := if shelfB a A N c d = true then (lostSet a A N, true) else ([], false)
theorem fS_in {F : List Int → Option Int} {P : List Int → Prop} : ∀ (l : List (List Int)) (r : List Int × Int), (∀ s ∈ l, P s) → P r.1 → P (fS F l r).1
 | [], r, _, hr => hr
 | s :: t, r, h, hr => by
  rw [fS]
  refine fS_in t _ (fun x hx => h x (List.mem_cons_of_mem _ hx)) ?_
  cases F s with
  | none => exact hr
  | some c =>
   dsimp only
   by_cases q : r.2 < 0 ∨ c < r.2 ∨ c = r.2 ∧ slices_SortFunc_int_int.cmpL s r.1 < 0
   ·rw [if_pos q]; exact h s (List.mem_cons_self ..)
   ·rw [if_neg q]; exact hr
theorem lostSet_in (a : Int) (A N : List Int) : setN N (lostSet a A N) :=
 fS_in (P := setN N) _ _ (fun s hs => setsV_setN (List.mem_of_mem_drop hs)) ⟨Nat.zero_le _, fun x hx => by simp at hx⟩
theorem lostProofV_len (a : Int) (A N : List Int) (c d : Int) : (lostProofV a A N c d).1.length ≤ 8 := by
 unfold lostProofV
 by_cases h : shelfB a A N c d = true
 ·rw [if_pos h]
  have h1 := shelfB_spec h
  have h2 := (lostSet_in a A N).1
  dsimp only
  omega
 ·rw [if_neg h]; exact Nat.zero_le _

theorem spec_l9Usable_f {a : Int} (A N : List Int) (c e : Int) {j x : Int} (ha : 1 ≤ a ∧ a ≤ 8) (hj : 0 ≤ j ∧ j ≤ 8) : spec_l9Usable.f a A N c e j x = some (useX a j x) := by
 unfold spec_l9Usable.f useX
 rw [w64 (by omega) (by omega)]
 by_cases h : j ≤ x
 ·rw [if_pos h]; congr 1; rw [decide_eq_decide]; omega
 ·rw [if_neg h]; congr 1; symm; exact decide_eq_false (fun q => h q.1)
theorem ev_spec_l9Bound_l2 {a : Int} {A N : List Int} {c e : Int} (ha : 1 ≤ a ∧ a ≤ 8) (s : List Int) (hs : s.length ≤ 8) (v : Int) (j : Nat) (hj : j < A.length) (hA : A.length ≤ 8) {R1 R2 : Int} (h1 : Ev (fun k => spec_l9Bound.l1 k s (wrap64 (v - rd A (j : Int))) ((j + 1 : Nat) : Int) a A N c e) R1) (h2 : Ev (fun k => spec_l9Bound.l1 k s v ((j + 1 : Nat) : Int) a A N c e) R2) (d : Nat) : ∀ (i : Nat) (b : Bool), i + d = s.length → Ev (fun k => spec_l9Bound.l2 k s v (j : Int) b (i : Int) a A N c e) (if (b || (s.drop i).any (useX a (j : Int))) = true then R1 else R2) := by
 have hw := w64_nat hj (show A.length ≤ 9223372036854775807 by omega)
 induction d with
 | zero =>
  intro i b hi
  refine ev_succ ?_
  have c1 : ¬ (i : Int) < (s.length : Int) := by omega
  have c2 : (0 : Int) ≤ (j : Int) := by omega
  have c3 : (j : Int) < (A.length : Int) := by omega
  simp only [spec_l9Bound.l2, c1, c2, c3, ↓reduceIte, hw]
  rw [List.drop_eq_nil_of_le (by omega), List.any_nil, Bool.or_false]
  exact ev_ite (fun q => by rw [if_pos q]; exact h1) (fun q => by rw [if_neg q]; exact h2)
 | succ d ih =>
  intro i b hi
  refine ev_succ ?_
  have hi' : i < s.length := by omega
  have c1 : (i : Int) < (s.length : Int) := by omega
  have c2 : (0 : Int) ≤ (i : Int) := by omega
  simp only [spec_l9Bound.l2, c1, c2, ↓reduceIte, rd_nat hi', w64_nat hi' (show s.length ≤ 9223372036854775807 by omega), spec_l9Usable_f A N c e ha (show 0 ≤ (j : Int) ∧ (j : Int) ≤ 8 by omega), Option.bind_some]
  rw [drop_cons hi', List.any_cons]
  cases b with
  | true =>
   refine ev_yes rfl ?_
   refine ev_eq (ih (i + 1) true (by omega)) ?_
   simp
  | false =>
   refine ev_no (by simp) ?_
   refine ev_eq (ih (i + 1) _ (by omega)) ?_
   rw [Bool.false_or]
theorem ev_spec_l9Bound_l1 {a : Int} {A N : List Int} {c e : Int} (h : shelfB a A N c e = true) (s : List Int) (hs : s.length ≤ 8) (d : Nat) : ∀ (j : Nat) (v : Int), j + d = A.length → -20 * (j : Int) ≤ v → v ≤ 160 → Ev (fun k => spec_l9Bound.l1 k s v (j : Int) a A N c e) (bW a s (A.drop j) j v) := by
 have g := shelfB_spec h
 have g2 := shelfB_all h
 induction d with
 | zero =>
  intro j v hj h1 h2
  refine ev_succ ?_
  have c1 : ¬ (j : Int) < (A.length : Int) := by omega
  simp only [spec_l9Bound.l1, c1, ↓reduceIte]
  rw [List.drop_eq_nil_of_le (by omega)]
  exact Ev.now _
 | succ d ih =>
  intro j v hj h1 h2
  refine ev_succ ?_
  have hj' : j < A.length := by omega
  have c1 : (j : Int) < (A.length : Int) := by omega
  have hy := g2.1 _ (List.getElem_mem hj')
  simp only [spec_l9Bound.l1, c1, ↓reduceIte]
  rw [drop_cons hj', bW]
  have e1 : wrap64 (v - rd A (j : Int)) = v - A[j] := by rw [rd_nat hj', w64 (by omega) (by omega)]
  refine ev_eq (ev_spec_l9Bound_l2 g.1 s hs v j hj' (by omega) (by rw [e1]; exact ih (j + 1) _ (by omega) (by omega) (by omega)) (ih (j + 1) v (by omega) (by omega) (by omega)) s.length 0 false (by omega)) ?_
  rw [Bool.false_or, List.drop_zero]
  by_cases q : s.any (useX a (j : Int)) = true
  ·rw [if_pos q, if_pos q]
  ·rw [if_neg q, if_neg q]
theorem ev_spec_l9Bound_l0 {a : Int} {A N : List Int} {c e : Int} (h : shelfB a A N c e = true) (s : List Int) (hs : setN N s) (d : Nat) : ∀ (i : Nat) (v : Int), i + d = s.length → 0 ≤ v → v ≤ 20 * (i : Int) → Ev (fun k => spec_l9Bound.l0 k s v (i : Int) a A N c e) (bW a s A 0 (bS N (s.drop i) v)) := by
 have g := shelfB_spec h
 have g2 := shelfB_all h
 have g3 := hs.1
 induction d with
 | zero =>
  intro i v hi h1 h2
  refine ev_succ ?_
  have c1 : ¬ (i : Int) < (s.length : Int) := by omega
  simp only [spec_l9Bound.l0, c1, ↓reduceIte]
  rw [List.drop_eq_nil_of_le (by omega), bS]
  simpa using ev_spec_l9Bound_l1 h s (by omega) A.length 0 v (by omega) (by omega) (by omega)
 | succ d ih =>
  intro i v hi h1 h2
  refine ev_succ ?_
  have hi' : i < s.length := by omega
  have c1 : (i : Int) < (s.length : Int) := by omega
  have c2 : (0 : Int) ≤ (i : Int) := by omega
  have hx := hs.2 _ (List.getElem_mem hi')
  obtain ⟨x, hxx⟩ : ∃ x : Nat, s[i] = (x : Int) := ⟨s[i].toNat, by omega⟩
  have hx' : x < N.length := by omega
  have hy := g2.2 _ (List.getElem_mem hx')
  have c3 : (0 : Int) ≤ s[i] := hx.1
  have c4 : s[i] < (N.length : Int) := hx.2
  simp only [spec_l9Bound.l0, c1, c2, ↓reduceIte, rd_nat hi', c3, c4, w64_nat hi' (show s.length ≤ 9223372036854775807 by omega)]
  rw [drop_cons hi', bS]
  have e1 : wrap64 (v + rd N s[i]) = v + rd N s[i] := by rw [hxx, rd_nat hx', w64 (by omega) (by omega)]
  rw [e1]
  refine ih (i + 1) _ (by omega) ?_ ?_
  ·rw [hxx, rd_nat hx']; omega
  ·rw [hxx, rd_nat hx']; omega
theorem ev_spec_l9Bound {a : Int} {A N : List Int} {c e : Int} (h : shelfB a A N c e = true) {s : List Int} (hs : setN N s) : Ev (fun k => spec_l9Bound.f k a A N c e s) (boundV a A N s) := by
 unfold spec_l9Bound.f boundV
 simpa using ev_spec_l9Bound_l0 h s hs s.length 0 0 (by omega) (by omega) (by omega)

theorem ev_spec_l2Before_l0 (a b : List Int) (hab : a.length = b.length) (ha : a.length ≤ 9223372036854775807) (d : Nat) : ∀ i : Nat, i + d = a.length → Ev (fun k => spec_l2Before.l0 k a b (i : Int)) (decide (slices_SortFunc_int_int.lexC (a.drop i) (b.drop i) < 0)) := by
 induction d with
 | zero =>
  intro i hi
  refine ev_succ ?_
  have c1 : ¬ (i : Int) < (a.length : Int) := by omega
  simp only [spec_l2Before.l0, c1, ↓reduceIte]
  rw [List.drop_eq_nil_of_le (by omega), List.drop_eq_nil_of_le (by omega)]
  exact Ev.now _
 | succ d ih =>
  intro i hi
  refine ev_succ ?_
  have hi' : i < a.length := by omega
  have hj' : i < b.length := by omega
  have c1 : (i : Int) < (a.length : Int) := by omega
  have c2 : (0 : Int) ≤ (i : Int) := by omega
  have c3 : (i : Int) < (b.length : Int) := by omega
  simp only [spec_l2Before.l0, c1, c2, c3, ↓reduceIte, rd_nat hi', rd_nat hj', w64_nat hi' ha]
  rw [drop_cons hi', drop_cons hj', slices_SortFunc_int_int.lexC]
  refine ev_ite (fun h => ?_) (fun h => ?_)
  ·rw [if_neg (by omega), if_neg (by omega)]
   exact ih (i + 1) (by omega)
  ·by_cases h2 : a[i] < b[i]
   ·rw [if_pos h2]; simp only [h2, decide_true]; exact Ev.now _
   ·rw [if_neg h2, if_pos (by omega)]; simp only [h2, decide_false]; exact Ev.now _
theorem ev_spec_l2Before (a b : List Int) (ha : a.length ≤ 9223372036854775807) : Ev (fun k => spec_l2Before.f k a b) (decide (slices_SortFunc_int_int.cmpL a b < 0)) := by
 unfold spec_l2Before.f slices_SortFunc_int_int.cmpL
 refine ev_ite (fun h => ?_) (fun h => ?_)
 ·rw [if_pos (by omega)]
  simpa using ev_spec_l2Before_l0 a b (by omega) ha a.length 0 (by omega)
 ·rw [if_neg (by omega)]
  refine ev_pure ?_
  congr 1
  rw [decide_eq_decide]
  omega

theorem ev_spec_LostProof_l0 {a : Int} {A N : List Int} {c e : Int} (h : shelfB a A N c e = true) (d : Nat) : ∀ (q : Nat) (r : List Int × Int), q + d = 2 ^ N.length → setN N r.1 → r.2 = 200 - boundV a A N r.1 → Ev (fun k => spec_LostProof.l0 k r.1 (q : Int) a A N c e) ((fS (costF a A N) ((setsV N.length).drop q) r).1, true) := by
 have g := shelfB_spec h
 have hp := pow8 g.2.1
 have hlen := setsV_len N.length
 induction d with
 | zero =>
  intro q r hq hr hr2
  refine ev_succ ?_
  have c1 : ¬ (q : Int) < ((2 ^ N.length : Nat) : Int) := by omega
  simp only [spec_LostProof.l0, shl_pow g.2.1, c1, ↓reduceIte]
  rw [List.drop_eq_nil_of_le (by omega)]
  exact Ev.now _
 | succ d ih =>
  intro q r hq hr hr2
  refine ev_succ ?_
  have c1 : (q : Int) < ((2 ^ N.length : Nat) : Int) := by omega
  have hc' : q < (setsV N.length).length := by omega
  have hm : bitsV q N.length 0 ∈ setsV N.length := by rw [← setsV_get hc']; exact List.getElem_mem _
  have hs := setsV_setN hm
  have hw := w64_nat (show q < 2 ^ N.length by omega) (show 2 ^ N.length ≤ 9223372036854775807 by omega)
  have hb := boundV_in h hs
  have hb2 := boundV_in h hr
  simp only [spec_LostProof.l0, shl_pow g.2.1, c1, ↓reduceIte, hw]
  refine Ev.bind (ev_spec_l2Bits N.length q g.2.1 (by omega)) ?_
  refine Ev.bind (ev_spec_l9Bound h hs) ?_
  refine Ev.bind (ev_spec_l9Bound h hr) ?_
  rw [drop_cons hc', setsV_get hc', fS]
  simp only [costF_in hm]
  by_cases q1 : boundV a A N (bitsV q N.length 0) > boundV a A N r.1
  ·rw [if_pos (Or.inr (Or.inl (by omega)))]
   refine ev_yes q1 ?_
   exact ih (q + 1) (_, _) (by omega) hs rfl
  ·refine ev_no q1 ?_
   by_cases q2 : boundV a A N (bitsV q N.length 0) = boundV a A N r.1
   ·refine ev_yes q2 ?_
    refine Ev.bind (ev_spec_l2Before _ _ (by have := hs.1; omega)) ?_
    by_cases q4 : slices_SortFunc_int_int.cmpL (bitsV q N.length 0) r.1 < 0
    ·rw [if_pos (Or.inr (Or.inr ⟨by omega, q4⟩))]
     simp only [decide_eq_true q4, if_true]
     exact ih (q + 1) (_, _) (by omega) hs rfl
    ·rw [if_neg (fun w => w.elim (by omega) (fun w => w.elim (by omega) (fun w => q4 w.2)))]
     simp only [decide_eq_false q4, Bool.false_eq_true, if_false]
     exact ih (q + 1) r (by omega) hr hr2
   ·rw [if_neg (fun w => w.elim (by omega) (fun w => w.elim (by omega) (fun w => q2 (by omega))))]
    refine ev_no q2 ?_
    exact ih (q + 1) r (by omega) hr hr2
theorem ev_spec_LostProof (a : Int) (A N : List Int) (c e : Int) (hA : A.length ≤ 9223372036854775807) (hN : N.length ≤ 9223372036854775807) : Ev (fun k => spec_LostProof.f k a A N c e) (lostProofV a A N c e) := by
 unfold spec_LostProof.f lostProofV
 simp only [Option.bind_some]
 refine Ev.bind (ev_spec_l9Good a A N c e hA hN) ?_
 refine ev_ite (fun h => ?_) (fun h => ?_)
 ·rw [if_pos h]
  have hp := pow8 (shelfB_spec h).2.1
  simpa [lostSet] using ev_spec_LostProof_l0 h (2 ^ N.length - 1) 1 ([], 200) (by omega) ⟨Nat.zero_le _, fun x hx => by simp at hx⟩ (by rw [boundV_nil]; rfl)
 ·rw [if_neg h]; exact Ev.now _

theorem impl_within_f (a b c : Int) : impl_within.f a b c = some (inB a b c) := by
 unfold impl_within.f inB
 by_cases h : a ≥ b
 ·rw [if_pos h]; congr 1; rw [decide_eq_decide]; omega
 ·rw [if_neg h]; congr 1; symm; rw [decide_eq_false_iff_not]; omega

theorem impl_isLife_f (a : Int) : impl_isLife.f a = some (inB a 1 8) := by
 unfold impl_isLife.f
 simp only [impl_within_f, Option.bind_some]

theorem ev_impl_allWithin_l0 (a b : Int) (l : List Int) (hl : l.length ≤ 9223372036854775807) (d : Nat) : ∀ i : Nat, i + d = l.length → Ev (fun k => impl_allWithin.l0 k a b l (l.length : Int) (i : Int)) (allB (l.drop i) a b) := by
 induction d with
 | zero =>
  intro i hi
  refine ev_succ ?_
  have h1 : ¬ (i : Int) < (l.length : Int) := by omega
  simp only [impl_allWithin.l0, h1, ↓reduceIte]
  rw [List.drop_eq_nil_of_le (by omega)]
  exact Ev.now _
 | succ d ih =>
  intro i hi
  refine ev_succ ?_
  have h1 : (i : Int) < (l.length : Int) := by omega
  have h0 : (0 : Int) ≤ (i : Int) := by omega
  have hi' : i < l.length := by omega
  simp only [impl_allWithin.l0, h1, h0, ↓reduceIte, impl_within_f, Option.bind_some, rd_nat hi', w64_nat hi' hl]
  rw [drop_cons hi']
  show Ev _ (inB l[i] a b && allB (l.drop (i + 1)) a b)
  cases inB l[i] a b with
  | true => simpa using ih (i + 1) (by omega)
  | false => simpa using Ev.now false
theorem ev_impl_allWithin (l : List Int) (a b : Int) (hl : l.length ≤ 9223372036854775807) : Ev (fun k => impl_allWithin.f k l a b) (allB l a b) := by
 unfold impl_allWithin.f
 simpa using ev_impl_allWithin_l0 a b l hl l.length 0 (by omega)

theorem ev_impl_areCharges (l : List Int) (hl : l.length ≤ 9223372036854775807) : Ev (fun k => impl_areCharges.f k l) (allB l 0 20) := by
 unfold impl_areCharges.f
 exact Ev.bind (ev_impl_allWithin l 0 20 hl) (Ev.now _)

theorem allB_two (c d a b : Int) : allB [c, d] a b = (inB c a b && inB d a b) := by
 unfold allB inB
 simp only [List.all_cons, List.all_nil, Bool.and_true]
theorem ev_impl_IsShelf (a : Int) (s n : List Int) (c d : Int) (hs : s.length ≤ 9223372036854775807) (hn : n.length ≤ 9223372036854775807) : Ev (fun k => impl_IsShelf.f k a s n c d) (shelfB a s n c d) := by
 unfold impl_IsShelf.f shelfB
 simp only [impl_isLife_f, Option.bind_some]
 cases inB a 1 8 with
 | false => simp only [Bool.false_eq_true, ↓reduceIte, Bool.false_and]; exact Ev.now _
 | true =>
  simp only [↓reduceIte, Bool.true_and]
  refine ev_ite (fun h => ?_) (fun h => ?_)
  ·refine ev_ite (fun h2 => ?_) (fun h2 => ?_)
   ·have h3 : n.length ≤ 8 ∧ s.length = n.length := by omega
    simp only [h3, decide_true, Bool.true_and, and_self]
    refine Ev.bind (ev_impl_allWithin s 0 20 hs) ?_
    cases allB s 0 20 with
    | false => simp only [Bool.false_eq_true, ↓reduceIte, Bool.false_and]; exact Ev.now _
    | true =>
     simp only [↓reduceIte, Bool.true_and]
     refine Ev.bind (ev_impl_allWithin n 0 20 hn) ?_
     cases allB n 0 20 with
     | false => simp only [Bool.false_eq_true, ↓reduceIte, Bool.false_and]; exact Ev.now _
     | true =>
      simp only [↓reduceIte, Bool.true_and]
      refine Ev.bind (ev_impl_areCharges [c, d] (by simp)) ?_
      rw [allB_two]
      exact Ev.now _
   ·have h3 : ¬ (n.length ≤ 8 ∧ s.length = n.length) := by omega
    refine ev_eq (Ev.now _) ?_
    simp only [h3, decide_false, Bool.false_and]
  ·have h3 : ¬ (n.length ≤ 8 ∧ s.length = n.length) := by omega
   refine ev_eq (Ev.now _) ?_
   simp only [h3, decide_false, Bool.false_and]

theorem cmp_Compare_int_f (a b : Int) : cmp_Compare_int.f a b = some (if a < b then -1 else if a > b then 1 else 0) := by
 unfold cmp_Compare_int.f cmp_isNaN_int.f
 simp only [Option.bind_some, bne_self_eq_false, Bool.false_eq_true, if_false]
 by_cases h : a < b
 ·simp only [if_pos h]
 ·simp only [if_neg h]
  by_cases h2 : a > b
  ·simp only [if_pos h2]
  ·simp only [if_neg h2]

theorem ev_slices_Compare_l0 (a b : List Int) (hab : a.length = b.length) (ha : a.length ≤ 9223372036854775807) (d : Nat) : ∀ i : Nat, i + d = a.length → Ev (fun k => slices_Compare_int_int.l0 k a b a (a.length : Int) (i : Int)) (slices_SortFunc_int_int.lexC (a.drop i) (b.drop i)) := by
 induction d with
 | zero =>
  intro i hi
  refine ev_succ ?_
  have c1 : ¬ (i : Int) < (a.length : Int) := by omega
  have c2 : ¬ (a.length : Int) < (b.length : Int) := by omega
  simp only [slices_Compare_int_int.l0, c1, c2, ↓reduceIte]
  rw [List.drop_eq_nil_of_le (by omega), List.drop_eq_nil_of_le (by omega)]
  exact Ev.now _
 | succ d ih =>
  intro i hi
  refine ev_succ ?_
  have hi' : i < a.length := by omega
  have hj' : i < b.length := by omega
  have c1 : (i : Int) < (a.length : Int) := by omega
  have c2 : (0 : Int) ≤ (i : Int) := by omega
  have c3 : ¬ (i : Int) ≥ (b.length : Int) := by omega
  have c4 : (i : Int) < (b.length : Int) := by omega
  simp only [slices_Compare_int_int.l0, c1, c2, c3, c4, ↓reduceIte, rd_nat hi', rd_nat hj', w64_nat hi' ha, cmp_Compare_int_f, Option.bind_some]
  rw [drop_cons hi', drop_cons hj', slices_SortFunc_int_int.lexC]
  by_cases h : a[i] < b[i]
  ·simp only [if_pos h]; exact Ev.now _
  ·by_cases h2 : a[i] > b[i]
   ·simp only [if_neg h, if_pos h2]; exact Ev.now _
   ·simp only [if_neg h, if_neg h2, if_true]
    exact ih (i + 1) (by omega)
theorem ev_slices_Compare (a b : List Int) (hab : a.length = b.length) (ha : a.length ≤ 9223372036854775807) : Ev (fun k => slices_Compare_int_int.f k a b) (slices_SortFunc_int_int.lexC a b) := by
 unfold slices_Compare_int_int.f
 simpa using ev_slices_Compare_l0 a b hab ha a.length 0 (by omega)

theorem ev_impl_sets_1 (a b : List Int) (ha : a.length ≤ 4611686018427387904) (hb : b.length ≤ 4611686018427387904) : Ev (fun k => impl_sets_1.f k a b) (slices_SortFunc_int_int.cmpL a b) := by
 unfold impl_sets_1.f slices_SortFunc_int_int.cmpL
 refine ev_ite (fun h => ?_) (fun h => ?_)
 ·rw [if_pos (by omega)]
  exact Ev.bind (ev_slices_Compare a b (by omega) (by omega)) (Ev.now _)
 ·rw [if_neg (by omega), w64 (by omega) (by omega)]
  exact Ev.now _

theorem ev_all {α β : Type} {f : α → Nat → Option β} {v : α → β} : ∀ (l : List α), (∀ a ∈ l, Ev (f a) (v a)) → ∃ K, ∀ k, K ≤ k → ∀ a ∈ l, f a k = some (v a)
 | [], _ => ⟨0, fun _ _ a ha => by simp at ha⟩
 | a :: l, h => by
  obtain ⟨K1, h1⟩ := h a (List.mem_cons_self ..)
  obtain ⟨K2, h2⟩ := ev_all l (fun x hx => h x (List.mem_cons_of_mem _ hx))
  refine ⟨max K1 K2, fun k hk x hx => ?_⟩
  rcases List.mem_cons.1 hx with e | hx
  ·rw [e]; exact h1 k (by omega)
  ·exact h2 k (by omega) x hx
theorem ev_sort (n : Nat) (hn : n ≤ 8) : Ev (fun k => slices_SortFunc_int_int.f k (setsV n) 103) ((setsV n).mergeSort slices_SortFunc_int_int.le) := by
 have hp := pow8 hn
 have hlen := setsV_len n
 obtain ⟨K, hK⟩ := ev_all (f := fun (p : List Int × List Int) k => impl_sets_1.f k p.1 p.2) (v := fun p => slices_SortFunc_int_int.cmpL p.1 p.2) ((setsV n).flatMap fun a => (setsV n).map fun b => (a, b)) (fun p hm => by
  obtain ⟨a, ha, hm⟩ := List.mem_flatMap.1 hm
  obtain ⟨b, hb, rfl⟩ := List.mem_map.1 hm
  have h1 := (setsV_mem ha).1
  have h2 := (setsV_mem hb).1
  exact ev_impl_sets_1 a b (by omega) (by omega))
 refine ⟨K, fun k hk => ?_⟩
 unfold slices_SortFunc_int_int.f
 refine if_pos ?_
 refine ⟨rfl, by omega, by omega, setsV_nodup n, fun a ha b hb => ?_⟩
 exact hK k hk (a, b) (List.mem_flatMap.2 ⟨a, ha, List.mem_map.2 ⟨b, hb, rfl⟩⟩)
theorem setsV_take {n c : Nat} (h : c < (setsV n).length) : (setsV n).take (c + 1) = (setsV n).take c ++ [bitsV c n 0] := by
 rw [List.take_succ_eq_append_getElem h, setsV_get h]
theorem ev_impl_sets_l1 (n c : Nat) (hn : n ≤ 8) (hc : c < 2 ^ n) (acc : List (List Int)) {r : List (List Int)} (ha : acc.length ≤ 256) (hK : Ev (fun k => impl_sets.l0 k (n : Int) (acc ++ [bitsV c n 0]) ((2 ^ n : Nat) : Int) ((c + 1 : Nat) : Int)) r) (d : Nat) : ∀ (i : Nat) (o : List Int), i + d = n → o.length ≤ i → o ++ bitsV c d i = bitsV c n 0 → Ev (fun k => impl_sets.l1 k (n : Int) acc (c : Int) o ((2 ^ n : Nat) : Int) (c : Int) (n : Int) (i : Int)) r := by
 have hp := pow8 hn
 induction d with
 | zero =>
  intro i o hi ho he
  refine ev_succ ?_
  have c1 : ¬ (i : Int) < (n : Int) := by omega
  have c2 : acc.length < 5864062014805 := by omega
  simp only [impl_sets.l1, c1, c2, ↓reduceIte, w64_nat hc (show 2 ^ n ≤ 9223372036854775807 by omega)]
  rw [bitsV, List.append_nil] at he
  rw [he]
  exact hK
 | succ d ih =>
  intro i o hi ho he
  refine ev_succ ?_
  have c1 : (i : Int) < (n : Int) := by omega
  have c2 : (0 : Int) ≤ (i : Int) := by omega
  have c3 : o.length < 17592186044416 := by omega
  have hb := bit_test c i (by omega) (by omega)
  have hw := w64_nat (show i < n by omega) (show n ≤ 9223372036854775807 by omega)
  simp only [impl_sets.l1, c1, c2, c3, ↓reduceIte, hw]
  rw [bitsV] at he
  by_cases h : c.testBit i = true
  ·rw [if_pos h] at he
   simp only [if_pos (hb.2 h)]
   refine ih (i + 1) _ (by omega) (by rw [List.length_append, List.length_singleton]; omega) ?_
   rw [List.append_assoc]
   exact he
  ·rw [if_neg h] at he
   simp only [if_neg (fun q => h (hb.1 q))]
   exact ih (i + 1) _ (by omega) (by omega) he
theorem ev_impl_sets_l0 (n : Nat) (hn : n ≤ 8) (d : Nat) : ∀ c : Nat, c + d = 2 ^ n → Ev (fun k => impl_sets.l0 k (n : Int) ((setsV n).take c) ((2 ^ n : Nat) : Int) (c : Int)) ((setsV n).mergeSort slices_SortFunc_int_int.le) := by
 have hp := pow8 hn
 have hlen := setsV_len n
 induction d with
 | zero =>
  intro c hc
  refine ev_succ ?_
  have c1 : ¬ (c : Int) < ((2 ^ n : Nat) : Int) := by omega
  simp only [impl_sets.l0, c1, ↓reduceIte]
  rw [List.take_of_length_le (by omega)]
  exact Ev.bind (ev_sort n hn) (Ev.now _)
 | succ d ih =>
  intro c hc
  refine ev_succ ?_
  have c1 : (c : Int) < ((2 ^ n : Nat) : Int) := by omega
  simp only [impl_sets.l0, c1, ↓reduceIte]
  have h2 := ih (c + 1) (by omega)
  rw [setsV_take (by omega)] at h2
  simpa using ev_impl_sets_l1 n c hn (by omega) _ (by rw [List.length_take]; omega) h2 n 0 [] (by omega) (Nat.le_refl _) rfl
theorem ev_impl_sets (n : Nat) (hn : n ≤ 8) : Ev (fun k => impl_sets.f k (n : Int)) ((setsV n).mergeSort slices_SortFunc_int_int.le) := by
 unfold impl_sets.f
 simp only [if_pos (show (0 : Int) ≤ (n : Int) by omega), shl_pow hn]
 simpa using ev_impl_sets_l0 n hn (2 ^ n) 0 (by omega)

theorem impl_Shelf_can_f {a : Int} (A N : List Int) (c e : Int) {j x : Int} (ha : 1 ≤ a ∧ a ≤ 8) (hj : 0 ≤ j ∧ j ≤ 8) : impl_Shelf_can.f a A N c e j x = some (useX a j x) := by
 unfold impl_Shelf_can.f useX
 rw [w64 (x := j + a) (by omega) (by omega), w64 (by omega) (by omega), impl_within_f, Option.bind_some]
 unfold inB
 congr 1
 rw [decide_eq_decide]
 omega
theorem ev_impl_Shelf_bound_c0 {a : Int} {A N : List Int} {c e : Int} (ha : 1 ≤ a ∧ a ≤ 8) (s : List Int) (hs : s.length ≤ 8) (j : Nat) (hj : j ≤ 8) (d : Nat) : ∀ i : Nat, i + d = s.length → Ev (fun k => impl_Shelf_bound.c0 k s (i : Int) (j : Int) a A N c e) ((s.drop i).any (useX a (j : Int))) := by
 induction d with
 | zero =>
  intro i hi
  refine ev_succ ?_
  have c1 : ¬ (i : Int) < (s.length : Int) := by omega
  simp only [impl_Shelf_bound.c0, c1, ↓reduceIte]
  rw [List.drop_eq_nil_of_le (by omega)]
  exact Ev.now _
 | succ d ih =>
  intro i hi
  refine ev_succ ?_
  have hi' : i < s.length := by omega
  have c1 : (i : Int) < (s.length : Int) := by omega
  have c2 : (0 : Int) ≤ (i : Int) := by omega
  simp only [impl_Shelf_bound.c0, c1, c2, ↓reduceIte, rd_nat hi', w64_nat hi' (show s.length ≤ 9223372036854775807 by omega), impl_Shelf_can_f A N c e ha (show 0 ≤ (j : Int) ∧ (j : Int) ≤ 8 by omega), Option.bind_some]
  rw [drop_cons hi', List.any_cons]
  refine ev_ite (fun h => ?_) (fun h => ?_)
  ·rw [h]; exact Ev.now _
  ·rw [Bool.not_eq_true] at h
   rw [h, Bool.false_or]
   exact ih (i + 1) (by omega)
theorem ev_impl_Shelf_bound_l1 {a : Int} {A N : List Int} {c e : Int} (h : shelfB a A N c e = true) (s : List Int) (hs : s.length ≤ 8) (d : Nat) : ∀ (j : Nat) (v : Int), j + d = A.length → -20 * (j : Int) ≤ v → v ≤ 160 → Ev (fun k => impl_Shelf_bound.l1 k s v (j : Int) a A N c e) (bW a s (A.drop j) j v) := by
 have g := shelfB_spec h
 have g2 := shelfB_all h
 induction d with
 | zero =>
  intro j v hj h1 h2
  refine ev_succ ?_
  have c1 : ¬ (j : Int) < (A.length : Int) := by omega
  simp only [impl_Shelf_bound.l1, c1, ↓reduceIte]
  rw [List.drop_eq_nil_of_le (by omega)]
  exact Ev.now _
 | succ d ih =>
  intro j v hj h1 h2
  refine ev_succ ?_
  have hj' : j < A.length := by omega
  have c1 : (j : Int) < (A.length : Int) := by omega
  have c2 : (0 : Int) ≤ (j : Int) := by omega
  have hy := g2.1 _ (List.getElem_mem hj')
  have e1 : wrap64 (v - A[j]) = v - A[j] := w64 (by omega) (by omega)
  simp only [impl_Shelf_bound.l1, c1, c2, ↓reduceIte, rd_nat hj', e1, w64_nat hj' (show A.length ≤ 9223372036854775807 by omega)]
  refine Ev.bind (by simpa using ev_impl_Shelf_bound_c0 (A := A) (N := N) (c := c) (e := e) g.1 s hs j (by omega) s.length 0 (by omega)) ?_
  rw [drop_cons hj', bW]
  refine ev_ite (fun q => ?_) (fun q => ?_)
  ·rw [if_pos q]; exact ih (j + 1) _ (by omega) (by omega) (by omega)
  ·rw [if_neg q]; exact ih (j + 1) _ (by omega) (by omega) (by omega)
theorem ev_impl_Shelf_bound_l0 {a : Int} {A N : List Int} {c e : Int} (h : shelfB a A N c e = true) (s : List Int) (hs : setN N s) (d : Nat) : ∀ (i : Nat) (v : Int), i + d = s.length → 0 ≤ v → v ≤ 20 * (i : Int) → Ev (fun k => impl_Shelf_bound.l0 k s v (i : Int) a A N c e) (bW a s A 0 (bS N (s.drop i) v)) := by
 have g := shelfB_spec h
 have g2 := shelfB_all h
 have g3 := hs.1
 induction d with
 | zero =>
  intro i v hi h1 h2
  refine ev_succ ?_
  have c1 : ¬ (i : Int) < (s.length : Int) := by omega
  simp only [impl_Shelf_bound.l0, c1, ↓reduceIte]
  rw [List.drop_eq_nil_of_le (by omega), bS]
  simpa using ev_impl_Shelf_bound_l1 h s (by omega) A.length 0 v (by omega) (by omega) (by omega)
 | succ d ih =>
  intro i v hi h1 h2
  refine ev_succ ?_
  have hi' : i < s.length := by omega
  have c1 : (i : Int) < (s.length : Int) := by omega
  have c2 : (0 : Int) ≤ (i : Int) := by omega
  have hx := hs.2 _ (List.getElem_mem hi')
  obtain ⟨x, hxx⟩ : ∃ x : Nat, s[i] = (x : Int) := ⟨s[i].toNat, by omega⟩
  have hx' : x < N.length := by omega
  have hy := g2.2 _ (List.getElem_mem hx')
  have c3 : (0 : Int) ≤ s[i] := hx.1
  have c4 : s[i] < (N.length : Int) := hx.2
  simp only [impl_Shelf_bound.l0, c1, c2, ↓reduceIte, rd_nat hi', c3, c4, w64_nat hi' (show s.length ≤ 9223372036854775807 by omega)]
  rw [drop_cons hi', bS]
  have e1 : wrap64 (v + rd N s[i]) = v + rd N s[i] := by rw [hxx, rd_nat hx', w64 (by omega) (by omega)]
  rw [e1]
  refine ih (i + 1) _ (by omega) ?_ ?_
  ·rw [hxx, rd_nat hx']; omega
  ·rw [hxx, rd_nat hx']; omega
theorem ev_impl_Shelf_bound {a : Int} {A N : List Int} {c e : Int} (h : shelfB a A N c e = true) {s : List Int} (hs : setN N s) : Ev (fun k => impl_Shelf_bound.f k a A N c e s) (boundV a A N s) := by
 unfold impl_Shelf_bound.f boundV
 simpa using ev_impl_Shelf_bound_l0 h s hs s.length 0 0 (by omega) (by omega) (by omega)

theorem ev_impl_LostProof_l0 {a : Int} {A N : List Int} {c e : Int} (h : shelfB a A N c e = true) (L : List (List Int)) (hL : L.length ≤ 256) (hm : ∀ s ∈ L, s ∈ setsV N.length) (d : Nat) : ∀ (i : Nat) (r : List Int × Int), i + d = L.length → Ev (fun k => impl_LostProof.l0 k r.1 (200 - r.2) L (L.length : Int) (i : Int) a A N c e) ((fI (costF a A N) (L.drop i) r).1, true) := by
 induction d with
 | zero =>
  intro i r hi
  refine ev_succ ?_
  have c1 : ¬ (i : Int) < (L.length : Int) := by omega
  simp only [impl_LostProof.l0, c1, ↓reduceIte]
  rw [List.drop_eq_nil_of_le (by omega)]
  exact Ev.now _
 | succ d ih =>
  intro i r hi
  refine ev_succ ?_
  have hi' : i < L.length := by omega
  have c1 : (i : Int) < (L.length : Int) := by omega
  have c2 : (0 : Int) ≤ (i : Int) := by omega
  have hq := hm _ (List.getElem_mem hi')
  have hs := setsV_setN hq
  simp only [impl_LostProof.l0, c1, c2, ↓reduceIte, rdL_nat hi', w64_nat hi' (show L.length ≤ 9223372036854775807 by omega)]
  refine Ev.bind (ev_impl_Shelf_bound h hs) ?_
  rw [drop_cons hi', fI]
  simp only [costF_in hq]
  by_cases q : boundV a A N L[i] > 200 - r.2
  ·rw [if_pos (by omega)]
   refine ev_yes q ?_
   have := ih (i + 1) (L[i], 200 - boundV a A N L[i]) (by omega)
   rwa [show 200 - (200 - boundV a A N L[i]) = boundV a A N L[i] by omega] at this
  ·rw [if_neg (by omega)]
   exact ev_no q (ih (i + 1) r (by omega))
theorem ev_impl_LostProof (a : Int) (A N : List Int) (c e : Int) (hA : A.length ≤ 9223372036854775807) (hN : N.length ≤ 9223372036854775807) : Ev (fun k => impl_LostProof.f k a A N c e) (lostProofV a A N c e) := by
 unfold impl_LostProof.f lostProofV
 refine Ev.bind (ev_impl_IsShelf a A N c e hA hN) ?_
 refine ev_ite (fun h => ?_) (fun h => ?_)
 ·rw [if_pos h]
  have g := shelfB_spec h
  have hp := pow8 g.2.1
  refine Ev.bind (ev_impl_sets N.length g.2.1) ?_
  have hlen : ((setsV N.length).mergeSort slices_SortFunc_int_int.le).length ≤ 256 := by rw [List.length_mergeSort, setsV_len]; omega
  have hperm := List.mergeSort_perm (setsV N.length) slices_SortFunc_int_int.le
  obtain ⟨t, ht, hd⟩ := setsV_head N.length
  have hbs : fI (costF a A N) ((setsV N.length).mergeSort slices_SortFunc_int_int.le) ([], 200) = fS (costF a A N) ((setsV N.length).drop 1) ([], 200) := by
   rw [hd]
   exact best_most (ht ▸ hperm) (merge_sorted _) (by rw [costF_in (by rw [ht]; exact List.mem_cons_self ..), boundV_nil]; rfl) (costF_nn h)
  unfold lostSet
  rw [← hbs]
  simpa using ev_impl_LostProof_l0 h _ hlen (fun s hs => hperm.mem_iff.1 hs) ((setsV N.length).mergeSort slices_SortFunc_int_int.le).length 0 ([], 200) (by omega)
 ·rw [if_neg h]; exact Ev.now _

theorem FnExactLostProof (a0_0 : Int) (l0_1 : List (Int)) (l0_2 : List (Int)) (a0_3 : Int) (a0_4 : Int) (w0_0 : (Lit.int .i64 a0_0).wf = true) (h0_1 : l0_1.length ≤ 9223372036854775807) (w0_1 : ∀ y ∈ l0_1, (Lit.int .i64 y).wf = true) (h0_2 : l0_2.length ≤ 9223372036854775807) (w0_2 : ∀ y ∈ l0_2, (Lit.int .i64 y).wf = true) (w0_3 : (Lit.int .i64 a0_3).wf = true) (w0_4 : (Lit.int .i64 a0_4).wf = true) : ∃ k, laws_FnExactLostProof.f k a0_0 l0_1 l0_2 a0_3 a0_4 = some true := by
 refine Ev.rounds ?_
 unfold laws_FnExactLostProof.f
 simp only [laws_szShelf_f a0_0 l0_1 l0_2 a0_3 a0_4 h0_1 h0_2, Option.bind_some]
 by_cases g1 : 1048576 - (l0_1.length : Int) < 0
 ·simp only [if_pos g1, show ((-1 : Int) < 0) = True from by simp, if_true]
  exact Ev.now _
 by_cases g2 : 1048576 - (l0_1.length : Int) - (l0_2.length : Int) < 0
 ·simp only [if_neg g1, if_pos g2, show ((-1 : Int) < 0) = True from by simp, if_true]
  exact Ev.now _
 simp only [if_neg g1, if_neg g2]
 have hsn : l0_1.length ≤ 1048576 ∧ l0_2.length ≤ 1048576 := by omega
 have hs := ev_spec_LostProof a0_0 l0_1 l0_2 a0_3 a0_4 h0_1 h0_2
 have hi := ev_impl_LostProof a0_0 l0_1 l0_2 a0_3 a0_4 h0_1 h0_2
 have hlen := lostProofV_len a0_0 l0_1 l0_2 a0_3 a0_4
 generalize lostProofV a0_0 l0_1 l0_2 a0_3 a0_4 = v at hs hi hlen
 obtain ⟨v, b⟩ := v
 dsimp only at hlen
 have hv : v.length ≤ 1048576 := by omega
 repeat first
  | exact Ev.now _
  | (refine Ev.bind ht ?_; try dsimp only)
  | (refine Ev.bind hs ?_; try dsimp only)
  | (refine Ev.bind hi ?_; try dsimp only)
  | (refine Ev.bind (ev_laws_toIntS _ (by first | assumption | omega)) ?_; try dsimp only)
  | (refine Ev.bind (ev_laws_toShelf _ _ _ _ _ (by first | assumption | omega)) ?_; try dsimp only)
  | (refine Ev.bind (ev_laws_eqIntS_self _ (by first | assumption | omega)) ?_; try dsimp only)
  | (refine Ev.bind (ev_laws_eqShelf_self _ _ _ _ _ (by first | assumption | omega)) ?_; try dsimp only)
  | (refine Ev.bind (ev_laws_markIntS _ _ (by first | assumption | omega) (by first | assumption | omega) (by first | assumption | omega)) ?_; try dsimp only)
  | (refine Ev.bind (ev_laws_markShelf _ _ _ _ _ _ (by first | assumption | omega) (by first | assumption | omega) (by first | assumption | omega)) ?_; try dsimp only)
  | (refine Ev.bind (ev_laws_heldIntS _ _ (by first | assumption | omega) (by first | assumption | omega) (by first | assumption | omega)) ?_; try dsimp only)
  | (refine ev_ite (fun h => absurd h (by omega)) (fun _ => ?_))
  | (refine ev_ite (fun _ => ?_) (fun h => absurd (by omega) h))
  | (simp only [bne_self_eq_false, Bool.false_eq_true, ↓reduceIte])
  | (refine ev_succ ?_; simp only [laws_FnExactLostProof.j0])
  | (refine ev_succ ?_; simp only [laws_FnExactLostProof.j1])
  | (refine ev_succ ?_; simp only [laws_FnExactLostProof.j2])

end Go.Proofs.Ytgkjnhajomjhcaa.Pure
