/- The pure side of FnExactLifeGains: what the program's text computes and what the reference's text computes are the same value, for every argument. No condition. -/
import Derived.Test.YtgkjnhajomjhcaaPFnExactLifeGainsx7
namespace Go.Proofs.Ytgkjnhajomjhcaa.Pure
open Go.RowKit Go.Proofs.Ytgkjnhajomjhcaa.PFnExactLifeGains Go.Proofs.YtgkjnhajomjhcaaW.PrintWords Go.Proofs.YtgkjnhajomjhcaaW.PrintLast
set_option linter.unusedVariables false
set_option linter.unusedSimpArgs false

theorem ev_succ {α : Type} {g : Nat → Option α} {r : α} (h : Ev (fun k => g (k + 1)) r) : Ev g r := Ev.step (fun _ => rfl) h
theorem ev_pure {α : Type} {x : Option α} {r : α} (h : x = some r) : Ev (fun _ => x) r := ⟨0, fun _ _ => h⟩
theorem ev_eq {α : Type} {g : Nat → Option α} {r r' : α} (h : Ev g r) (e : r = r') : Ev g r' := e ▸ h
theorem ev_ite {α : Type} {c : Prop} [Decidable c] {g f : Nat → Option α} {r : α} (h1 : c → Ev g r) (h2 : ¬ c → Ev f r) : Ev (fun k => if c then g k else f k) r := by
 by_cases h : c
 ·simp only [h, if_true]; exact h1 h
 ·simp only [h, if_false]; exact h2 h
theorem w64 {x : Int} (h : -9223372036854775808 ≤ x) (h' : x ≤ 9223372036854775807) : wrap64 x = x := by unfold wrap64; omega
theorem w64_zero : wrap64 0 = 0 := w64 (by omega) (by omega)
theorem w64_idem (x : Int) : wrap64 (wrap64 x) = wrap64 x := by unfold wrap64; omega
theorem w64_add_l (x y : Int) : wrap64 (wrap64 x + y) = wrap64 (x + y) := by unfold wrap64; omega
theorem w64_add_r (x y : Int) : wrap64 (x + wrap64 y) = wrap64 (x + y) := by unfold wrap64; omega
theorem w64_sub_l (x y : Int) : wrap64 (wrap64 x - y) = wrap64 (x - y) := by unfold wrap64; omega
theorem w64_sub_r (x y : Int) : wrap64 (x - wrap64 y) = wrap64 (x - y) := by unfold wrap64; omega
theorem w64_shift (x k : Int) : wrap64 (x + 18446744073709551616 * k) = wrap64 x := by unfold wrap64; omega
theorem w64_ex (x : Int) : ∃ k, wrap64 x = x + 18446744073709551616 * k := by
 unfold wrap64
 exact ⟨-((x + 9223372036854775808) / 18446744073709551616), by omega⟩
theorem w64_mul_l (x y : Int) : wrap64 (wrap64 x * y) = wrap64 (x * y) := by
 obtain ⟨k, hk⟩ := w64_ex x
 rw [hk, Int.add_mul, Int.mul_assoc, w64_shift]
theorem w64_mul_r (x y : Int) : wrap64 (x * wrap64 y) = wrap64 (x * y) := by
 rw [Int.mul_comm, w64_mul_l, Int.mul_comm]
theorem w64_neg (x : Int) : wrap64 (-wrap64 x) = wrap64 (-x) := by unfold wrap64; omega
theorem w64_range (x : Int) : -9223372036854775808 ≤ wrap64 x ∧ wrap64 x ≤ 9223372036854775807 := by unfold wrap64; omega
theorem w64_nat {i n : Nat} (h : i < n) (hn : n ≤ 9223372036854775807) : wrap64 ((i : Int) + 1) = ((i + 1 : Nat) : Int) := by rw [w64 (by omega) (by omega)]; rfl
theorem wf_range {x : Int} (h : (Lit.int .i64 x).wf = true) : -9223372036854775808 ≤ x ∧ x ≤ 9223372036854775807 := by
 simp [Lit.wf, IntKind.min, IntKind.max, IntKind.signed, IntKind.bits] at h
 omega
theorem rd_nat {l : List Int} {i : Nat} (h : i < l.length) : rd l (i : Int) = l[i] := by
 unfold rd
 simp [List.getD_eq_getElem?_getD, h]
def allB (l : List Int) (a b : Int) : Bool := l.all fun x => decide (a ≤ x ∧ x ≤ b)
def inB (x a b : Int) : Bool := decide (a ≤ x ∧ x ≤ b)
theorem allB_mem {l : List Int} {a b : Int} (h : allB l a b = true) : ∀ x ∈ l, a ≤ x ∧ x ≤ b := by
 intro x hx
 have := List.all_eq_true.1 h x hx
 simpa using this
theorem inB_iff {x a b : Int} : inB x a b = true ↔ a ≤ x ∧ x ≤ b := by unfold inB; simp
theorem sum_le {l : List Int} {b : Int} (hb : ∀ x ∈ l, x ≤ b) : l.sum ≤ l.length * b := by
 induction l with
 | nil => simp
 | cons x l ih =>
  have h1 := hb x (by simp)
  have h2 := ih (fun y hy => hb y (by simp [hy]))
  rw [List.sum_cons, List.length_cons]
  have : ((l.length + 1 : Nat) : Int) * b = l.length * b + b := by rw [Int.natCast_add, Int.add_mul]; simp
  rw [this]; omega
theorem le_sum {l : List Int} {b : Int} (hb : ∀ x ∈ l, b ≤ x) : l.length * b ≤ l.sum := by
 induction l with
 | nil => simp
 | cons x l ih =>
  have h1 := hb x (by simp)
  have h2 := ih (fun y hy => hb y (by simp [hy]))
  rw [List.sum_cons, List.length_cons]
  have : ((l.length + 1 : Nat) : Int) * b = l.length * b + b := by rw [Int.natCast_add, Int.add_mul]; simp
  rw [this]; omega
theorem drop_cons {α : Type} {l : List α} {i : Nat} (h : i < l.length) : l.drop i = l[i] :: l.drop (i + 1) := List.drop_eq_getElem_cons h
theorem ev_yes {α : Type} {c : Prop} [Decidable c] {g f : Nat → Option α} {r : α} (h : c) (hg : Ev g r) : Ev (fun k => if c then g k else f k) r := ev_ite (fun _ => hg) (fun hn => absurd h hn)
theorem ev_no {α : Type} {c : Prop} [Decidable c] {g f : Nat → Option α} {r : α} (h : ¬ c) (hf : Ev f r) : Ev (fun k => if c then g k else f k) r := ev_ite (fun hn => absurd hn h) (fun _ => hf)

theorem ev_laws_eqIntS_l0 (l m : List Int) (hl : l.length ≤ 9223372036854775807) (he : l.length = m.length) (d : Nat) : ∀ (i : Nat), i + d = l.length → Ev (fun k => laws_eqIntS.l0 k l m (i : Int)) (decide (l.drop i = m.drop i)) := by
 induction d with
 | zero =>
  intro i hi
  refine ev_succ ?_
  have h1 : ¬ (i : Int) < (l.length : Int) := by omega
  simp only [laws_eqIntS.l0, h1, ↓reduceIte]
  rw [List.drop_eq_nil_of_le (by omega), List.drop_eq_nil_of_le (by omega)]
  exact Ev.now _
 | succ d ih =>
  intro i hi
  refine ev_succ ?_
  have h1 : (i : Int) < (l.length : Int) := by omega
  have h2 : (i : Int) < (m.length : Int) := by omega
  have h0 : (0 : Int) ≤ (i : Int) := by omega
  have hi' : i < l.length := by omega
  have hm' : i < m.length := by omega
  simp only [laws_eqIntS.l0, h1, h2, h0, ↓reduceIte, rd_nat hi', rd_nat hm', w64_nat hi' hl]
  refine ev_ite (fun h => ?_) (fun h => ?_)
  ·refine ev_eq (ih (i + 1) (by omega)) ?_
   rw [drop_cons hi', drop_cons hm', decide_eq_decide, h, List.cons.injEq]
   exact (and_iff_right rfl).symm
  ·refine ev_eq (Ev.now _) ?_
   rw [drop_cons hi', drop_cons hm']
   symm
   rw [decide_eq_false_iff_not, List.cons.injEq]
   exact fun hc => h hc.1
theorem ev_laws_eqIntS (l m : List Int) (hl : l.length ≤ 9223372036854775807) : Ev (fun k => laws_eqIntS.f k l m) (decide (l = m)) := by
 unfold laws_eqIntS.f
 refine ev_ite (fun h => ?_) (fun h => ?_)
 ·simpa using ev_laws_eqIntS_l0 l m hl (by omega) l.length 0 (by omega)
 ·refine ev_eq (Ev.now _) ?_
  symm
  rw [decide_eq_false_iff_not]
  rintro rfl
  exact h rfl
theorem ev_laws_eqIntS_self (l : List Int) (hl : l.length ≤ 9223372036854775807) : Ev (fun k => laws_eqIntS.f k l l) true := by
 simpa using ev_laws_eqIntS l l hl

def marked (m : Int) : Nat → List Int
 | 0 => []
 | n + 1 => m :: marked (m + 1) n
theorem marked_length (m : Int) (n : Nat) : (marked m n).length = n := by
 induction n generalizing m with
 | zero => rfl
 | succ n ih => simp [marked, ih]
theorem marked_get (m : Int) (n i : Nat) (h : i < (marked m n).length) : (marked m n)[i] = m + i := by
 induction n generalizing m i with
 | zero => simp [marked] at h
 | succ n ih =>
  cases i with
  | zero => simp [marked]
  | succ i =>
   simp only [marked, List.getElem_cons_succ]
   rw [ih]
   omega
theorem ev_laws_markIntS_l0 (l0 : List Int) (hl : l0.length ≤ 4611686018427387904) (m0 : Int) (h0 : 0 ≤ m0) (h1 : m0 ≤ 1000000000) (d : Nat) : ∀ (i : Nat) (l : List Int), i + d = l.length → l.length = l0.length → Ev (fun k => laws_markIntS.l0 k l (m0 + (i : Int)) (i : Int)) (m0 + (l.length : Int), l.take i ++ marked (m0 + i) d) := by
 induction d with
 | zero =>
  intro i l hi hle
  refine ev_succ ?_
  have h1 : ¬ (i : Int) < (l.length : Int) := by omega
  simp only [laws_markIntS.l0, h1, ↓reduceIte]
  rw [List.take_of_length_le (by omega)]
  have : i = l.length := by omega
  subst this
  simp only [marked, List.append_nil]
  exact Ev.now _
 | succ d ih =>
  intro i l hi hle
  refine ev_succ ?_
  have h1' : (i : Int) < (l.length : Int) := by omega
  have h0' : (0 : Int) ≤ (i : Int) := by omega
  have hi' : i < l.length := by omega
  have e1 : wrap64 (m0 + (i : Int) + 1) = m0 + ((i + 1 : Nat) : Int) := by rw [w64 (by omega) (by omega)]; omega
  simp only [laws_markIntS.l0, h1', h0', ↓reduceIte, w64_nat hi' (by omega : l.length ≤ 9223372036854775807), Int.toNat_natCast, e1]
  refine ev_eq (ih (i + 1) (l.set i (m0 + (i : Int))) (by simp; omega) (by simp [hle])) ?_
  rw [List.length_set]
  congr 1
  rw [List.take_add_one]
  simp only [List.getElem?_set_self hi', List.take_set_of_le (Nat.le_refl i)]
  simp only [Option.toList_some, List.append_assoc, List.singleton_append, marked]
  congr 3
  omega
theorem ev_laws_markIntS (l : List Int) (m : Int) (hl : l.length ≤ 4611686018427387904) (h0 : 0 ≤ m) (h1 : m ≤ 1000000000) : Ev (fun k => laws_markIntS.f k l m) (m + (l.length : Int), marked m l.length) := by
 unfold laws_markIntS.f
 simpa using ev_laws_markIntS_l0 l hl m h0 h1 l.length 0 l (by omega) rfl

theorem ev_laws_heldIntS_l0 (m0 : Int) (n : Nat) (hn : n ≤ 4611686018427387904) (h0 : 0 ≤ m0) (h1 : m0 ≤ 1000000000) (d : Nat) : ∀ (i : Nat), i + d = n → Ev (fun k => laws_heldIntS.l0 k (marked m0 n) (m0 + (i : Int)) (i : Int)) (m0 + (n : Int)) := by
 induction d with
 | zero =>
  intro i hi
  refine ev_succ ?_
  have h1 : ¬ (i : Int) < ((marked m0 n).length : Int) := by rw [marked_length]; omega
  simp only [laws_heldIntS.l0, h1, ↓reduceIte]
  have : i = n := by omega
  subst this
  exact Ev.now _
 | succ d ih =>
  intro i hi
  refine ev_succ ?_
  have h1' : (i : Int) < ((marked m0 n).length : Int) := by rw [marked_length]; omega
  have h0' : (0 : Int) ≤ (i : Int) := by omega
  have hi' : i < (marked m0 n).length := by rw [marked_length]; omega
  have e1 : wrap64 (m0 + (i : Int) + 1) = m0 + ((i + 1 : Nat) : Int) := by rw [w64 (by omega) (by omega)]; omega
  have e2 : wrap64 ((i : Int) + 1) = ((i + 1 : Nat) : Int) := w64_nat (n := n) (by omega) (by omega)
  simp only [laws_heldIntS.l0, h1', h0', ↓reduceIte, rd_nat hi', marked_get, e1, e2]
  exact ih (i + 1) (by omega)
theorem ev_laws_heldIntS (m : Int) (n : Nat) (hn : n ≤ 4611686018427387904) (h0 : 0 ≤ m) (h1 : m ≤ 1000000000) : Ev (fun k => laws_heldIntS.f k (marked m n) m) (m + (n : Int)) := by
 unfold laws_heldIntS.f
 simpa using ev_laws_heldIntS_l0 m n hn h0 h1 n 0 (by omega)

theorem laws_szIntS_le (l : List Int) (hl : l.length ≤ 1048576) : laws_szIntS.f l 1048576 = some (1048576 - (l.length : Int)) := by
 unfold laws_szIntS.f
 rw [w64 (by omega) (by omega), if_neg (by omega)]
theorem laws_szIntS_gt (l : List Int) (h : l.length ≤ 9223372036854775807) (hl : 1048576 < l.length) : laws_szIntS.f l 1048576 = some (-1) := by
 unfold laws_szIntS.f
 rw [w64 (by omega) (by omega), if_pos (by omega)]
theorem laws_szIntS_f (l : List Int) (t : Int) (h : l.length ≤ 9223372036854775807) (h0 : 0 ≤ t) (h1 : t ≤ 1048576) : laws_szIntS.f l t = some (if t - (l.length : Int) < 0 then -1 else t - (l.length : Int)) := by
 unfold laws_szIntS.f
 rw [w64 (by omega) (by omega)]
 by_cases hc : t - (l.length : Int) < 0
 ·rw [if_pos hc, if_pos hc]
 ·rw [if_neg hc, if_neg hc]

theorem laws_szCase_f (a b c d : List Int) (ha : a.length ≤ 9223372036854775807) (hb : b.length ≤ 9223372036854775807) (hc : c.length ≤ 9223372036854775807) (hd : d.length ≤ 9223372036854775807) : laws_szCase.f a b c d 1048576 = some (-1) ∨ (∃ z, laws_szCase.f a b c d 1048576 = some z ∧ 0 ≤ z ∧ a.length ≤ 1048576 ∧ b.length ≤ 1048576 ∧ c.length ≤ 1048576 ∧ d.length ≤ 1048576) := by
 have m1 : ((-1 : Int) < 0) = True := by simp
 unfold laws_szCase.f
 rw [laws_szIntS_f a 1048576 ha (by omega) (by omega), Option.bind_some]
 by_cases h1 : 1048576 - (a.length : Int) < 0
 ·left; simp only [h1, m1, ↓reduceIte]
 ·simp only [h1, ↓reduceIte, laws_szIntS_f b _ hb (by omega : 0 ≤ 1048576 - (a.length : Int)) (by omega), Option.bind_some]
  by_cases h2 : 1048576 - (a.length : Int) - (b.length : Int) < 0
  ·left; simp only [h2, m1, ↓reduceIte]
  ·simp only [h2, ↓reduceIte, laws_szIntS_f c _ hc (by omega : 0 ≤ 1048576 - (a.length : Int) - (b.length : Int)) (by omega), Option.bind_some]
   by_cases h3 : 1048576 - (a.length : Int) - (b.length : Int) - (c.length : Int) < 0
   ·left; simp only [h3, m1, ↓reduceIte]
   ·simp only [h3, ↓reduceIte, laws_szIntS_f d _ hd (by omega : 0 ≤ 1048576 - (a.length : Int) - (b.length : Int) - (c.length : Int)) (by omega), Option.bind_some]
    by_cases h4 : 1048576 - (a.length : Int) - (b.length : Int) - (c.length : Int) - (d.length : Int) < 0
    ·left; simp only [h4, m1, ↓reduceIte]
    ·right
     simp only [h4, ↓reduceIte]
     exact ⟨_, rfl, by omega, by omega, by omega, by omega, by omega⟩

theorem ev_laws_toIntS_l0 (l : List Int) (hl : l.length ≤ 9223372036854775807) (d : Nat) : ∀ (i : Nat) (o : List Int), i + d = l.length → o.length = l.length → Ev (fun k => laws_toIntS.l0 k l o (i : Int)) (o.take i ++ l.drop i) := by
 induction d with
 | zero =>
  intro i o hi ho
  refine ev_succ ?_
  have h1 : ¬ (i : Int) < (l.length : Int) := by omega
  simp only [laws_toIntS.l0, h1, ↓reduceIte]
  rw [List.drop_eq_nil_of_le (by omega), List.take_of_length_le (by omega), List.append_nil]
  exact Ev.now _
 | succ d ih =>
  intro i o hi ho
  refine ev_succ ?_
  have h1 : (i : Int) < (l.length : Int) := by omega
  have h2 : (i : Int) < (o.length : Int) := by omega
  have h0 : (0 : Int) ≤ (i : Int) := by omega
  have hi' : i < l.length := by omega
  simp only [laws_toIntS.l0, h1, h2, h0, ↓reduceIte, rd_nat hi', w64_nat hi' hl, Int.toNat_natCast]
  refine ev_eq (ih (i + 1) _ (by omega) (by simp [ho])) ?_
  rw [drop_cons hi', List.take_add_one]
  simp [ho, hi', List.take_set_of_le (Nat.le_refl i)]
theorem ev_laws_toIntS (l : List Int) (hl : l.length ≤ 1048576) : Ev (fun k => laws_toIntS.f k l) l := by
 unfold laws_toIntS.f
 have h0 : (0 : Int) ≤ (l.length : Int) := by omega
 have h1 : ((l.length : Int) : Int).toNat ≤ 35184372088832 := by omega
 simp only [h0, h1, ↓reduceIte]
 simpa using ev_laws_toIntS_l0 l (by omega) l.length 0 (List.replicate ((l.length : Int) : Int).toNat 0) (by omega) (by simp)

theorem ev_laws_toCase (a b c d : List Int) (h : a.length ≤ 1048576 ∧ b.length ≤ 1048576 ∧ c.length ≤ 1048576 ∧ d.length ≤ 1048576) : Ev (fun k => laws_toCase.f k a b c d) (a, b, c, d) := by
 unfold laws_toCase.f
 refine Ev.bind (ev_laws_toIntS a h.1) ?_
 refine Ev.bind (ev_laws_toIntS b h.2.1) ?_
 refine Ev.bind (ev_laws_toIntS c h.2.2.1) ?_
 refine Ev.bind (ev_laws_toIntS d h.2.2.2) ?_
 exact Ev.now _

theorem ev_laws_eqCase_self (a b c d : List Int) (h : a.length ≤ 1048576 ∧ b.length ≤ 1048576 ∧ c.length ≤ 1048576 ∧ d.length ≤ 1048576) : Ev (fun k => laws_eqCase.f k a b c d a b c d) true := by
 unfold laws_eqCase.f
 refine Ev.bind (ev_laws_eqIntS_self a (by omega)) ?_
 simp only [↓reduceIte]
 refine Ev.bind (ev_laws_eqIntS_self b (by omega)) ?_
 simp only [↓reduceIte]
 refine Ev.bind (ev_laws_eqIntS_self c (by omega)) ?_
 simp only [↓reduceIte]
 refine Ev.bind (ev_laws_eqIntS_self d (by omega)) ?_
 simp only [↓reduceIte]
 exact Ev.now _

theorem ev_laws_markCase (a b c d : List Int) (x : Int) (h : a.length ≤ 1048576 ∧ b.length ≤ 1048576 ∧ c.length ≤ 1048576 ∧ d.length ≤ 1048576) (h0 : 0 ≤ x) (h1 : x ≤ 1000000) : Ev (fun k => laws_markCase.f k a b c d x) (x + (a.length : Int) + (b.length : Int) + (c.length : Int) + (d.length : Int), marked x a.length, marked (x + (a.length : Int)) b.length, marked (x + (a.length : Int) + (b.length : Int)) c.length, marked (x + (a.length : Int) + (b.length : Int) + (c.length : Int)) d.length) := by
 unfold laws_markCase.f
 refine Ev.bind (ev_laws_markIntS a x (by omega) h0 (by omega)) ?_
 refine Ev.bind (ev_laws_markIntS b _ (by omega) (by dsimp only; omega) (by dsimp only; omega)) ?_
 refine Ev.bind (ev_laws_markIntS c _ (by omega) (by dsimp only; omega) (by dsimp only; omega)) ?_
 refine Ev.bind (ev_laws_markIntS d _ (by omega) (by dsimp only; omega) (by dsimp only; omega)) ?_
 exact Ev.now _

theorem bits_one (n : Nat) (h : n < 9223372036854775808) : Go.bits .and .i64 (n : Int) 1 = ((n % 2 : Nat) : Int) := by
 have h1 : (BitVec.ofInt 64 (n : Int)).toNat = n := by
  rw [BitVec.ofInt_natCast, BitVec.toNat_ofNat]; exact Nat.mod_eq_of_lt (by omega)
 show IntKind.i64.wrap ((BitVec.ofInt 64 (n : Int) &&& BitVec.ofInt 64 1).toNat : Int) = _
 rw [BitVec.toNat_and, h1, show (BitVec.ofInt 64 1).toNat = 1 from rfl, Nat.and_one_is_mod, i64_w, w64 (by omega) (by omega)]
theorem bit_test (c i : Nat) (hc : c < 256) (hi : i ≤ 8) : (Go.bits .and .i64 (shr .i64 (c : Int) (i : Int)) 1 = 1) ↔ c.testBit i = true := by
 have h1 : shr .i64 (c : Int) (i : Int) = ((c / 2 ^ i : Nat) : Int) := by
  unfold shr
  rw [Int.toNat_natCast, Nat.min_eq_left (by show i ≤ 64; omega)]
  simp
 have h2 : c / 2 ^ i ≤ c := Nat.div_le_self _ _
 rw [h1, bits_one _ (by omega), Nat.testBit_eq_decide_div_mod_eq]
 simp only [decide_eq_true_eq]
 omega
def bitsV (c : Nat) : Nat → Nat → List Int
 | 0, _ => []
 | d + 1, i => if c.testBit i = true then (i : Int) :: bitsV c d (i + 1) else bitsV c d (i + 1)
theorem bitsV_mem {c : Nat} {x : Int} : ∀ (d i : Nat), x ∈ bitsV c d i ↔ ∃ j : Nat, i ≤ j ∧ j < i + d ∧ c.testBit j = true ∧ x = (j : Int)
 | 0, i => by
  simp only [bitsV, List.not_mem_nil, false_iff]
  rintro ⟨j, h1, h2, _⟩
  omega
 | d + 1, i => by
  rw [bitsV]
  have ih := bitsV_mem (c := c) (x := x) d (i + 1)
  constructor
  ·intro h
   by_cases hb : c.testBit i = true
   ·rw [if_pos hb] at h
    rcases List.mem_cons.1 h with h | h
    ·exact ⟨i, Nat.le_refl _, by omega, hb, h⟩
    ·obtain ⟨j, a, b, e⟩ := ih.1 h
     exact ⟨j, by omega, by omega, e⟩
   ·rw [if_neg hb] at h
    obtain ⟨j, a, b, e⟩ := ih.1 h
    exact ⟨j, by omega, by omega, e⟩
  ·rintro ⟨j, a, b, e, hx⟩
   by_cases hj : j = i
   ·subst hj
    rw [if_pos e, hx]
    exact List.mem_cons_self ..
   ·have h2 := ih.2 ⟨j, by omega, by omega, e, hx⟩
    by_cases hb : c.testBit i = true
    ·rw [if_pos hb]; exact List.mem_cons_of_mem _ h2
    ·rw [if_neg hb]; exact h2
theorem bitsV_len (c : Nat) : ∀ d i : Nat, (bitsV c d i).length ≤ d
 | 0, i => Nat.le_refl _
 | d + 1, i => by
  rw [bitsV]
  have := bitsV_len c d (i + 1)
  by_cases hb : c.testBit i = true
  ·rw [if_pos hb, List.length_cons]; omega
  ·rw [if_neg hb]; omega
def setsV (n : Nat) : List (List Int) := (List.range (2 ^ n)).map fun c => bitsV c n 0
theorem setsV_len (n : Nat) : (setsV n).length = 2 ^ n := by unfold setsV; simp
theorem bitsV_inj {n c e : Nat} (hc : c < 2 ^ n) (he : e < 2 ^ n) (h : bitsV c n 0 = bitsV e n 0) : c = e := by
 refine Nat.eq_of_testBit_eq (fun i => ?_)
 by_cases hi : i < n
 ·have h1 := bitsV_mem (c := c) (x := (i : Int)) n 0
  have h2 := bitsV_mem (c := e) (x := (i : Int)) n 0
  rw [h] at h1
  have h3 := h1.symm.trans h2
  rw [Bool.eq_iff_iff]
  constructor
  ·intro g
   obtain ⟨j, _, _, a, b⟩ := h3.1 ⟨i, by omega, by omega, g, rfl⟩
   rw [show i = j by omega]; exact a
  ·intro g
   obtain ⟨j, _, _, a, b⟩ := h3.2 ⟨i, by omega, by omega, g, rfl⟩
   rw [show i = j by omega]; exact a
 ·have hp : 2 ^ n ≤ 2 ^ i := Nat.pow_le_pow_right (by omega) (by omega)
  rw [Nat.testBit_lt_two_pow (by omega), Nat.testBit_lt_two_pow (by omega)]
theorem setsV_nodup (n : Nat) : (setsV n).Nodup := by
 unfold setsV
 refine List.pairwise_map.2 (List.Pairwise.imp_of_mem (fun ha hb hne e => hne ?_) List.nodup_range)
 exact bitsV_inj (List.mem_range.1 ha) (List.mem_range.1 hb) e
theorem setsV_mem {n : Nat} {s : List Int} (h : s ∈ setsV n) : s.length ≤ n ∧ ∀ x ∈ s, 0 ≤ x ∧ x < (n : Int) := by
 unfold setsV at h
 obtain ⟨c, _, rfl⟩ := List.mem_map.1 h
 refine ⟨bitsV_len c n 0, fun x hx => ?_⟩
 obtain ⟨j, _, h2, _, rfl⟩ := (bitsV_mem n 0).1 hx
 omega
theorem setsV_full (n : Nat) : ∃ s ∈ setsV n, ∀ j : Nat, j < n → (j : Int) ∈ s := by
 have hp : 0 < 2 ^ n := Nat.pow_pos (by omega)
 refine ⟨bitsV (2 ^ n - 1) n 0, List.mem_map.2 ⟨2 ^ n - 1, List.mem_range.2 (by omega), rfl⟩, fun j hj => ?_⟩
 refine (bitsV_mem n 0).2 ⟨j, by omega, by omega, ?_, rfl⟩
 rw [Nat.testBit_two_pow_sub_one]
 simpa using hj
theorem pow8 {n : Nat} (h : n ≤ 8) : 1 ≤ 2 ^ n ∧ 2 ^ n ≤ 256 := ⟨Nat.pow_pos (by omega), (Nat.pow_le_pow_right (by omega) h : 2 ^ n ≤ 2 ^ 8)⟩
theorem shl_pow {n : Nat} (h : n ≤ 8) : shl .i64 1 (n : Int) = ((2 ^ n : Nat) : Int) := by
 have := pow8 h
 unfold shl
 rw [Int.toNat_natCast, Nat.min_eq_left (by show n ≤ 64; omega), Int.one_mul, i64_w]
 have e : (2 : Int) ^ n = ((2 ^ n : Nat) : Int) := by simp
 rw [e, w64 (by omega) (by omega)]
theorem setsV_get {n c : Nat} (h : c < (setsV n).length) : (setsV n)[c] = bitsV c n 0 := by
 have hc : c < 2 ^ n := by rw [← setsV_len n]; exact h
 have e : (setsV n)[c]? = some (bitsV c n 0) := by unfold setsV; rw [List.getElem?_map, List.getElem?_range hc]; rfl
 exact Option.some.inj ((List.getElem?_eq_getElem h).symm.trans e)

theorem ev_spec_l2Bits_l0 (n c : Nat) (hn : n ≤ 8) (hc : c < 256) (d : Nat) : ∀ (i : Nat) (o : List Int), i + d = n → o.length ≤ i → Ev (fun k => spec_l2Bits.l0 k (n : Int) (c : Int) o (i : Int)) (o ++ bitsV c d i) := by
 induction d with
 | zero =>
  intro i o hi ho
  refine ev_succ ?_
  have c1 : ¬ (i : Int) < (n : Int) := by omega
  simp only [spec_l2Bits.l0, c1, ↓reduceIte, bitsV, List.append_nil]
  exact Ev.now _
 | succ d ih =>
  intro i o hi ho
  refine ev_succ ?_
  have c1 : (i : Int) < (n : Int) := by omega
  have c2 : (0 : Int) ≤ (i : Int) := by omega
  have c3 : o.length < 17592186044416 := by omega
  have hb := bit_test c i hc (by omega)
  have hw := w64_nat (show i < n by omega) (show n ≤ 9223372036854775807 by omega)
  simp only [spec_l2Bits.l0, c1, c2, c3, ↓reduceIte, hw]
  rw [bitsV]
  by_cases h : c.testBit i = true
  ·rw [if_pos h]
   simp only [if_pos (hb.2 h)]
   refine ev_eq (ih (i + 1) _ (by omega) (by rw [List.length_append, List.length_singleton]; omega)) ?_
   rw [List.append_assoc]
   rfl
  ·rw [if_neg h]
   simp only [if_neg (fun q => h (hb.1 q))]
   exact ih (i + 1) _ (by omega) (by omega)
theorem ev_spec_l2Bits (n c : Nat) (hn : n ≤ 8) (hc : c < 256) : Ev (fun k => spec_l2Bits.f k (n : Int) (c : Int)) (bitsV c n 0) := by
 unfold spec_l2Bits.f
 simpa using ev_spec_l2Bits_l0 n c hn hc n 0 [] (by omega) (Nat.le_refl _)

def fI (F : List Int → Option Int) : List (List Int) → List Int × Int → List Int × Int
 | [], r => r
 | s :: t, r => fI F t (match F s with
  | some c => if c < r.2 then (s, c) else r
  | none => r)
def fS (F : List Int → Option Int) : List (List Int) → List Int × Int → List Int × Int
 | [], r => r
 | s :: t, r => fS F t (match F s with
  | some c => if r.2 < 0 ∨ c < r.2 ∨ c = r.2 ∧ slices_SortFunc_int_int.cmpL s r.1 < 0 then (s, c) else r
  | none => r)
theorem fI_spec (F : List Int → Option Int) : ∀ (l : List (List Int)) (r : List Int × Int), l.Pairwise (fun a b => ¬ slices_SortFunc_int_int.cmpL b a < 0) →
  (fI F l r = r ∧ ∀ s ∈ l, ∀ c, F s = some c → r.2 ≤ c) ∨ ((fI F l r).1 ∈ l ∧ F (fI F l r).1 = some (fI F l r).2 ∧ (fI F l r).2 < r.2 ∧ ∀ s ∈ l, ∀ c, F s = some c → (fI F l r).2 < c ∨ ((fI F l r).2 = c ∧ ¬ slices_SortFunc_int_int.cmpL s (fI F l r).1 < 0))
 | [], r, _ => Or.inl ⟨rfl, fun s hs => by simp at hs⟩
 | s :: t, r, h => by
  have h2 := List.pairwise_cons.1 h
  rw [fI]
  cases hF : F s with
  | none =>
   rcases fI_spec F t r h2.2 with ⟨a, b⟩ | ⟨a, b, c, d⟩
   ·refine Or.inl ⟨a, fun x hx c hc => ?_⟩
    rcases List.mem_cons.1 hx with hx | hx
    ·rw [hx, hF] at hc; cases hc
    ·exact b x hx c hc
   ·refine Or.inr ⟨List.mem_cons_of_mem _ a, b, c, fun x hx c hc => ?_⟩
    rcases List.mem_cons.1 hx with hx | hx
    ·rw [hx, hF] at hc; cases hc
    ·exact d x hx c hc
  | some c0 =>
   dsimp only
   by_cases hc0 : c0 < r.2
   ·rw [if_pos hc0]
    rcases fI_spec F t (s, c0) h2.2 with ⟨a, b⟩ | ⟨a, b, c, d⟩
    ·rw [a]
     refine Or.inr ⟨List.mem_cons_self .., hF, hc0, fun x hx c hc => ?_⟩
     rcases List.mem_cons.1 hx with hx | hx
     ·rw [hx, hF] at hc
      injection hc with hc
      refine Or.inr ⟨hc, ?_⟩
      rw [hx, slices_SortFunc_int_int.cmpL_refl]
      omega
     ·have := b x hx c hc
      dsimp only at this
      by_cases he : c0 = c
      ·exact Or.inr ⟨he, h2.1 x hx⟩
      ·exact Or.inl (by dsimp only; omega)
    ·refine Or.inr ⟨List.mem_cons_of_mem _ a, b, by dsimp only at c; omega, fun x hx c1 hc => ?_⟩
     rcases List.mem_cons.1 hx with hx | hx
     ·rw [hx, hF] at hc
      injection hc with hc
      dsimp only at c
      exact Or.inl (by omega)
     ·exact d x hx c1 hc
   ·rw [if_neg hc0]
    rcases fI_spec F t r h2.2 with ⟨a, b⟩ | ⟨a, b, c, d⟩
    ·refine Or.inl ⟨a, fun x hx c hc => ?_⟩
     rcases List.mem_cons.1 hx with hx | hx
     ·rw [hx, hF] at hc
      injection hc with hc
      omega
     ·exact b x hx c hc
    ·refine Or.inr ⟨List.mem_cons_of_mem _ a, b, c, fun x hx c1 hc => ?_⟩
     rcases List.mem_cons.1 hx with hx | hx
     ·rw [hx, hF] at hc
      injection hc with hc
      exact Or.inl (by omega)
     ·exact d x hx c1 hc
theorem fS_spec (F : List Int → Option Int) (hnn : ∀ s c, F s = some c → 0 ≤ c) : ∀ (l : List (List Int)) (r : List Int × Int),
  (fS F l r = r ∧ ∀ s ∈ l, ∀ c, F s = some c → 0 ≤ r.2 ∧ (r.2 < c ∨ (r.2 = c ∧ ¬ slices_SortFunc_int_int.cmpL s r.1 < 0))) ∨ ((fS F l r).1 ∈ l ∧ F (fS F l r).1 = some (fS F l r).2 ∧ (r.2 < 0 ∨ (fS F l r).2 < r.2 ∨ ((fS F l r).2 = r.2 ∧ slices_SortFunc_int_int.cmpL (fS F l r).1 r.1 < 0)) ∧ ∀ s ∈ l, ∀ c, F s = some c → (fS F l r).2 < c ∨ ((fS F l r).2 = c ∧ ¬ slices_SortFunc_int_int.cmpL s (fS F l r).1 < 0))
 | [], r => Or.inl ⟨rfl, fun s hs => by simp at hs⟩
 | s :: t, r => by
  rw [fS]
  cases hF : F s with
  | none =>
   rcases fS_spec F hnn t r with ⟨a, b⟩ | ⟨a, b, c, d⟩
   ·refine Or.inl ⟨a, fun x hx c hc => ?_⟩
    rcases List.mem_cons.1 hx with hx | hx
    ·rw [hx, hF] at hc; cases hc
    ·exact b x hx c hc
   ·refine Or.inr ⟨List.mem_cons_of_mem _ a, b, c, fun x hx c hc => ?_⟩
    rcases List.mem_cons.1 hx with hx | hx
    ·rw [hx, hF] at hc; cases hc
    ·exact d x hx c hc
  | some c0 =>
   have hp := hnn s c0 hF
   dsimp only
   by_cases hc0 : r.2 < 0 ∨ c0 < r.2 ∨ c0 = r.2 ∧ slices_SortFunc_int_int.cmpL s r.1 < 0
   ·rw [if_pos hc0]
    rcases fS_spec F hnn t (s, c0) with ⟨a, b⟩ | ⟨a, b, c, d⟩
    ·rw [a]
     refine Or.inr ⟨List.mem_cons_self .., hF, hc0, fun x hx c hc => ?_⟩
     rcases List.mem_cons.1 hx with hx | hx
     ·rw [hx, hF] at hc
      injection hc with hc
      refine Or.inr ⟨hc, ?_⟩
      rw [hx, slices_SortFunc_int_int.cmpL_refl]
      omega
     ·exact (b x hx c hc).2
    ·dsimp only at c
     refine Or.inr ⟨List.mem_cons_of_mem _ a, b, ?_, fun x hx c1 hc => ?_⟩
     ·rcases c with c | c | c
      ·omega
      ·rcases hc0 with g | g | g
       ·exact Or.inl g
       ·exact Or.inr (Or.inl (by omega))
       ·exact Or.inr (Or.inl (by omega))
      ·rcases hc0 with g | g | g
       ·exact Or.inl g
       ·exact Or.inr (Or.inl (by omega))
       ·exact Or.inr (Or.inr ⟨by omega, slices_SortFunc_int_int.cmpL_trans c.2 g.2⟩)
     ·rcases List.mem_cons.1 hx with hx | hx
      ·rw [hx, hF] at hc
       injection hc with hc
       rcases c with c | c | c
       ·omega
       ·exact Or.inl (by omega)
       ·refine Or.inr ⟨by omega, ?_⟩
        rw [hx]
        have := slices_SortFunc_int_int.cmpL_neg s (fS F t (s, c0)).1
        omega
      ·exact d x hx c1 hc
   ·rw [if_neg hc0]
    have g1 : ¬ r.2 < 0 := fun g => hc0 (Or.inl g)
    have g2 : ¬ c0 < r.2 := fun g => hc0 (Or.inr (Or.inl g))
    have g3 : c0 = r.2 → ¬ slices_SortFunc_int_int.cmpL s r.1 < 0 := fun e g => hc0 (Or.inr (Or.inr ⟨e, g⟩))
    rcases fS_spec F hnn t r with ⟨a, b⟩ | ⟨a, b, c, d⟩
    ·refine Or.inl ⟨a, fun x hx c hc => ?_⟩
     rcases List.mem_cons.1 hx with hx | hx
     ·rw [hx, hF] at hc
      injection hc with hc
      rw [hx]
      by_cases he : c0 = r.2
      ·exact ⟨by omega, Or.inr ⟨by omega, g3 he⟩⟩
      ·exact ⟨by omega, Or.inl (by omega)⟩
     ·exact b x hx c hc
    ·refine Or.inr ⟨List.mem_cons_of_mem _ a, b, c, fun x hx c1 hc => ?_⟩
     rcases List.mem_cons.1 hx with hx | hx
     ·rw [hx, hF] at hc
      injection hc with hc
      rw [hx]
      rcases c with c | c | c
      ·exact absurd c g1
      ·exact Or.inl (by omega)
      ·by_cases he : c0 = r.2
       ·refine Or.inr ⟨by omega, fun g => ?_⟩
        exact g3 he (slices_SortFunc_int_int.cmpL_trans g c.2)
       ·exact Or.inl (by omega)
     ·exact d x hx c1 hc
theorem best_same {F : List Int → Option Int} {SS L : List (List Int)} {never : Int} (hp : L.Perm SS) (hs : L.Pairwise (fun a b => ¬ slices_SortFunc_int_int.cmpL b a < 0)) (hfeas : ∃ s ∈ SS, ∃ c, F s = some c) (hnn : ∀ s c, F s = some c → 0 ≤ c) (hlt : ∀ s ∈ SS, ∀ c, F s = some c → c < never) : fI F L ([], never) = fS F SS ([], -1) := by
 obtain ⟨s0, hs0, c0, hc0⟩ := hfeas
 rcases fI_spec F L ([], never) hs with ⟨_, b⟩ | ⟨a, b, c, d⟩
 ·have h1 := b s0 (hp.mem_iff.2 hs0) c0 hc0
  have h2 := hlt s0 hs0 c0 hc0
  dsimp only at h1
  omega
 ·rcases fS_spec F hnn SS ([], -1) with ⟨_, b'⟩ | ⟨a', b', c', d'⟩
  ·have h1 := (b' s0 hs0 c0 hc0).1
   dsimp only at h1
   omega
  ·have e1 := d _ (hp.mem_iff.2 a') _ b'
   have e2 := d' _ (hp.mem_iff.1 a) _ b
   generalize fI F L ([], never) = x at *
   generalize fS F SS ([], -1) = y at *
   have e3 := slices_SortFunc_int_int.cmpL_neg x.1 y.1
   rcases e1 with e1 | e1 <;> rcases e2 with e2 | e2
   ·omega
   ·omega
   ·omega
   ·have e4 := slices_SortFunc_int_int.cmpL_eq (a := x.1) (b := y.1) (by omega)
    exact Prod.ext e4 e1.1
theorem merge_sorted (l : List (List Int)) : (l.mergeSort slices_SortFunc_int_int.le).Pairwise (fun a b => ¬ slices_SortFunc_int_int.cmpL b a < 0) := by
 have h := List.pairwise_mergeSort (le := slices_SortFunc_int_int.le) (fun a b c h1 h2 => ?_) (fun a b => ?_) l
 ·refine h.imp (fun hab => ?_)
  unfold slices_SortFunc_int_int.le at hab
  simpa using hab
 ·unfold slices_SortFunc_int_int.le at h1 h2 ⊢
  simp only [Bool.not_eq_true', decide_eq_false_iff_not] at h1 h2 ⊢
  exact slices_SortFunc_int_int.cmpL_ntrans h2 h1
 ·unfold slices_SortFunc_int_int.le
  have := slices_SortFunc_int_int.cmpL_neg a b
  by_cases h1 : slices_SortFunc_int_int.cmpL b a < 0
  ·have h2 : ¬ slices_SortFunc_int_int.cmpL a b < 0 := by omega
   simp [h2]
  ·simp [h1]

theorem ev_spec_l2Before_l0 (a b : List Int) (hab : a.length = b.length) (ha : a.length ≤ 9223372036854775807) (d : Nat) : ∀ i : Nat, i + d = a.length → Ev (fun k => spec_l2Before.l0 k a b (i : Int)) (decide (slices_SortFunc_int_int.lexC (a.drop i) (b.drop i) < 0)) := by
 induction d with
 | zero =>
  intro i hi
  refine ev_succ ?_
  have c1 : ¬ (i : Int) < (a.length : Int) := by omega
  simp only [spec_l2Before.l0, c1, ↓reduceIte]
  rw [List.drop_eq_nil_of_le (by omega), List.drop_eq_nil_of_le (by omega)]
  exact Ev.now _
 | succ d ih =>
  intro i hi
  refine ev_succ ?_
  have hi' : i < a.length := by omega
  have hj' : i < b.length := by omega
  have c1 : (i : Int) < (a.length : Int) := by omega
  have c2 : (0 : Int) ≤ (i : Int) := by omega
  have c3 : (i : Int) < (b.length : Int) := by omega
  simp only [spec_l2Before.l0, c1, c2, c3, ↓reduceIte, rd_nat hi', rd_nat hj', w64_nat hi' ha]
  rw [drop_cons hi', drop_cons hj', slices_SortFunc_int_int.lexC]
  refine ev_ite (fun h => ?_) (fun h => ?_)
  ·rw [if_neg (by omega), if_neg (by omega)]
   exact ih (i + 1) (by omega)
  ·by_cases h2 : a[i] < b[i]
   ·rw [if_pos h2]; simp only [h2, decide_true]; exact Ev.now _
   ·rw [if_neg h2, if_pos (by omega)]; simp only [h2, decide_false]; exact Ev.now _
theorem ev_spec_l2Before (a b : List Int) (ha : a.length ≤ 9223372036854775807) : Ev (fun k => spec_l2Before.f k a b) (decide (slices_SortFunc_int_int.cmpL a b < 0)) := by
 unfold spec_l2Before.f slices_SortFunc_int_int.cmpL
 refine ev_ite (fun h => ?_) (fun h => ?_)
 ·rw [if_pos (by omega)]
  simpa using ev_spec_l2Before_l0 a b (by omega) ha a.length 0 (by omega)
 ·rw [if_neg (by omega)]
  refine ev_pure ?_
  congr 1
  rw [decide_eq_decide]
  omega

theorem rd_in {l : List Int} {a b : Int} (h : allB l a b = true) (ha : a ≤ 0) (hb : 0 ≤ b) (i : Int) : a ≤ rd l i ∧ rd l i ≤ b := by
 unfold rd
 by_cases hi : i.toNat < l.length
 ·have e : l.getD i.toNat 0 = l[i.toNat] := by simp [List.getD, hi]
  rw [e]
  exact allB_mem h _ (List.getElem_mem _)
 ·have e : l.getD i.toNat 0 = 0 := by simp [List.getD, Nat.le_of_not_lt hi]
  rw [e]
  exact ⟨ha, hb⟩
def hsum (h : List Int) : Nat → Nat → Int
 | 0, _ => 0
 | d + 1, i => rd h (i : Int) + hsum h d (i + 1)
theorem hsum_in {h : List Int} (hb : allB h 0 9 = true) : ∀ d i : Nat, 0 ≤ hsum h d i ∧ hsum h d i ≤ 9 * d
 | 0, i => ⟨Int.le_refl _, by simp [hsum]⟩
 | d + 1, i => by
  rw [hsum]
  have h1 := hsum_in hb d (i + 1)
  have h2 := rd_in hb (by omega) (by omega) (i : Int)
  omega
theorem hsum_cut (h : List Int) : ∀ (d i t : Nat), i + d = t → t ≤ h.length → ((h.take t).drop i).sum = hsum h d i
 | 0, i, t, e, ht => by
  rw [List.drop_eq_nil_of_le (by rw [List.length_take]; omega)]
  rfl
 | d + 1, i, t, e, ht => by
  have hi : i < (h.take t).length := by rw [List.length_take]; omega
  rw [drop_cons hi, List.sum_cons, hsum, hsum_cut h d (i + 1) t (by omega) ht, List.getElem_take, rd_nat (by omega)]
def rateV (u h : List Int) (s t : Int) : Int := rd u s + hsum h (t - s).toNat s.toNat
theorem rateV_in {u h : List Int} (hu : allB u 0 9 = true) (hh : allB h 0 9 = true) {s t : Int} (hs : 0 ≤ s) (ht : t ≤ 8) : 0 ≤ rateV u h s t ∧ rateV u h s t ≤ 81 := by
 unfold rateV
 have h1 := rd_in hu (by omega) (by omega) s
 have h2 := hsum_in hh (t - s).toNat s.toNat
 omega
def low1 (r : Int) : Option Int → Int
 | none => r
 | some v => mn v r
def lowV (u h : List Int) (life t : Int) : List Int → Option Int → Option Int
 | [], o => o
 | s :: ss, o => lowV u h life t ss (if s ≤ t ∧ t < s + life then some (low1 (rateV u h s t) o) else o)
def okO (o : Option Int) : Prop := ∀ v, o = some v → 0 ≤ v ∧ v ≤ 81
theorem okO_step {u h : List Int} (hu : allB u 0 9 = true) (hh : allB h 0 9 = true) {life s t : Int} (hs : 0 ≤ s) (ht : t ≤ 8) {o : Option Int} (ho : okO o) : okO (if s ≤ t ∧ t < s + life then some (low1 (rateV u h s t) o) else o) := by
 by_cases hc : s ≤ t ∧ t < s + life
 ·rw [if_pos hc]
  have h1 := rateV_in hu hh hs ht
  intro v e
  injection e with e
  subst e
  cases o with
  | none => exact h1
  | some v =>
   have h2 := ho v rfl
   show 0 ≤ mn v (rateV u h s t) ∧ mn v (rateV u h s t) ≤ 81
   unfold mn
   by_cases hm : rateV u h s t < v
   ·rw [if_pos hm]; exact h1
   ·rw [if_neg hm]; exact h2
 ·rw [if_neg hc]; exact ho
theorem lowV_ok {u h : List Int} (hu : allB u 0 9 = true) (hh : allB h 0 9 = true) {life t : Int} (ht : t ≤ 8) : ∀ (ss : List Int) (o : Option Int), (∀ x ∈ ss, 0 ≤ x) → okO o → okO (lowV u h life t ss o)
 | [], o, _, ho => ho
 | s :: ss, o, hs, ho => lowV_ok hu hh ht ss _ (fun x hx => hs x (List.mem_cons_of_mem _ hx)) (okO_step hu hh (hs s (List.mem_cons_self ..)) ht ho)
theorem lowV_some (u h : List Int) (life t : Int) : ∀ (ss : List Int) (v : Int), ∃ z, lowV u h life t ss (some v) = some z
 | [], v => ⟨v, rfl⟩
 | s :: ss, v => by
  rw [lowV]
  by_cases hc : s ≤ t ∧ t < s + life
  ·rw [if_pos hc]; exact lowV_some u h life t ss _
  ·rw [if_neg hc]; exact lowV_some u h life t ss _
theorem lowV_hit (u h : List Int) {life t : Int} (hl : 1 ≤ life) : ∀ (ss : List Int) (o : Option Int), t ∈ ss → ∃ z, lowV u h life t ss o = some z
 | [], o, hm => by simp at hm
 | s :: ss, o, hm => by
  rw [lowV]
  by_cases hc : s ≤ t ∧ t < s + life
  ·rw [if_pos hc]; exact lowV_some u h life t ss _
  ·rw [if_neg hc]
   rcases List.mem_cons.1 hm with e | hm
   ·exact absurd ⟨by omega, by omega⟩ hc
   ·exact lowV_hit u h hl ss _ hm
def freshT (n u h : List Int) (life : Int) (ss : List Int) : Nat → Nat → Int → Option Int
 | 0, _, a => some a
 | d + 1, t, a => if rd n (t : Int) > 0 then (match lowV u h life (t : Int) ss none with
   | none => none
   | some v => freshT n u h life ss d (t + 1) (a + rd n (t : Int) * v)) else freshT n u h life ss d (t + 1) a
def setupV (s ss : List Int) : Int := (ss.map fun x => rd s x).sum
def freshV (n s u h : List Int) (life : Int) (ss : List Int) : Option Int := freshT n u h life ss n.length 0 (setupV s ss)
def caseOk (n s u h : List Int) : Prop := n.length ≤ 8 ∧ s.length = n.length ∧ u.length = n.length ∧ h.length = n.length ∧ allB n 0 20 = true ∧ allB s 0 99 = true ∧ allB u 0 9 = true ∧ allB h 0 9 = true
instance (n s u h : List Int) : Decidable (caseOk n s u h) := by unfold caseOk; infer_instance
def setOk (n : List Int) (ss : List Int) : Prop := ss.length ≤ 8 ∧ ∀ x ∈ ss, 0 ≤ x ∧ x < (n.length : Int)
theorem setOk_of {n : List Int} (hn : n.length ≤ 8) {ss : List Int} (h : ss ∈ setsV n.length) : setOk n ss := ⟨by have := (setsV_mem h).1; omega, (setsV_mem h).2⟩
theorem need_mul {a v : Int} (h : 0 ≤ a ∧ a ≤ 20) (h2 : 0 ≤ v ∧ v ≤ 81) : 0 ≤ a * v ∧ a * v ≤ 1620 := by
 refine ⟨Int.mul_nonneg h.1 h2.1, ?_⟩
 have h3 : a * v ≤ 20 * v := Int.mul_le_mul_of_nonneg_right h.2 h2.1
 omega
theorem freshT_in {n u h : List Int} (hn : allB n 0 20 = true) (hu : allB u 0 9 = true) (hh : allB h 0 9 = true) {life : Int} {ss : List Int} (hs : ∀ x ∈ ss, 0 ≤ x) : ∀ (d t : Nat) (a c : Int), t + d ≤ 8 → freshT n u h life ss d t a = some c → a ≤ c ∧ c ≤ a + 1620 * d
 | 0, t, a, c, _, e => by
  rw [freshT] at e
  injection e with e
  omega
 | d + 1, t, a, c, ht, e => by
  rw [freshT] at e
  by_cases hc : rd n (t : Int) > 0
  ·rw [if_pos hc] at e
   have h1 := lowV_ok hu hh (life := life) (t := (t : Int)) (by omega) ss none hs (fun v hv => by cases hv)
   revert e
   cases hl : lowV u h life (t : Int) ss none with
   | none => intro e; cases e
   | some v =>
    intro e
    have h2 := freshT_in hn hu hh hs d (t + 1) _ c (by omega) e
    have h3 := need_mul (rd_in hn (by omega) (by omega) (t : Int)) (h1 v hl)
    omega
  ·rw [if_neg hc] at e
   have h2 := freshT_in hn hu hh hs d (t + 1) _ c (by omega) e
   omega
theorem setupV_in {s : List Int} (hs : allB s 0 99 = true) : ∀ ss : List Int, 0 ≤ setupV s ss ∧ setupV s ss ≤ 99 * ss.length
 | [] => ⟨Int.le_refl _, Int.le_refl _⟩
 | x :: ss => by
  have h1 := setupV_in hs ss
  have h2 := rd_in hs (by omega) (by omega) x
  have e : setupV s (x :: ss) = rd s x + setupV s ss := by unfold setupV; simp
  rw [e, List.length_cons]
  omega
theorem freshV_in {n s u h : List Int} (g : caseOk n s u h) {life : Int} {ss : List Int} (hs : setOk n ss) {c : Int} (e : freshV n s u h life ss = some c) : 0 ≤ c ∧ c ≤ 20000 := by
 obtain ⟨g1, g2, g3, g4, g5, g6, g7, g8⟩ := g
 have h1 := freshT_in g5 g7 g8 (fun x hx => (hs.2 x hx).1) n.length 0 _ c (by omega) e
 have h2 := setupV_in g6 ss
 have h3 := hs.1
 omega
theorem freshT_full {n u h : List Int} {life : Int} (hl : 1 ≤ life) {ss : List Int} : ∀ (d t : Nat) (a : Int), (∀ j : Nat, t ≤ j → j < t + d → (j : Int) ∈ ss) → ∃ c, freshT n u h life ss d t a = some c
 | 0, t, a, _ => ⟨a, rfl⟩
 | d + 1, t, a, hm => by
  rw [freshT]
  by_cases hc : rd n (t : Int) > 0
  ·rw [if_pos hc]
   obtain ⟨z, hz⟩ := lowV_hit u h hl ss none (hm t (Nat.le_refl _) (by omega))
   rw [hz]
   exact freshT_full hl d (t + 1) _ (fun j h1 h2 => hm j (by omega) (by omega))
  ·rw [if_neg hc]
   exact freshT_full hl d (t + 1) _ (fun j h1 h2 => hm j (by omega) (by omega))
def freshF (n s u h : List Int) (life : Int) (ss : List Int) : Option Int := if ss ∈ setsV n.length then freshV n s u h life ss else none
def bestV (n s u h : List Int) (life : Int) : List Int × Int := fS (freshF n s u h life) (setsV n.length) ([], -1)
theorem bestV_fI {n s u h : List Int} (g : caseOk n s u h) {life : Int} (hl : 1 ≤ life) : fI (freshF n s u h life) ((setsV n.length).mergeSort slices_SortFunc_int_int.le) ([], 1099511627776) = bestV n s u h life := by
 refine best_same (List.mergeSort_perm _ _) (merge_sorted _) ?_ ?_ ?_
 ·obtain ⟨ss, hm, hf⟩ := setsV_full n.length
  obtain ⟨c, hc⟩ := freshT_full (n := n) (u := u) (h := h) hl n.length 0 (setupV s ss) (fun j _ hj => hf j (by omega))
  exact ⟨ss, hm, c, by unfold freshF; rw [if_pos hm]; exact hc⟩
 ·intro ss c e
  unfold freshF at e
  by_cases hm : ss ∈ setsV n.length
  ·rw [if_pos hm] at e
   exact (freshV_in g (setOk_of g.1 hm) e).1
  ·rw [if_neg hm] at e; cases e
 ·intro ss hm c e
  unfold freshF at e
  rw [if_pos hm] at e
  have := (freshV_in g (setOk_of g.1 hm) e).2
  omega

theorem ev_spec_l3Rate_l0 (N S U H : List Int) (hh : allB H 0 9 = true) (h8 : H.length ≤ 8) (t : Nat) (ht : t ≤ H.length) (d : Nat) : ∀ (i : Nat) (a : Int), i + d = t → 0 ≤ a → a + 9 * d ≤ 1000 → Ev (fun k => spec_l3Rate.l0 k (t : Int) a (i : Int) N S U H) (a + hsum H d i) := by
 induction d with
 | zero =>
  intro i a hi h0 h1
  refine ev_succ ?_
  have c1 : ¬ (i : Int) < (t : Int) := by omega
  simp only [spec_l3Rate.l0, c1, ↓reduceIte, hsum, Int.add_zero]
  exact Ev.now _
 | succ d ih =>
  intro i a hi h0 h1
  refine ev_succ ?_
  have c1 : (i : Int) < (t : Int) := by omega
  have c2 : (0 : Int) ≤ (i : Int) := by omega
  have c3 : (i : Int) < (H.length : Int) := by omega
  have hb := rd_in hh (by omega) (by omega) (i : Int)
  simp only [spec_l3Rate.l0, c1, c2, c3, ↓reduceIte, w64 (show -9223372036854775808 ≤ a + rd H (i : Int) by omega) (by omega), w64_nat (show i < t by omega) (by omega)]
  refine ev_eq (ih (i + 1) _ (by omega) (by omega) (by omega)) ?_
  rw [hsum, Int.add_assoc]
theorem ev_spec_l3Rate (N S U H : List Int) (hu : allB U 0 9 = true) (hh : allB H 0 9 = true) (h8 : H.length ≤ 8) {a1 a2 : Int} (h0 : 0 ≤ a1) (h1 : a1 ≤ a2) (h2 : a1 < (U.length : Int)) (h3 : a2 ≤ (H.length : Int)) : Ev (fun k => spec_l3Rate.f k N S U H a1 a2) (rateV U H a1 a2) := by
 obtain ⟨i, rfl⟩ := Int.eq_ofNat_of_zero_le h0
 obtain ⟨t, rfl⟩ := Int.eq_ofNat_of_zero_le (show 0 ≤ a2 by omega)
 unfold spec_l3Rate.f
 have hb := rd_in hu (by omega) (by omega) (i : Int)
 simp only [if_pos h0, if_pos h2]
 refine ev_eq (ev_spec_l3Rate_l0 N S U H hh h8 t (by omega) (t - i) i _ (by omega) hb.1 (by omega)) ?_
 unfold rateV
 rw [show ((t : Int) - (i : Int)).toNat = t - i by omega, Int.toNat_natCast]

def encS : Option Int → Int
 | none => -1
 | some v => v
def encI : Option Int → Int
 | none => 1099511627776
 | some v => v

theorem ev_spec_l9Rate_l0 (N S U H : List Int) (hu : allB U 0 9 = true) (hh : allB H 0 9 = true) (h8 : H.length ≤ 8) (huh : U.length = H.length) {life : Int} (hl : 1 ≤ life ∧ life ≤ 8) {t : Int} (ht : 0 ≤ t ∧ t < (H.length : Int)) (ss : List Int) (hss : ∀ x ∈ ss, 0 ≤ x ∧ x < (H.length : Int)) (hsl : ss.length ≤ 8) (d : Nat) : ∀ (j : Nat) (o : Option Int), j + d = ss.length → okO o → Ev (fun k => spec_l9Rate.l0 k life ss t (encS o) (j : Int) N S U H) (encS (lowV U H life t (ss.drop j) o)) := by
 induction d with
 | zero =>
  intro j o hj ho
  refine ev_succ ?_
  have c1 : ¬ (j : Int) < (ss.length : Int) := by omega
  simp only [spec_l9Rate.l0, c1, ↓reduceIte]
  rw [List.drop_eq_nil_of_le (by omega)]
  exact Ev.now _
 | succ d ih =>
  intro j o hj ho
  refine ev_succ ?_
  have hj' : j < ss.length := by omega
  have c1 : (j : Int) < (ss.length : Int) := by omega
  have c2 : (0 : Int) ≤ (j : Int) := by omega
  have hx := hss _ (List.getElem_mem hj')
  have hw : wrap64 (ss[j] + life) = ss[j] + life := w64 (by omega) (by omega)
  simp only [spec_l9Rate.l0, c1, c2, ↓reduceIte, rd_nat hj', hw]
  rw [drop_cons hj', lowV]
  have hO := okO_step hu hh (life := life) hx.1 (show t ≤ 8 by omega) ho
  by_cases g : ss[j] ≤ t ∧ t < ss[j] + life
  ·rw [if_pos g] at hO ⊢
   simp only [if_pos g.1]
   refine ev_succ ?_
   simp only [spec_l9Rate.j1, decide_eq_true g.2, if_true, w64_nat hj' (by omega : ss.length ≤ 9223372036854775807)]
   refine Ev.bind (ev_spec_l3Rate N S U H hu hh h8 hx.1 g.1 (by omega) (by omega)) ?_
   have hr := ih (j + 1) _ (by omega) hO
   cases o with
   | none =>
    simp only [show (encS none < 0) = True from by simp [encS], if_true]
    exact hr
   | some v =>
    have hv := ho v rfl
    simp only [show (encS (some v) < 0) = False from by simp only [encS, eq_iff_iff, iff_false]; omega, if_false]
    refine ev_ite (fun c => ?_) (fun c => ?_)
    ·have c' : rateV U H ss[j] t < v := c
     have e : low1 (rateV U H ss[j] t) (some v) = rateV U H ss[j] t := by show mn v _ = _; unfold mn; rw [if_pos c']
     rw [e] at hr ⊢
     exact hr
    ·have c' : ¬ rateV U H ss[j] t < v := c
     have e : low1 (rateV U H ss[j] t) (some v) = v := by show mn v _ = _; unfold mn; rw [if_neg c']
     rw [e] at hr ⊢
     exact hr
  ·rw [if_neg g] at hO ⊢
   have hr := ih (j + 1) _ (by omega) ho
   refine ev_ite (fun c => ?_) (fun c => ?_)
   ·have c' : ¬ t < ss[j] + life := fun q => g ⟨c, q⟩
    refine ev_succ ?_
    simp only [spec_l9Rate.j1, decide_eq_false c', Bool.false_eq_true, if_false, w64_nat hj' (by omega : ss.length ≤ 9223372036854775807)]
    exact hr
   ·refine ev_succ ?_
    simp only [spec_l9Rate.j1, Bool.false_eq_true, if_false, w64_nat hj' (by omega : ss.length ≤ 9223372036854775807)]
    exact hr
theorem ev_spec_l9Rate (N S U H : List Int) (hu : allB U 0 9 = true) (hh : allB H 0 9 = true) (h8 : H.length ≤ 8) (huh : U.length = H.length) {life : Int} (hl : 1 ≤ life ∧ life ≤ 8) {t : Int} (ht : 0 ≤ t ∧ t < (H.length : Int)) (ss : List Int) (hss : ∀ x ∈ ss, 0 ≤ x ∧ x < (H.length : Int)) (hsl : ss.length ≤ 8) : Ev (fun k => spec_l9Rate.f k N S U H life ss t) (encS (lowV U H life t ss none)) := by
 unfold spec_l9Rate.f
 simpa [encS] using ev_spec_l9Rate_l0 N S U H hu hh h8 huh hl ht ss hss hsl ss.length 0 none (by omega) (fun v e => by cases e)

theorem ev_spec_l9Fresh_l1 (N S U H : List Int) (g : caseOk N S U H) {life : Int} (hl : 1 ≤ life ∧ life ≤ 8) (ss : List Int) (hs : setOk N ss) (d : Nat) : ∀ (t : Nat) (a : Int), t + d = N.length → 0 ≤ a → a + 1620 * d ≤ 100000 → Ev (fun k => spec_l9Fresh.l1 k life ss a (t : Int) N S U H) (encS (freshT N U H life ss d t a)) := by
 obtain ⟨g1, g2, g3, g4, g5, g6, g7, g8⟩ := g
 induction d with
 | zero =>
  intro t a ht h0 h1
  refine ev_succ ?_
  have c1 : ¬ (t : Int) < (N.length : Int) := by omega
  simp only [spec_l9Fresh.l1, c1, ↓reduceIte, freshT]
  exact Ev.now _
 | succ d ih =>
  intro t a ht h0 h1
  refine ev_succ ?_
  have c1 : (t : Int) < (N.length : Int) := by omega
  have c2 : (0 : Int) ≤ (t : Int) := by omega
  simp only [spec_l9Fresh.l1, c1, c2, ↓reduceIte]
  refine Ev.bind (ev_spec_l9Rate N S U H g7 g8 (by omega) (by omega) hl (t := (t : Int)) (by omega) ss (fun x hx => by have := hs.2 x hx; omega) hs.1) ?_
  have hO := lowV_ok g7 g8 (life := life) (t := (t : Int)) (by omega) ss none (fun x hx => (hs.2 x hx).1) (fun v e => by cases e)
  rw [freshT]
  have hw := w64_nat (show t < N.length by omega) (show N.length ≤ 9223372036854775807 by omega)
  by_cases hn : rd N (t : Int) > 0
  ·rw [if_pos hn]
   simp only [if_pos hn]
   refine ev_succ ?_
   cases hv : lowV U H life (t : Int) ss none with
   | none =>
    simp only [spec_l9Fresh.j2, show decide (encS none < 0) = true from rfl, if_true]
    exact Ev.now _
   | some v =>
    have hb := hO v hv
    have hm := need_mul (rd_in g5 (by omega) (by omega) (t : Int)) hb
    have e0 : decide (encS (some v) < 0) = false := decide_eq_false (show ¬ v < 0 by omega)
    have e1 : wrap64 (rd N (t : Int) * encS (some v)) = rd N (t : Int) * v := w64 (show -9223372036854775808 ≤ rd N (t : Int) * v by omega) (show rd N (t : Int) * v ≤ 9223372036854775807 by omega)
    have e2 : wrap64 (a + rd N (t : Int) * v) = a + rd N (t : Int) * v := w64 (by omega) (by omega)
    simp only [spec_l9Fresh.j2, e0, Bool.false_eq_true, if_false, c1, c2, if_true, if_pos hn, hw, e1, e2]
    exact ih (t + 1) _ (by omega) (by omega) (by omega)
  ·rw [if_neg hn]
   simp only [if_neg hn]
   refine ev_succ ?_
   simp only [spec_l9Fresh.j2, Bool.false_eq_true, if_false, c1, c2, if_true, if_neg hn, hw]
   exact ih (t + 1) _ (by omega) (by omega) (by omega)
theorem ev_spec_l9Fresh_l0 (N S U H : List Int) (g : caseOk N S U H) {life : Int} (hl : 1 ≤ life ∧ life ≤ 8) (ss : List Int) (hs : setOk N ss) (d : Nat) : ∀ (j : Nat) (a : Int), j + d = ss.length → 0 ≤ a → a + 99 * d ≤ 1000 → Ev (fun k => spec_l9Fresh.l0 k life ss a (j : Int) N S U H) (encS (freshT N U H life ss N.length 0 (a + setupV S (ss.drop j)))) := by
 induction d with
 | zero =>
  intro j a hj h0 h1
  refine ev_succ ?_
  have c1 : ¬ (j : Int) < (ss.length : Int) := by omega
  simp only [spec_l9Fresh.l0, c1, ↓reduceIte]
  rw [List.drop_eq_nil_of_le (by omega), show setupV S [] = 0 from rfl, Int.add_zero]
  have := g.1
  exact ev_spec_l9Fresh_l1 N S U H g hl ss hs N.length 0 a (by omega) h0 (by omega)
 | succ d ih =>
  intro j a hj h0 h1
  refine ev_succ ?_
  have hj' : j < ss.length := by omega
  have c1 : (j : Int) < (ss.length : Int) := by omega
  have c2 : (0 : Int) ≤ (j : Int) := by omega
  have hx := hs.2 _ (List.getElem_mem hj')
  have hs8 := hs.1
  have hb := rd_in g.2.2.2.2.2.1 (by omega) (by omega) ss[j]
  have c3 : ss[j] < (S.length : Int) := by have := g.2.1; omega
  simp only [spec_l9Fresh.l0, c1, c2, ↓reduceIte, rd_nat hj', if_pos hx.1, if_pos c3, w64_nat hj' (by omega : ss.length ≤ 9223372036854775807), w64 (show -9223372036854775808 ≤ a + rd S ss[j] by omega) (by omega)]
  refine ev_eq (ih (j + 1) _ (by omega) (by omega) (by omega)) ?_
  rw [drop_cons hj', Int.add_assoc, show setupV S (ss[j] :: ss.drop (j + 1)) = rd S ss[j] + setupV S (ss.drop (j + 1)) from by unfold setupV; rw [List.map_cons, List.sum_cons]]
theorem ev_spec_l9Fresh (N S U H : List Int) (g : caseOk N S U H) {life : Int} (hl : 1 ≤ life ∧ life ≤ 8) (ss : List Int) (hs : setOk N ss) : Ev (fun k => spec_l9Fresh.f k N S U H life ss) (encS (freshV N S U H life ss)) := by
 unfold spec_l9Fresh.f freshV
 have := hs.1
 simpa using ev_spec_l9Fresh_l0 N S U H g hl ss hs ss.length 0 0 (by omega) (by omega) (by omega)

theorem ev_spec_l9Best_l0 (N S U H : List Int) (g : caseOk N S U H) {life : Int} (hl : 1 ≤ life ∧ life ≤ 8) (d : Nat) : ∀ (c : Nat) (r : List Int × Int), c + d = 2 ^ N.length → Ev (fun k => spec_l9Best.l0 k life r.1 r.2 (c : Int) N S U H) (fS (freshF N S U H life) ((setsV N.length).drop c) r) := by
 have hp := pow8 g.1
 have hlen := setsV_len N.length
 induction d with
 | zero =>
  intro c r hc
  refine ev_succ ?_
  have c1 : ¬ (c : Int) < ((2 ^ N.length : Nat) : Int) := by omega
  simp only [spec_l9Best.l0, shl_pow g.1, c1, ↓reduceIte]
  rw [List.drop_eq_nil_of_le (by omega)]
  exact Ev.now _
 | succ d ih =>
  intro c r hc
  refine ev_succ ?_
  have c1 : (c : Int) < ((2 ^ N.length : Nat) : Int) := by omega
  have hc' : c < (setsV N.length).length := by omega
  have hm : bitsV c N.length 0 ∈ setsV N.length := by rw [← setsV_get hc']; exact List.getElem_mem _
  have hs := setOk_of g.1 hm
  have hw := w64_nat (show c < 2 ^ N.length by omega) (show 2 ^ N.length ≤ 9223372036854775807 by omega)
  simp only [spec_l9Best.l0, shl_pow g.1, c1, ↓reduceIte, hw]
  refine Ev.bind (ev_spec_l2Bits N.length c g.1 (by omega)) ?_
  refine Ev.bind (ev_spec_l9Fresh N S U H g hl _ hs) ?_
  rw [drop_cons hc', setsV_get hc', fS]
  have hF : freshF N S U H life (bitsV c N.length 0) = freshV N S U H life (bitsV c N.length 0) := by unfold freshF; rw [if_pos hm]
  rw [hF]
  cases hv : freshV N S U H life (bitsV c N.length 0) with
  | none =>
   simp only [show (encS none ≥ 0) = False from eq_false (show ¬ (-1 : Int) ≥ 0 by omega), if_false]
   exact ih (c + 1) r (by omega)
  | some v =>
   have hb := freshV_in g hs hv
   have e0 : encS (some v) = v := rfl
   simp only [e0, if_pos (show v ≥ 0 from hb.1)]
   by_cases q1 : r.2 < 0
   ·rw [if_pos (Or.inl q1)]
    simp only [if_pos q1]
    exact ih (c + 1) (_, v) (by omega)
   ·simp only [if_neg q1]
    by_cases q2 : v < r.2
    ·rw [if_pos (Or.inr (Or.inl q2))]
     simp only [if_pos q2]
     exact ih (c + 1) (_, v) (by omega)
    ·simp only [if_neg q2]
     by_cases q3 : v = r.2
     ·simp only [if_pos q3]
      refine Ev.bind (ev_spec_l2Before _ _ (by have := hs.1; omega)) ?_
      by_cases q4 : slices_SortFunc_int_int.cmpL (bitsV c N.length 0) r.1 < 0
      ·rw [if_pos (Or.inr (Or.inr ⟨q3, q4⟩))]
       simp only [decide_eq_true q4, if_true]
       exact ih (c + 1) (_, v) (by omega)
      ·rw [if_neg (fun q => q.elim q1 (fun q => q.elim q2 (fun q => q4 q.2)))]
       simp only [decide_eq_false q4, Bool.false_eq_true, if_false]
       exact ih (c + 1) r (by omega)
     ·rw [if_neg (fun q => q.elim q1 (fun q => q.elim q2 (fun q => q3 q.1)))]
      simp only [if_neg q3]
      exact ih (c + 1) r (by omega)
theorem ev_spec_l9Best (N S U H : List Int) (g : caseOk N S U H) {life : Int} (hl : 1 ≤ life ∧ life ≤ 8) : Ev (fun k => spec_l9Best.f k N S U H life) (bestV N S U H life) := by
 unfold spec_l9Best.f bestV
 simpa using ev_spec_l9Best_l0 N S U H g hl (2 ^ N.length) 0 ([], -1) (by omega)

theorem spec_l1In_f (a b c : Int) : spec_l1In.f a b c = some (inB a b c) := by
 unfold spec_l1In.f inB
 by_cases h : a ≥ b
 ·rw [if_pos h]; congr 1; rw [decide_eq_decide]; omega
 ·rw [if_neg h]; congr 1; symm; rw [decide_eq_false_iff_not]; omega

theorem ev_spec_l2Row_l0 (n b : Int) (l : List Int) (hl : l.length ≤ 9223372036854775807) (d : Nat) : ∀ i : Nat, i + d = l.length → Ev (fun k => spec_l2Row.l0 k l n b (i : Int)) (allB (l.drop i) 0 b && ((l.length : Int) == n)) := by
 induction d with
 | zero =>
  intro i hi
  refine ev_succ ?_
  have h1 : ¬ (i : Int) < (l.length : Int) := by omega
  simp only [spec_l2Row.l0, h1, ↓reduceIte]
  rw [List.drop_eq_nil_of_le (by omega)]
  exact Ev.now _
 | succ d ih =>
  intro i hi
  refine ev_succ ?_
  have h1 : (i : Int) < (l.length : Int) := by omega
  have h0 : (0 : Int) ≤ (i : Int) := by omega
  have hi' : i < l.length := by omega
  simp only [spec_l2Row.l0, h1, h0, ↓reduceIte, spec_l1In_f, Option.bind_some, rd_nat hi', w64_nat hi' hl]
  rw [drop_cons hi']
  show Ev _ ((inB l[i] 0 b && allB (l.drop (i + 1)) 0 b) && _)
  cases inB l[i] 0 b with
  | true => simpa using ih (i + 1) (by omega)
  | false => simpa using Ev.now false
theorem ev_spec_l2Row (l : List Int) (n b : Int) (hl : l.length ≤ 9223372036854775807) : Ev (fun k => spec_l2Row.f k l n b) (allB l 0 b && ((l.length : Int) == n)) := by
 unfold spec_l2Row.f
 simpa using ev_spec_l2Row_l0 n b l hl l.length 0 (by omega)

theorem ev_spec_l2Good (N S U H : List Int) (hN : N.length ≤ 1048576) (hS : S.length ≤ 1048576) (hU : U.length ≤ 1048576) (hH : H.length ≤ 1048576) : Ev (fun k => spec_l2Good.f k N S U H) (decide (caseOk N S U H)) := by
 unfold spec_l2Good.f
 refine ev_ite (fun h => ?_) (fun h => ?_)
 ·refine Ev.bind (ev_spec_l2Row N _ 20 (by omega)) ?_
  refine ev_ite (fun h1 => ?_) (fun h1 => ?_)
  ·refine Ev.bind (ev_spec_l2Row S _ 99 (by omega)) ?_
   refine ev_ite (fun h2 => ?_) (fun h2 => ?_)
   ·refine Ev.bind (ev_spec_l2Row U _ 9 (by omega)) ?_
    refine ev_ite (fun h3 => ?_) (fun h3 => ?_)
    ·refine ev_eq (Ev.bind (ev_spec_l2Row H _ 9 (by omega)) (Ev.now _)) ?_
     simp only [Bool.and_eq_true, beq_iff_eq] at h1 h2 h3
     rw [Bool.eq_iff_iff, decide_eq_true_iff]
     unfold caseOk
     simp only [Bool.and_eq_true, beq_iff_eq]
     constructor
     ·rintro ⟨a, b⟩; exact ⟨by omega, by omega, by omega, by omega, h1.1, h2.1, h3.1, a⟩
     ·rintro ⟨_, _, _, b, _, _, _, a⟩; exact ⟨a, by omega⟩
    ·refine ev_eq (Ev.now false) (decide_eq_false (fun q => h3 ?_)).symm
     obtain ⟨q1, q2, q3, q4, q5, q6, q7, q8⟩ := q
     simp only [Bool.and_eq_true, beq_iff_eq]
     exact ⟨q7, by omega⟩
   ·refine ev_eq (Ev.now false) (decide_eq_false (fun q => h2 ?_)).symm
    obtain ⟨q1, q2, q3, q4, q5, q6, q7, q8⟩ := q
    simp only [Bool.and_eq_true, beq_iff_eq]
    exact ⟨q6, by omega⟩
  ·refine ev_eq (Ev.now false) (decide_eq_false (fun q => h1 ?_)).symm
   obtain ⟨q1, q2, q3, q4, q5, q6, q7, q8⟩ := q
   simp only [Bool.and_eq_true, beq_iff_eq]
   exact ⟨q5, trivial⟩
 ·exact ev_eq (Ev.now false) (decide_eq_false (fun q => h (by have := q.1; omega))).symm

def bestFreshV (N S U H : List Int) (a : Int) : List Int × Int × Bool := if caseOk N S U H ∧ 1 ≤ a ∧ a ≤ 8 then ((bestV N S U H a).1, (bestV N S U H a).2, true) else ([], 0, false)
theorem fS_len {F : List Int → Option Int} {m : Nat} : ∀ (l : List (List Int)) (r : List Int × Int), (∀ s ∈ l, s.length ≤ m) → r.1.length ≤ m → (fS F l r).1.length ≤ m
 | [], r, _, hr => hr
 | s :: t, r, h, hr => by
  rw [fS]
  refine fS_len t _ (fun x hx => h x (List.mem_cons_of_mem _ hx)) ?_
  cases F s with
  | none => exact hr
  | some c =>
   dsimp only
   by_cases q : r.2 < 0 ∨ c < r.2 ∨ c = r.2 ∧ slices_SortFunc_int_int.cmpL s r.1 < 0
   ·rw [if_pos q]; exact h s (List.mem_cons_self ..)
   ·rw [if_neg q]; exact hr
theorem bestFreshV_len (N S U H : List Int) (a : Int) : (bestFreshV N S U H a).1.length ≤ 8 := by
 unfold bestFreshV
 by_cases h : caseOk N S U H ∧ 1 ≤ a ∧ a ≤ 8
 ·rw [if_pos h]
  exact fS_len _ _ (fun s hs => by have := (setsV_mem hs).1; have := h.1.1; omega) (Nat.zero_le _)
 ·rw [if_neg h]; exact Nat.zero_le _

def gainsV (N S U H : List Int) : Nat → Nat → List Int
 | 0, _ => []
 | d + 1, i => wrap64 ((bestV N S U H (i : Int)).2 - (bestV N S U H ((i + 1 : Nat) : Int)).2) :: gainsV N S U H d (i + 1)
theorem gainsV_len (N S U H : List Int) : ∀ d i : Nat, (gainsV N S U H d i).length = d
 | 0, _ => rfl
 | d + 1, i => by rw [gainsV, List.length_cons, gainsV_len N S U H d (i + 1)]
def lifeGainsV (N S U H : List Int) : List Int × Bool := if caseOk N S U H then (gainsV N S U H 7 1, true) else ([], false)
theorem lifeGainsV_len (N S U H : List Int) : (lifeGainsV N S U H).1.length ≤ 7 := by
 unfold lifeGainsV
 by_cases h : caseOk N S U H
 ·rw [if_pos h]; exact Nat.le_of_eq (gainsV_len N S U H 7 1)
 ·rw [if_neg h]; exact Nat.zero_le _

theorem ev_spec_LifeGains_l0 (N S U H : List Int) (g : caseOk N S U H) (d : Nat) : ∀ (i : Nat) (o : List Int), i + d = 8 → 1 ≤ i → o.length ≤ i → Ev (fun k => spec_LifeGains.l0 k o (i : Int) N S U H) (o ++ gainsV N S U H d i, true) := by
 induction d with
 | zero =>
  intro i o hi h1 ho
  refine ev_succ ?_
  have c1 : ¬ (i : Int) < 8 := by omega
  simp only [spec_LifeGains.l0, c1, ↓reduceIte, gainsV, List.append_nil]
  exact Ev.now _
 | succ d ih =>
  intro i o hi h1 ho
  refine ev_succ ?_
  have c1 : (i : Int) < 8 := by omega
  have c2 : o.length < 17592186044416 := by omega
  have hw : wrap64 ((i : Int) + 1) = ((i + 1 : Nat) : Int) := w64_nat (show i < 8 by omega) (by omega)
  simp only [spec_LifeGains.l0, c1, c2, ↓reduceIte, hw]
  refine Ev.bind (ev_spec_l9Best N S U H g (life := (i : Int)) (by omega)) ?_
  refine Ev.bind (ev_spec_l9Best N S U H g (life := ((i + 1 : Nat) : Int)) (by omega)) ?_
  refine ev_eq (ih (i + 1) _ (by omega) (by omega) (by rw [List.length_append, List.length_singleton]; omega)) ?_
  rw [List.append_assoc]
  rfl
theorem ev_spec_LifeGains (N S U H : List Int) (hN : N.length ≤ 1048576) (hS : S.length ≤ 1048576) (hU : U.length ≤ 1048576) (hH : H.length ≤ 1048576) : Ev (fun k => spec_LifeGains.f k N S U H) (lifeGainsV N S U H) := by
 unfold spec_LifeGains.f
 simp only [Option.bind_some]
 refine Ev.bind (ev_spec_l2Good N S U H hN hS hU hH) ?_
 unfold lifeGainsV
 refine ev_ite (fun h => ?_) (fun h => ?_)
 ·have h' := of_decide_eq_true h
  rw [if_pos h']
  simpa using ev_spec_LifeGains_l0 N S U H h' 7 1 [] (by omega) (by omega) (by simp)
 ·rw [if_neg (fun q => h (decide_eq_true q))]
  exact Ev.now _

theorem impl_within_f (a b c : Int) : impl_within.f a b c = some (inB a b c) := by
 unfold impl_within.f inB
 by_cases h : a ≥ b
 ·rw [if_pos h]; congr 1; rw [decide_eq_decide]; omega
 ·rw [if_neg h]; congr 1; symm; rw [decide_eq_false_iff_not]; omega

theorem ev_impl_allWithin_l0 (a b : Int) (l : List Int) (hl : l.length ≤ 9223372036854775807) (d : Nat) : ∀ i : Nat, i + d = l.length → Ev (fun k => impl_allWithin.l0 k a b l (l.length : Int) (i : Int)) (allB (l.drop i) a b) := by
 induction d with
 | zero =>
  intro i hi
  refine ev_succ ?_
  have h1 : ¬ (i : Int) < (l.length : Int) := by omega
  simp only [impl_allWithin.l0, h1, ↓reduceIte]
  rw [List.drop_eq_nil_of_le (by omega)]
  exact Ev.now _
 | succ d ih =>
  intro i hi
  refine ev_succ ?_
  have h1 : (i : Int) < (l.length : Int) := by omega
  have h0 : (0 : Int) ≤ (i : Int) := by omega
  have hi' : i < l.length := by omega
  simp only [impl_allWithin.l0, h1, h0, ↓reduceIte, impl_within_f, Option.bind_some, rd_nat hi', w64_nat hi' hl]
  rw [drop_cons hi']
  show Ev _ (inB l[i] a b && allB (l.drop (i + 1)) a b)
  cases inB l[i] a b with
  | true => simpa using ih (i + 1) (by omega)
  | false => simpa using Ev.now false
theorem ev_impl_allWithin (l : List Int) (a b : Int) (hl : l.length ≤ 9223372036854775807) : Ev (fun k => impl_allWithin.f k l a b) (allB l a b) := by
 unfold impl_allWithin.f
 simpa using ev_impl_allWithin_l0 a b l hl l.length 0 (by omega)

theorem ev_impl_IsCase (N S U H : List Int) (hN : N.length ≤ 1048576) (hS : S.length ≤ 1048576) (hU : U.length ≤ 1048576) (hH : H.length ≤ 1048576) : Ev (fun k => impl_IsCase.f k N S U H) (decide (caseOk N S U H)) := by
 unfold impl_IsCase.f
 have no : ¬ caseOk N S U H → Ev (fun _ => some false) (decide (caseOk N S U H)) := fun h => ev_eq (Ev.now false) (decide_eq_false h).symm
 refine ev_ite (fun h => ?_) (fun h => no (fun q => h (by have := q.1; omega)))
 refine ev_ite (fun h1 => ?_) (fun h1 => no (fun q => h1 (by have := q.2.1; omega)))
 refine ev_ite (fun h2 => ?_) (fun h2 => no (fun q => h2 (by have := q.2.2.1; omega)))
 refine ev_ite (fun h3 => ?_) (fun h3 => no (fun q => h3 (by have := q.2.2.2.1; omega)))
 refine Ev.bind (ev_impl_allWithin N 0 20 (by omega)) ?_
 refine ev_ite (fun h4 => ?_) (fun h4 => no (fun q => h4 q.2.2.2.2.1))
 refine Ev.bind (ev_impl_allWithin S 0 99 (by omega)) ?_
 refine ev_ite (fun h5 => ?_) (fun h5 => no (fun q => h5 q.2.2.2.2.2.1))
 refine Ev.bind (ev_impl_allWithin U 0 9 (by omega)) ?_
 refine ev_ite (fun h6 => ?_) (fun h6 => no (fun q => h6 q.2.2.2.2.2.2.1))
 refine Ev.bind (ev_impl_allWithin H 0 9 (by omega)) ?_
 refine ev_eq (Ev.now _) ?_
 rw [Bool.eq_iff_iff, decide_eq_true_iff]
 unfold caseOk
 exact ⟨fun q => ⟨by omega, by omega, by omega, by omega, h4, h5, h6, q⟩, fun q => q.2.2.2.2.2.2.2⟩

theorem cmp_Compare_int_f (a b : Int) : cmp_Compare_int.f a b = some (if a < b then -1 else if a > b then 1 else 0) := by
 unfold cmp_Compare_int.f cmp_isNaN_int.f
 simp only [Option.bind_some, bne_self_eq_false, Bool.false_eq_true, if_false]
 by_cases h : a < b
 ·simp only [if_pos h]
 ·simp only [if_neg h]
  by_cases h2 : a > b
  ·simp only [if_pos h2]
  ·simp only [if_neg h2]

theorem ev_slices_Compare_l0 (a b : List Int) (hab : a.length = b.length) (ha : a.length ≤ 9223372036854775807) (d : Nat) : ∀ i : Nat, i + d = a.length → Ev (fun k => slices_Compare_int_int.l0 k a b a (a.length : Int) (i : Int)) (slices_SortFunc_int_int.lexC (a.drop i) (b.drop i)) := by
 induction d with
 | zero =>
  intro i hi
  refine ev_succ ?_
  have c1 : ¬ (i : Int) < (a.length : Int) := by omega
  have c2 : ¬ (a.length : Int) < (b.length : Int) := by omega
  simp only [slices_Compare_int_int.l0, c1, c2, ↓reduceIte]
  rw [List.drop_eq_nil_of_le (by omega), List.drop_eq_nil_of_le (by omega)]
  exact Ev.now _
 | succ d ih =>
  intro i hi
  refine ev_succ ?_
  have hi' : i < a.length := by omega
  have hj' : i < b.length := by omega
  have c1 : (i : Int) < (a.length : Int) := by omega
  have c2 : (0 : Int) ≤ (i : Int) := by omega
  have c3 : ¬ (i : Int) ≥ (b.length : Int) := by omega
  have c4 : (i : Int) < (b.length : Int) := by omega
  simp only [slices_Compare_int_int.l0, c1, c2, c3, c4, ↓reduceIte, rd_nat hi', rd_nat hj', w64_nat hi' ha, cmp_Compare_int_f, Option.bind_some]
  rw [drop_cons hi', drop_cons hj', slices_SortFunc_int_int.lexC]
  by_cases h : a[i] < b[i]
  ·simp only [if_pos h]; exact Ev.now _
  ·by_cases h2 : a[i] > b[i]
   ·simp only [if_neg h, if_pos h2]; exact Ev.now _
   ·simp only [if_neg h, if_neg h2, if_true]
    exact ih (i + 1) (by omega)
theorem ev_slices_Compare (a b : List Int) (hab : a.length = b.length) (ha : a.length ≤ 9223372036854775807) : Ev (fun k => slices_Compare_int_int.f k a b) (slices_SortFunc_int_int.lexC a b) := by
 unfold slices_Compare_int_int.f
 simpa using ev_slices_Compare_l0 a b hab ha a.length 0 (by omega)

theorem ev_impl_sets_1 (a b : List Int) (ha : a.length ≤ 4611686018427387904) (hb : b.length ≤ 4611686018427387904) : Ev (fun k => impl_sets_1.f k a b) (slices_SortFunc_int_int.cmpL a b) := by
 unfold impl_sets_1.f slices_SortFunc_int_int.cmpL
 refine ev_ite (fun h => ?_) (fun h => ?_)
 ·rw [if_pos (by omega)]
  exact Ev.bind (ev_slices_Compare a b (by omega) (by omega)) (Ev.now _)
 ·rw [if_neg (by omega), w64 (by omega) (by omega)]
  exact Ev.now _

theorem ev_all {α β : Type} {f : α → Nat → Option β} {v : α → β} : ∀ (l : List α), (∀ a ∈ l, Ev (f a) (v a)) → ∃ K, ∀ k, K ≤ k → ∀ a ∈ l, f a k = some (v a)
 | [], _ => ⟨0, fun _ _ a ha => by simp at ha⟩
 | a :: l, h => by
  obtain ⟨K1, h1⟩ := h a (List.mem_cons_self ..)
  obtain ⟨K2, h2⟩ := ev_all l (fun x hx => h x (List.mem_cons_of_mem _ hx))
  refine ⟨max K1 K2, fun k hk x hx => ?_⟩
  rcases List.mem_cons.1 hx with e | hx
  ·rw [e]; exact h1 k (by omega)
  ·exact h2 k (by omega) x hx
theorem ev_sort (n : Nat) (hn : n ≤ 8) : Ev (fun k => slices_SortFunc_int_int.f k (setsV n) 103) ((setsV n).mergeSort slices_SortFunc_int_int.le) := by
 have hp := pow8 hn
 have hlen := setsV_len n
 obtain ⟨K, hK⟩ := ev_all (f := fun (p : List Int × List Int) k => impl_sets_1.f k p.1 p.2) (v := fun p => slices_SortFunc_int_int.cmpL p.1 p.2) ((setsV n).flatMap fun a => (setsV n).map fun b => (a, b)) (fun p hm => by
  obtain ⟨a, ha, hm⟩ := List.mem_flatMap.1 hm
  obtain ⟨b, hb, rfl⟩ := List.mem_map.1 hm
  have h1 := (setsV_mem ha).1
  have h2 := (setsV_mem hb).1
  exact ev_impl_sets_1 a b (by omega) (by omega))
 refine ⟨K, fun k hk => ?_⟩
 unfold slices_SortFunc_int_int.f
 refine if_pos ?_
 refine ⟨rfl, by omega, by omega, setsV_nodup n, fun a ha b hb => ?_⟩
 exact hK k hk (a, b) (List.mem_flatMap.2 ⟨a, ha, List.mem_map.2 ⟨b, hb, rfl⟩⟩)
theorem setsV_take {n c : Nat} (h : c < (setsV n).length) : (setsV n).take (c + 1) = (setsV n).take c ++ [bitsV c n 0] := by
 rw [List.take_succ_eq_append_getElem h, setsV_get h]
theorem ev_impl_sets_l1 (n c : Nat) (hn : n ≤ 8) (hc : c < 2 ^ n) (acc : List (List Int)) {r : List (List Int)} (ha : acc.length ≤ 256) (hK : Ev (fun k => impl_sets.l0 k (n : Int) (acc ++ [bitsV c n 0]) ((2 ^ n : Nat) : Int) ((c + 1 : Nat) : Int)) r) (d : Nat) : ∀ (i : Nat) (o : List Int), i + d = n → o.length ≤ i → o ++ bitsV c d i = bitsV c n 0 → Ev (fun k => impl_sets.l1 k (n : Int) acc (c : Int) o ((2 ^ n : Nat) : Int) (c : Int) (n : Int) (i : Int)) r := by
 have hp := pow8 hn
 induction d with
 | zero =>
  intro i o hi ho he
  refine ev_succ ?_
  have c1 : ¬ (i : Int) < (n : Int) := by omega
  have c2 : acc.length < 5864062014805 := by omega
  simp only [impl_sets.l1, c1, c2, ↓reduceIte, w64_nat hc (show 2 ^ n ≤ 9223372036854775807 by omega)]
  rw [bitsV, List.append_nil] at he
  rw [he]
  exact hK
 | succ d ih =>
  intro i o hi ho he
  refine ev_succ ?_
  have c1 : (i : Int) < (n : Int) := by omega
  have c2 : (0 : Int) ≤ (i : Int) := by omega
  have c3 : o.length < 17592186044416 := by omega
  have hb := bit_test c i (by omega) (by omega)
  have hw := w64_nat (show i < n by omega) (show n ≤ 9223372036854775807 by omega)
  simp only [impl_sets.l1, c1, c2, c3, ↓reduceIte, hw]
  rw [bitsV] at he
  by_cases h : c.testBit i = true
  ·rw [if_pos h] at he
   simp only [if_pos (hb.2 h)]
   refine ih (i + 1) _ (by omega) (by rw [List.length_append, List.length_singleton]; omega) ?_
   rw [List.append_assoc]
   exact he
  ·rw [if_neg h] at he
   simp only [if_neg (fun q => h (hb.1 q))]
   exact ih (i + 1) _ (by omega) (by omega) he
theorem ev_impl_sets_l0 (n : Nat) (hn : n ≤ 8) (d : Nat) : ∀ c : Nat, c + d = 2 ^ n → Ev (fun k => impl_sets.l0 k (n : Int) ((setsV n).take c) ((2 ^ n : Nat) : Int) (c : Int)) ((setsV n).mergeSort slices_SortFunc_int_int.le) := by
 have hp := pow8 hn
 have hlen := setsV_len n
 induction d with
 | zero =>
  intro c hc
  refine ev_succ ?_
  have c1 : ¬ (c : Int) < ((2 ^ n : Nat) : Int) := by omega
  simp only [impl_sets.l0, c1, ↓reduceIte]
  rw [List.take_of_length_le (by omega)]
  exact Ev.bind (ev_sort n hn) (Ev.now _)
 | succ d ih =>
  intro c hc
  refine ev_succ ?_
  have c1 : (c : Int) < ((2 ^ n : Nat) : Int) := by omega
  simp only [impl_sets.l0, c1, ↓reduceIte]
  have h2 := ih (c + 1) (by omega)
  rw [setsV_take (by omega)] at h2
  simpa using ev_impl_sets_l1 n c hn (by omega) _ (by rw [List.length_take]; omega) h2 n 0 [] (by omega) (Nat.le_refl _) rfl
theorem ev_impl_sets (n : Nat) (hn : n ≤ 8) : Ev (fun k => impl_sets.f k (n : Int)) ((setsV n).mergeSort slices_SortFunc_int_int.le) := by
 unfold impl_sets.f
 simp only [if_pos (show (0 : Int) ≤ (n : Int) by omega), shl_pow hn]
 simpa using ev_impl_sets_l0 n hn (2 ^ n) 0 (by omega)

theorem ev_impl_total_l0 (l : List Int) (hl : l.length ≤ 9223372036854775807) (d : Nat) : ∀ (i : Nat) (s : Int), i + d = l.length → wrap64 s = s → Ev (fun k => impl_total.l0 k s l (l.length : Int) (i : Int)) (wrap64 (s + (l.drop i).sum)) := by
 induction d with
 | zero =>
  intro i s hi hs
  refine ev_succ ?_
  have h1 : ¬ (i : Int) < (l.length : Int) := by omega
  simp only [impl_total.l0, h1, ↓reduceIte]
  rw [List.drop_eq_nil_of_le (by omega)]
  simp only [List.sum_nil, Int.add_zero, hs]
  exact Ev.now _
 | succ d ih =>
  intro i s hi hs
  refine ev_succ ?_
  have h1 : (i : Int) < (l.length : Int) := by omega
  have h0 : (0 : Int) ≤ (i : Int) := by omega
  have hi' : i < l.length := by omega
  simp only [impl_total.l0, h1, h0, ↓reduceIte, rd_nat hi', w64_nat hi' hl]
  refine ev_eq (ih (i + 1) _ (by omega) (w64_idem _)) ?_
  rw [drop_cons hi', List.sum_cons, w64_add_l, Int.add_assoc]
theorem ev_impl_total (l : List Int) (hl : l.length ≤ 9223372036854775807) : Ev (fun k => impl_total.f k l) (wrap64 l.sum) := by
 unfold impl_total.f
 simpa using ev_impl_total_l0 l hl l.length 0 0 (by omega) w64_zero

theorem ev_impl_Case_rate (N S U H : List Int) (hu : allB U 0 9 = true) (hh : allB H 0 9 = true) (h8 : H.length ≤ 8) {a1 a2 : Int} (h0 : 0 ≤ a1) (h1 : a1 ≤ a2) (h2 : a1 < (U.length : Int)) (h3 : a2 ≤ (H.length : Int)) : Ev (fun k => impl_Case_rate.f k N S U H a1 a2) (rateV U H a1 a2) := by
 unfold impl_Case_rate.f
 simp only [if_pos h0, if_pos h1, if_pos h2, if_pos h3]
 refine Ev.bind (ev_impl_total _ (by rw [List.length_drop, List.length_take]; omega)) ?_
 have e := hsum_cut H (a2.toNat - a1.toNat) a1.toNat a2.toNat (by omega) (by omega)
 have hb := rateV_in hu hh h0 (show a2 ≤ 8 by omega)
 refine ev_eq (Ev.now _) ?_
 rw [w64_add_r, e]
 unfold rateV at hb ⊢
 rw [show (a2 - a1).toNat = a2.toNat - a1.toNat by omega] at hb ⊢
 exact w64 (by omega) (by omega)

def encP : Option Int → Int × Bool
 | none => (0, false)
 | some c => (c, true)
theorem ev_impl_Case_fresh_l2 (N S U H : List Int) (g : caseOk N S U H) {life : Int} (hl : 1 ≤ life ∧ life ≤ 8) (ss : List Int) (hs : setOk N ss) (t : Nat) (ht : t < N.length) (a : Int) {r : Int × Bool} (d : Nat) : ∀ (j : Nat) (o : Option Int), j + d = ss.length → okO o →
  Ev (fun k => if rd N (t : Int) > 0 then (if encI (lowV U H life (t : Int) (ss.drop j) o) = 1099511627776 then some ((0 : Int), false) else impl_Case_fresh.l1 k life ss (wrap64 (a + wrap64 (rd N (t : Int) * encI (lowV U H life (t : Int) (ss.drop j) o)))) N (N.length : Int) ((t + 1 : Nat) : Int) N S U H) else impl_Case_fresh.l1 k life ss a N (N.length : Int) ((t + 1 : Nat) : Int) N S U H) r →
  Ev (fun k => impl_Case_fresh.l2 k life ss a (t : Int) (rd N (t : Int)) (encI o) N (N.length : Int) (t : Int) ss (ss.length : Int) (j : Int) N S U H) r := by
 obtain ⟨g1, g2, g3, g4, g5, g6, g7, g8⟩ := g
 have hs8 := hs.1
 induction d with
 | zero =>
  intro j o hj ho hK
  refine ev_succ ?_
  have c1 : ¬ (j : Int) < (ss.length : Int) := by omega
  simp only [impl_Case_fresh.l2, c1, ↓reduceIte, w64_nat ht (show N.length ≤ 9223372036854775807 by omega)]
  rw [List.drop_eq_nil_of_le (by omega)] at hK
  exact hK
 | succ d ih =>
  intro j o hj ho hK
  refine ev_succ ?_
  have hj' : j < ss.length := by omega
  have c1 : (j : Int) < (ss.length : Int) := by omega
  have c2 : (0 : Int) ≤ (j : Int) := by omega
  have hx := hs.2 _ (List.getElem_mem hj')
  have hw1 : wrap64 ((t : Int) - life) = (t : Int) - life := w64 (by omega) (by omega)
  have hw2 : wrap64 ((t : Int) - life + 1) = (t : Int) - life + 1 := w64 (by omega) (by omega)
  simp only [impl_Case_fresh.l2, c1, c2, ↓reduceIte, rd_nat hj', hw1, hw2, impl_within_f, Option.bind_some, w64_nat hj' (show ss.length ≤ 9223372036854775807 by omega)]
  rw [drop_cons hj', lowV] at hK
  have hO := okO_step g7 g8 (life := life) hx.1 (show (t : Int) ≤ 8 by omega) ho
  by_cases q : ss[j] ≤ (t : Int) ∧ (t : Int) < ss[j] + life
  ·have q' : inB ss[j] ((t : Int) - life + 1) (t : Int) = true := inB_iff.2 (by omega)
   rw [if_pos q] at hO hK
   simp only [if_pos q']
   refine Ev.bind (ev_impl_Case_rate N S U H g7 g8 (by omega) hx.1 q.1 (by omega) (by omega)) ?_
   have hb := rateV_in g7 g8 (u := U) (h := H) hx.1 (show (t : Int) ≤ 8 by omega)
   have e : mn (encI o) (rateV U H ss[j] (t : Int)) = encI (some (low1 (rateV U H ss[j] (t : Int)) o)) := by
    cases o with
    | none => show mn 1099511627776 _ = _; unfold mn; rw [if_pos (by omega)]; rfl
    | some v => rfl
   rw [e]
   exact ih (j + 1) _ (by omega) hO hK
  ·have q' : ¬ inB ss[j] ((t : Int) - life + 1) (t : Int) = true := fun z => q (by have := inB_iff.1 z; omega)
   rw [if_neg q] at hK
   simp only [if_neg q']
   exact ih (j + 1) _ (by omega) ho hK
theorem ev_impl_Case_fresh_l1 (N S U H : List Int) (g : caseOk N S U H) {life : Int} (hl : 1 ≤ life ∧ life ≤ 8) (ss : List Int) (hs : setOk N ss) (d : Nat) : ∀ (t : Nat) (a : Int), t + d = N.length → 0 ≤ a → a + 1620 * d ≤ 100000 → Ev (fun k => impl_Case_fresh.l1 k life ss a N (N.length : Int) (t : Int) N S U H) (encP (freshT N U H life ss d t a)) := by
 have g' := g
 obtain ⟨g1, g2, g3, g4, g5, g6, g7, g8⟩ := g'
 induction d with
 | zero =>
  intro t a ht h0 h1
  refine ev_succ ?_
  have c1 : ¬ (t : Int) < (N.length : Int) := by omega
  simp only [impl_Case_fresh.l1, c1, ↓reduceIte, freshT]
  exact Ev.now _
 | succ d ih =>
  intro t a ht h0 h1
  refine ev_succ ?_
  have c1 : (t : Int) < (N.length : Int) := by omega
  have c2 : (0 : Int) ≤ (t : Int) := by omega
  simp only [impl_Case_fresh.l1, c1, c2, ↓reduceIte]
  have hO := lowV_ok g7 g8 (life := life) (t := (t : Int)) (by omega) ss none (fun x hx => (hs.2 x hx).1) (fun v e => by cases e)
  refine ev_impl_Case_fresh_l2 N S U H g hl ss hs t (by omega) a ss.length 0 none (by omega) (fun v e => by cases e) ?_
  rw [freshT, List.drop_zero]
  by_cases hn : rd N (t : Int) > 0
  ·rw [if_pos hn]
   simp only [if_pos hn]
   cases hv : lowV U H life (t : Int) ss none with
   | none =>
    simp only [show encI none = 1099511627776 from rfl, if_true]
    exact Ev.now _
   | some v =>
    have hb := hO v hv
    have hm := need_mul (rd_in g5 (by omega) (by omega) (t : Int)) hb
    have e0 : ¬ encI (some v) = 1099511627776 := show ¬ v = _ by omega
    have e1 : wrap64 (rd N (t : Int) * encI (some v)) = rd N (t : Int) * v := w64 (show -9223372036854775808 ≤ rd N (t : Int) * v by omega) (show rd N (t : Int) * v ≤ 9223372036854775807 by omega)
    have e2 : wrap64 (a + rd N (t : Int) * v) = a + rd N (t : Int) * v := w64 (by omega) (by omega)
    simp only [if_neg e0, e1, e2]
    exact ih (t + 1) _ (by omega) (by omega) (by omega)
  ·rw [if_neg hn]
   simp only [if_neg hn]
   exact ih (t + 1) _ (by omega) (by omega) (by omega)
theorem ev_impl_Case_fresh_l0 (N S U H : List Int) (g : caseOk N S U H) {life : Int} (hl : 1 ≤ life ∧ life ≤ 8) (ss : List Int) (hs : setOk N ss) (d : Nat) : ∀ (j : Nat) (a : Int), j + d = ss.length → 0 ≤ a → a + 99 * d ≤ 1000 → Ev (fun k => impl_Case_fresh.l0 k life ss a ss (ss.length : Int) (j : Int) N S U H) (encP (freshT N U H life ss N.length 0 (a + setupV S (ss.drop j)))) := by
 induction d with
 | zero =>
  intro j a hj h0 h1
  refine ev_succ ?_
  have c1 : ¬ (j : Int) < (ss.length : Int) := by omega
  simp only [impl_Case_fresh.l0, c1, ↓reduceIte]
  rw [List.drop_eq_nil_of_le (by omega), show setupV S [] = 0 from rfl, Int.add_zero]
  have := g.1
  exact ev_impl_Case_fresh_l1 N S U H g hl ss hs N.length 0 a (by omega) h0 (by omega)
 | succ d ih =>
  intro j a hj h0 h1
  refine ev_succ ?_
  have hj' : j < ss.length := by omega
  have c1 : (j : Int) < (ss.length : Int) := by omega
  have c2 : (0 : Int) ≤ (j : Int) := by omega
  have hx := hs.2 _ (List.getElem_mem hj')
  have hs8 := hs.1
  have hb := rd_in g.2.2.2.2.2.1 (by omega) (by omega) ss[j]
  have c3 : ss[j] < (S.length : Int) := by have := g.2.1; omega
  simp only [impl_Case_fresh.l0, c1, c2, ↓reduceIte, rd_nat hj', if_pos hx.1, if_pos c3, w64_nat hj' (by omega : ss.length ≤ 9223372036854775807), w64 (show -9223372036854775808 ≤ a + rd S ss[j] by omega) (by omega)]
  refine ev_eq (ih (j + 1) _ (by omega) (by omega) (by omega)) ?_
  rw [drop_cons hj', Int.add_assoc, show setupV S (ss[j] :: ss.drop (j + 1)) = rd S ss[j] + setupV S (ss.drop (j + 1)) from by unfold setupV; rw [List.map_cons, List.sum_cons]]
theorem ev_impl_Case_fresh (N S U H : List Int) (g : caseOk N S U H) {life : Int} (hl : 1 ≤ life ∧ life ≤ 8) (ss : List Int) (hs : setOk N ss) : Ev (fun k => impl_Case_fresh.f k N S U H life ss) (encP (freshV N S U H life ss)) := by
 unfold impl_Case_fresh.f freshV
 have := hs.1
 simpa using ev_impl_Case_fresh_l0 N S U H g hl ss hs ss.length 0 0 (by omega) (by omega) (by omega)

def allFrom (g : Nat → Bool) : Nat → Nat → Bool
 | 0, _ => true
 | d + 1, i => g i && allFrom g d (i + 1)
theorem allFrom_iff (g : Nat → Bool) (d : Nat) : ∀ i, allFrom g d i = true ↔ ∀ j, i ≤ j → j < i + d → g j = true := by
 induction d with
 | zero => intro i; exact ⟨fun _ j h1 h2 => by omega, fun _ => rfl⟩
 | succ d ih =>
  intro i
  rw [allFrom, Bool.and_eq_true, ih (i + 1)]
  constructor
  ·rintro ⟨h1, h2⟩ j h3 h4
   by_cases he : j = i
   ·subst he; exact h1
   ·exact h2 j (by omega) (by omega)
  ·intro h
   exact ⟨h i (by omega) (by omega), fun j h1 h2 => h j (by omega) (by omega)⟩
theorem allFrom_congr {g g' : Nat → Bool} (d : Nat) : ∀ i, (∀ j, i ≤ j → j < i + d → g j = g' j) → allFrom g d i = allFrom g' d i := by
 induction d with
 | zero => intro i _; rfl
 | succ d ih =>
  intro i h
  rw [allFrom, allFrom, h i (by omega) (by omega), ih (i + 1) (fun j h1 h2 => h j (by omega) (by omega))]
def mapFrom {α : Type} (g : Nat → α) : Nat → Nat → List α
 | 0, _ => []
 | d + 1, i => g i :: mapFrom g d (i + 1)
theorem mapFrom_length {α : Type} (g : Nat → α) (d : Nat) : ∀ i, (mapFrom g d i).length = d := by
 induction d with
 | zero => intro i; rfl
 | succ d ih => intro i; rw [mapFrom, List.length_cons, ih]
theorem mapFrom_get {α : Type} (g : Nat → α) (d : Nat) : ∀ (i j : Nat) (h : j < (mapFrom g d i).length), (mapFrom g d i)[j] = g (i + j) := by
 induction d with
 | zero => intro i j h; simp [mapFrom] at h
 | succ d ih =>
  intro i j h
  cases j with
  | zero => rfl
  | succ j =>
   show (mapFrom g d (i + 1))[j]'_ = _
   rw [ih]
   congr 1
   omega
theorem mapFrom_congr {α : Type} {g g' : Nat → α} (d : Nat) : ∀ i, (∀ j, i ≤ j → j < i + d → g j = g' j) → mapFrom g d i = mapFrom g' d i := by
 induction d with
 | zero => intro i _; rfl
 | succ d ih =>
  intro i h
  rw [mapFrom, mapFrom, h i (by omega) (by omega), ih (i + 1) (fun j h1 h2 => h j (by omega) (by omega))]

theorem rdL_mem {m : List (List Int)} {i : Nat} (h : i < m.length) : rd_L1 m (i : Int) ∈ m := by
 unfold rd_L1
 simp [List.getD_eq_getElem?_getD, h]
theorem rdL_nat {m : List (List Int)} {i : Nat} (h : i < m.length) : rd_L1 m (i : Int) = m[i] := by
 unfold rd_L1
 simp [List.getD_eq_getElem?_getD, h]
def shelfB (a : Int) (s n : List Int) (c d : Int) : Bool := inB a 1 8 && (decide (n.length ≤ 8 ∧ s.length = n.length) && (allB s 0 20 && (allB n 0 20 && (inB c 0 20 && inB d 0 20))))
theorem shelfB_spec {a : Int} {s n : List Int} {c d : Int} (h : shelfB a s n c d = true) : (1 ≤ a ∧ a ≤ 8) ∧ n.length ≤ 8 ∧ s.length = n.length := by
 unfold shelfB at h
 rw [Bool.and_eq_true, Bool.and_eq_true, inB_iff, decide_eq_true_eq] at h
 exact ⟨h.1, h.2.1⟩
def useB (a : Int) (row : List Int) (i j : Nat) : Bool := !decide (rd row (j : Int) > 0) || decide ((j : Int) ≤ (i : Int) ∧ (i : Int) < (j : Int) + a)
def rowOk (n : List Int) (m : List (List Int)) (i : Nat) : Bool := decide ((rd_L1 m (i : Int)).length = n.length) && (allB (rd_L1 m (i : Int)) 0 20 && !decide (wrap64 (rd_L1 m (i : Int)).sum > rd n (i : Int)))
def rowB (a : Int) (n : List Int) (m : List (List Int)) (i : Nat) : Bool := rowOk n m i && allFrom (useB a (rd_L1 m (i : Int)) i) n.length 0
theorem rowOk_length {n : List Int} {m : List (List Int)} {i : Nat} (h : rowOk n m i = true) : (rd_L1 m (i : Int)).length = n.length := by
 unfold rowOk at h
 rw [Bool.and_eq_true, decide_eq_true_eq] at h
 exact h.1
theorem rowB_length {a : Int} {n : List Int} {m : List (List Int)} {i : Nat} (h : rowB a n m i = true) : (rd_L1 m (i : Int)).length = n.length := by
 unfold rowB at h
 rw [Bool.and_eq_true] at h
 exact rowOk_length h.1
def colFrom (m : List (List Int)) (j : Nat) : Nat → Nat → Int
 | 0, _ => 0
 | d + 1, i => rd (rd_L1 m (i : Int)) (j : Int) + colFrom m j d (i + 1)
def colV (m : List (List Int)) (j : Nat) : Int := wrap64 (colFrom m j m.length 0)
def colsB (s : List Int) (m : List (List Int)) (n : Nat) : Bool := allFrom (fun j => !decide (colV m j > rd s (j : Int))) n 0
def issueB (a : Int) (s n : List Int) (m : List (List Int)) : Bool := allFrom (rowB a n m) (min m.length n.length) 0 && (decide (m.length = n.length) && colsB s m n.length)
theorem issueB_spec {a : Int} {s n : List Int} {m : List (List Int)} (h : issueB a s n m = true) : m.length = n.length ∧ ∀ i, i < m.length → (rd_L1 m (i : Int)).length = m.length := by
 unfold issueB at h
 rw [Bool.and_eq_true, Bool.and_eq_true, decide_eq_true_eq, allFrom_iff] at h
 refine ⟨h.2.1, fun i hi => ?_⟩
 rw [rowB_length (h.1 i (by omega) (by omega)), h.2.1]
def lostV (n : List Int) (m : List (List Int)) : List Int := mapFrom (fun i => wrap64 (rd n (i : Int) - wrap64 (rd_L1 m (i : Int)).sum)) m.length 0
def wastedV (s : List Int) (m : List (List Int)) : List Int := mapFrom (fun j => wrap64 (rd s (j : Int) - colV m j)) m.length 0
def bothB (a : Int) (s n : List Int) (c d : Int) (m : List (List Int)) : Bool := shelfB a s n c d && issueB a s n m
theorem bothB_spec {a : Int} {s n : List Int} {c d : Int} {m : List (List Int)} (h : bothB a s n c d m = true) : s.length = m.length ∧ n.length = m.length ∧ m.length ≤ 8 ∧ ∀ i, i < m.length → (rd_L1 m (i : Int)).length = m.length := by
 unfold bothB at h
 rw [Bool.and_eq_true] at h
 have h1 := shelfB_spec h.1
 have h2 := issueB_spec h.2
 exact ⟨by omega, by omega, by omega, h2.2⟩
def shelfCostV (a : Int) (s n : List Int) (c d : Int) (m : List (List Int)) : Int × Bool := if bothB a s n c d m = true then (wrap64 (wrap64 (d * wrap64 (lostV n m).sum) + wrap64 (c * wrap64 (wastedV s m).sum)), true) else (0, false)
def lostNeedsV (a : Int) (s n : List Int) (c e : Int) (m : List (List Int)) : List Int × Bool := if bothB a s n c e m = true then (lostV n m, true) else ([], false)
def wastedUnitsV (a : Int) (s n : List Int) (c e : Int) (m : List (List Int)) : List Int × Bool := if bothB a s n c e m = true then (wastedV s m, true) else ([], false)
theorem lostNeedsV_length {a : Int} {s n : List Int} {c e : Int} {m : List (List Int)} : (lostNeedsV a s n c e m).1.length ≤ 8 := by
 unfold lostNeedsV
 by_cases h : bothB a s n c e m = true
 ·rw [if_pos h]
  obtain ⟨h1, h2, h3, h4⟩ := bothB_spec h
  simp only [lostV, mapFrom_length]
  omega
 ·rw [if_neg h]
  simp
theorem wastedUnitsV_length {a : Int} {s n : List Int} {c e : Int} {m : List (List Int)} : (wastedUnitsV a s n c e m).1.length ≤ 8 := by
 unfold wastedUnitsV
 by_cases h : bothB a s n c e m = true
 ·rw [if_pos h]
  obtain ⟨h1, h2, h3, h4⟩ := bothB_spec h
  simp only [wastedV, mapFrom_length]
  omega
 ·rw [if_neg h]
  simp

theorem ev_impl_Case_bestFresh_l0 (N S U H : List Int) (g : caseOk N S U H) {life : Int} (hl : 1 ≤ life ∧ life ≤ 8) (L : List (List Int)) (hL : L.length ≤ 256) (hm : ∀ s ∈ L, s ∈ setsV N.length) (d : Nat) : ∀ (c : Nat) (r : List Int × Int), c + d = L.length → Ev (fun k => impl_Case_bestFresh.l0 k life r.1 r.2 L (L.length : Int) (c : Int) N S U H) (fI (freshF N S U H life) (L.drop c) r) := by
 induction d with
 | zero =>
  intro c r hc
  refine ev_succ ?_
  have c1 : ¬ (c : Int) < (L.length : Int) := by omega
  simp only [impl_Case_bestFresh.l0, c1, ↓reduceIte]
  rw [List.drop_eq_nil_of_le (by omega)]
  exact Ev.now _
 | succ d ih =>
  intro c r hc
  refine ev_succ ?_
  have hc' : c < L.length := by omega
  have c1 : (c : Int) < (L.length : Int) := by omega
  have c2 : (0 : Int) ≤ (c : Int) := by omega
  have hmc := hm _ (List.getElem_mem hc')
  have hs := setOk_of g.1 hmc
  simp only [impl_Case_bestFresh.l0, c1, c2, ↓reduceIte, rdL_nat hc', w64_nat hc' (show L.length ≤ 9223372036854775807 by omega)]
  refine Ev.bind (ev_impl_Case_fresh N S U H g hl _ hs) ?_
  rw [drop_cons hc', fI]
  have hF : freshF N S U H life L[c] = freshV N S U H life L[c] := by unfold freshF; rw [if_pos hmc]
  rw [hF]
  cases hv : freshV N S U H life L[c] with
  | none =>
   simp only [encP, Bool.false_eq_true, if_false]
   exact ih (c + 1) r (by omega)
  | some v =>
   simp only [encP, if_true]
   by_cases q : v < r.2
   ·rw [if_pos q]
    exact ev_yes q (ih (c + 1) (_, v) (by omega))
   ·rw [if_neg q]
    exact ev_no q (ih (c + 1) r (by omega))
theorem ev_impl_Case_bestFresh (N S U H : List Int) (g : caseOk N S U H) {life : Int} (hl : 1 ≤ life ∧ life ≤ 8) : Ev (fun k => impl_Case_bestFresh.f k N S U H life) (bestV N S U H life) := by
 unfold impl_Case_bestFresh.f
 refine Ev.bind (ev_impl_sets N.length g.1) ?_
 rw [← bestV_fI g hl.1]
 have hp := pow8 g.1
 have hlen : ((setsV N.length).mergeSort slices_SortFunc_int_int.le).length ≤ 256 := by rw [List.length_mergeSort, setsV_len]; omega
 simpa using ev_impl_Case_bestFresh_l0 N S U H g hl _ hlen (fun s hs => (List.mergeSort_perm _ _).mem_iff.1 hs) ((setsV N.length).mergeSort slices_SortFunc_int_int.le).length 0 ([], 1099511627776) (by omega)

theorem ev_impl_LifeGains_l0 (N S U H : List Int) (g : caseOk N S U H) (d : Nat) : ∀ (i : Nat) (o : List Int), i + d = 8 → 1 ≤ i → o.length ≤ i → Ev (fun k => impl_LifeGains.l0 k o (i : Int) N S U H) (o ++ gainsV N S U H d i, true) := by
 induction d with
 | zero =>
  intro i o hi h1 ho
  refine ev_succ ?_
  have c1 : ¬ (i : Int) < 8 := by omega
  simp only [impl_LifeGains.l0, c1, ↓reduceIte, gainsV, List.append_nil]
  exact Ev.now _
 | succ d ih =>
  intro i o hi h1 ho
  refine ev_succ ?_
  have c1 : (i : Int) < 8 := by omega
  have c2 : o.length < 17592186044416 := by omega
  have hw : wrap64 ((i : Int) + 1) = ((i + 1 : Nat) : Int) := w64_nat (show i < 8 by omega) (by omega)
  simp only [impl_LifeGains.l0, c1, c2, ↓reduceIte, hw]
  refine Ev.bind (ev_impl_Case_bestFresh N S U H g (life := (i : Int)) (by omega)) ?_
  refine Ev.bind (ev_impl_Case_bestFresh N S U H g (life := ((i + 1 : Nat) : Int)) (by omega)) ?_
  refine ev_eq (ih (i + 1) _ (by omega) (by omega) (by rw [List.length_append, List.length_singleton]; omega)) ?_
  rw [List.append_assoc]
  rfl
theorem ev_impl_LifeGains (N S U H : List Int) (hN : N.length ≤ 1048576) (hS : S.length ≤ 1048576) (hU : U.length ≤ 1048576) (hH : H.length ≤ 1048576) : Ev (fun k => impl_LifeGains.f k N S U H) (lifeGainsV N S U H) := by
 unfold impl_LifeGains.f
 refine Ev.bind (ev_impl_IsCase N S U H hN hS hU hH) ?_
 unfold lifeGainsV
 refine ev_ite (fun h => ?_) (fun h => ?_)
 ·have h' := of_decide_eq_true h
  rw [if_pos h']
  simpa using ev_impl_LifeGains_l0 N S U H h' 7 1 [] (by omega) (by omega) (by simp)
 ·rw [if_neg (fun q => h (decide_eq_true q))]
  exact Ev.now _

theorem FnExactLifeGains (l0_0 : List (Int)) (l0_1 : List (Int)) (l0_2 : List (Int)) (l0_3 : List (Int)) (h0_0 : l0_0.length ≤ 9223372036854775807) (w0_0 : ∀ y ∈ l0_0, (Lit.int .i64 y).wf = true) (h0_1 : l0_1.length ≤ 9223372036854775807) (w0_1 : ∀ y ∈ l0_1, (Lit.int .i64 y).wf = true) (h0_2 : l0_2.length ≤ 9223372036854775807) (w0_2 : ∀ y ∈ l0_2, (Lit.int .i64 y).wf = true) (h0_3 : l0_3.length ≤ 9223372036854775807) (w0_3 : ∀ y ∈ l0_3, (Lit.int .i64 y).wf = true) : ∃ k, laws_FnExactLifeGains.f k l0_0 l0_1 l0_2 l0_3 = some true := by
 refine Ev.rounds ?_
 unfold laws_FnExactLifeGains.f
 rcases laws_szCase_f l0_0 l0_1 l0_2 l0_3 h0_0 h0_1 h0_2 h0_3 with hz | ⟨z, hz, hz0, hsz⟩
 ·simp only [hz, Option.bind_some, show ((-1 : Int) < 0) = True from by simp, if_true]
  exact Ev.now _
 ·have hs := ev_spec_LifeGains l0_0 l0_1 l0_2 l0_3 hsz.1 hsz.2.1 hsz.2.2.1 hsz.2.2.2
  have hi := ev_impl_LifeGains l0_0 l0_1 l0_2 l0_3 hsz.1 hsz.2.1 hsz.2.2.1 hsz.2.2.2
  have hlen := lifeGainsV_len l0_0 l0_1 l0_2 l0_3
  generalize lifeGainsV l0_0 l0_1 l0_2 l0_3 = v at hs hi hlen
  obtain ⟨v, b⟩ := v
  dsimp only at hlen
  have hv : v.length ≤ 1048576 := by omega
  simp only [hz, Option.bind_some, if_neg (show ¬ z < 0 by omega)]
  repeat first
   | exact Ev.now _
   | (refine Ev.bind ht ?_; try dsimp only)
   | (refine Ev.bind hs ?_; try dsimp only)
   | (refine Ev.bind hi ?_; try dsimp only)
   | (refine Ev.bind (ev_laws_eqIntS_self _ (by first | assumption | omega)) ?_; try dsimp only)
   | (refine Ev.bind (ev_laws_markIntS _ _ (by first | assumption | omega) (by first | assumption | omega) (by first | assumption | omega)) ?_; try dsimp only)
   | (refine Ev.bind (ev_laws_heldIntS _ _ (by first | assumption | omega) (by first | assumption | omega) (by first | assumption | omega)) ?_; try dsimp only)
   | (refine Ev.bind (ev_laws_toIntS _ (by first | assumption | omega)) ?_; try dsimp only)
   | (refine Ev.bind (ev_laws_toCase _ _ _ _ (by first | assumption | omega)) ?_; try dsimp only)
   | (refine Ev.bind (ev_laws_eqCase_self _ _ _ _ (by first | assumption | omega)) ?_; try dsimp only)
   | (refine Ev.bind (ev_laws_markCase _ _ _ _ _ (by first | assumption | omega) (by first | assumption | omega) (by first | assumption | omega)) ?_; try dsimp only)
   | (refine ev_ite (fun h => absurd h (by omega)) (fun _ => ?_))
   | (refine ev_ite (fun _ => ?_) (fun h => absurd (by omega) h))
   | (simp only [bne_self_eq_false, Bool.false_eq_true, ↓reduceIte])
   | (refine ev_succ ?_; simp only [laws_FnExactLifeGains.j0])
   | (refine ev_succ ?_; simp only [laws_FnExactLifeGains.j1])
   | (refine ev_succ ?_; simp only [laws_FnExactLifeGains.j2])

end Go.Proofs.Ytgkjnhajomjhcaa.Pure
