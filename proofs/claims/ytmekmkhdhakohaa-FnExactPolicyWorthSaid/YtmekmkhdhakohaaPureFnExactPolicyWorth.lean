/- The pure side of FnExactPolicyWorth: what the program's text computes and what the reference's text computes are the same value, for every argument. No condition. -/
import Derived.Test.YtmekmkhdhakohaaPFnExactPolicyWorthx13
namespace Go.Proofs.Ytmekmkhdhakohaa.Pure
open Go.RowKit Go.Proofs.Ytmekmkhdhakohaa.PFnExactPolicyWorth Go.Proofs.YtmekmkhdhakohaaW.PrintWords Go.Proofs.YtmekmkhdhakohaaW.PrintLast
set_option linter.unusedVariables false
set_option linter.unusedSimpArgs false

theorem ev_succ {α : Type} {g : Nat → Option α} {r : α} (h : Ev (fun k => g (k + 1)) r) : Ev g r := Ev.step (fun _ => rfl) h
theorem ev_pure {α : Type} {x : Option α} {r : α} (h : x = some r) : Ev (fun _ => x) r := ⟨0, fun _ _ => h⟩
theorem ev_eq {α : Type} {g : Nat → Option α} {r r' : α} (h : Ev g r) (e : r = r') : Ev g r' := e ▸ h
theorem ev_ite {α : Type} {c : Prop} [Decidable c] {g f : Nat → Option α} {r : α} (h1 : c → Ev g r) (h2 : ¬ c → Ev f r) : Ev (fun k => if c then g k else f k) r := by
 by_cases h : c
 ·simp only [h, if_true]; exact h1 h
 ·simp only [h, if_false]; exact h2 h
theorem w64 {x : Int} (h : -9223372036854775808 ≤ x) (h' : x ≤ 9223372036854775807) : wrap64 x = x := by unfold wrap64; omega
theorem w64_zero : wrap64 0 = 0 := w64 (by omega) (by omega)
theorem w64_idem (x : Int) : wrap64 (wrap64 x) = wrap64 x := by unfold wrap64; omega
theorem w64_add_l (x y : Int) : wrap64 (wrap64 x + y) = wrap64 (x + y) := by unfold wrap64; omega
theorem w64_add_r (x y : Int) : wrap64 (x + wrap64 y) = wrap64 (x + y) := by unfold wrap64; omega
theorem w64_sub_l (x y : Int) : wrap64 (wrap64 x - y) = wrap64 (x - y) := by unfold wrap64; omega
theorem w64_sub_r (x y : Int) : wrap64 (x - wrap64 y) = wrap64 (x - y) := by unfold wrap64; omega
theorem w64_shift (x k : Int) : wrap64 (x + 18446744073709551616 * k) = wrap64 x := by unfold wrap64; omega
theorem w64_ex (x : Int) : ∃ k, wrap64 x = x + 18446744073709551616 * k := by
 unfold wrap64
 exact ⟨-((x + 9223372036854775808) / 18446744073709551616), by omega⟩
theorem w64_mul_l (x y : Int) : wrap64 (wrap64 x * y) = wrap64 (x * y) := by
 obtain ⟨k, hk⟩ := w64_ex x
 rw [hk, Int.add_mul, Int.mul_assoc, w64_shift]
theorem w64_mul_r (x y : Int) : wrap64 (x * wrap64 y) = wrap64 (x * y) := by
 rw [Int.mul_comm, w64_mul_l, Int.mul_comm]
theorem w64_neg (x : Int) : wrap64 (-wrap64 x) = wrap64 (-x) := by unfold wrap64; omega
theorem w64_range (x : Int) : -9223372036854775808 ≤ wrap64 x ∧ wrap64 x ≤ 9223372036854775807 := by unfold wrap64; omega
theorem w64_nat {i n : Nat} (h : i < n) (hn : n ≤ 9223372036854775807) : wrap64 ((i : Int) + 1) = ((i + 1 : Nat) : Int) := by rw [w64 (by omega) (by omega)]; rfl
theorem wf_range {x : Int} (h : (Lit.int .i64 x).wf = true) : -9223372036854775808 ≤ x ∧ x ≤ 9223372036854775807 := by
 simp [Lit.wf, IntKind.min, IntKind.max, IntKind.signed, IntKind.bits] at h
 omega
theorem rd_nat {l : List Int} {i : Nat} (h : i < l.length) : rd l (i : Int) = l[i] := by
 unfold rd
 simp [List.getD_eq_getElem?_getD, h]
def allB (l : List Int) (a b : Int) : Bool := l.all fun x => decide (a ≤ x ∧ x ≤ b)
def inB (x a b : Int) : Bool := decide (a ≤ x ∧ x ≤ b)
theorem allB_mem {l : List Int} {a b : Int} (h : allB l a b = true) : ∀ x ∈ l, a ≤ x ∧ x ≤ b := by
 intro x hx
 have := List.all_eq_true.1 h x hx
 simpa using this
theorem inB_iff {x a b : Int} : inB x a b = true ↔ a ≤ x ∧ x ≤ b := by unfold inB; simp
theorem sum_le {l : List Int} {b : Int} (hb : ∀ x ∈ l, x ≤ b) : l.sum ≤ l.length * b := by
 induction l with
 | nil => simp
 | cons x l ih =>
  have h1 := hb x (by simp)
  have h2 := ih (fun y hy => hb y (by simp [hy]))
  rw [List.sum_cons, List.length_cons]
  have : ((l.length + 1 : Nat) : Int) * b = l.length * b + b := by rw [Int.natCast_add, Int.add_mul]; simp
  rw [this]; omega
theorem le_sum {l : List Int} {b : Int} (hb : ∀ x ∈ l, b ≤ x) : l.length * b ≤ l.sum := by
 induction l with
 | nil => simp
 | cons x l ih =>
  have h1 := hb x (by simp)
  have h2 := ih (fun y hy => hb y (by simp [hy]))
  rw [List.sum_cons, List.length_cons]
  have : ((l.length + 1 : Nat) : Int) * b = l.length * b + b := by rw [Int.natCast_add, Int.add_mul]; simp
  rw [this]; omega
theorem drop_cons {α : Type} {l : List α} {i : Nat} (h : i < l.length) : l.drop i = l[i] :: l.drop (i + 1) := List.drop_eq_getElem_cons h
theorem ev_yes {α : Type} {c : Prop} [Decidable c] {g f : Nat → Option α} {r : α} (h : c) (hg : Ev g r) : Ev (fun k => if c then g k else f k) r := ev_ite (fun _ => hg) (fun hn => absurd h hn)
theorem ev_no {α : Type} {c : Prop} [Decidable c] {g f : Nat → Option α} {r : α} (h : ¬ c) (hf : Ev f r) : Ev (fun k => if c then g k else f k) r := ev_ite (fun hn => absurd hn h) (fun _ => hf)

theorem laws_szIntS_le (l : List Int) (hl : l.length ≤ 1048576) : laws_szIntS.f l 1048576 = some (1048576 - (l.length : Int)) := by
 unfold laws_szIntS.f
 rw [w64 (by omega) (by omega), if_neg (by omega)]
theorem laws_szIntS_gt (l : List Int) (h : l.length ≤ 9223372036854775807) (hl : 1048576 < l.length) : laws_szIntS.f l 1048576 = some (-1) := by
 unfold laws_szIntS.f
 rw [w64 (by omega) (by omega), if_pos (by omega)]
theorem laws_szIntS_f (l : List Int) (t : Int) (h : l.length ≤ 9223372036854775807) (h0 : 0 ≤ t) (h1 : t ≤ 1048576) : laws_szIntS.f l t = some (if t - (l.length : Int) < 0 then -1 else t - (l.length : Int)) := by
 unfold laws_szIntS.f
 rw [w64 (by omega) (by omega)]
 by_cases hc : t - (l.length : Int) < 0
 ·rw [if_pos hc, if_pos hc]
 ·rw [if_neg hc, if_neg hc]

theorem laws_szProcess_le (n : Int) (l : List Int) (s u h b : Int) (hl : l.length ≤ 1048576) : laws_szProcess.f n l s u h b 1048576 = some (1048576 - (l.length : Int)) := by
 unfold laws_szProcess.f
 rw [laws_szIntS_le l hl, Option.bind_some, if_neg (by omega)]
theorem laws_szProcess_gt (n : Int) (l : List Int) (s u h b : Int) (hh : l.length ≤ 9223372036854775807) (hl : 1048576 < l.length) : laws_szProcess.f n l s u h b 1048576 = some (-1) := by
 unfold laws_szProcess.f
 rw [laws_szIntS_gt l hh hl, Option.bind_some, if_pos (by omega)]

theorem laws_szIntA2S_f (l : List S72) (t : Int) (h : l.length ≤ 9223372036854775807) (h0 : 0 ≤ t) (h1 : t ≤ 1048576) : laws_szIntA2S.f l t = some (if t - (l.length : Int) < 0 then -1 else t - (l.length : Int)) := by
 unfold laws_szIntA2S.f
 rw [w64 (by omega) (by omega)]
 split <;> rfl

theorem ev_laws_toIntS_l0 (l : List Int) (hl : l.length ≤ 9223372036854775807) (d : Nat) : ∀ (i : Nat) (o : List Int), i + d = l.length → o.length = l.length → Ev (fun k => laws_toIntS.l0 k l o (i : Int)) (o.take i ++ l.drop i) := by
 induction d with
 | zero =>
  intro i o hi ho
  refine ev_succ ?_
  have h1 : ¬ (i : Int) < (l.length : Int) := by omega
  simp only [laws_toIntS.l0, h1, ↓reduceIte]
  rw [List.drop_eq_nil_of_le (by omega), List.take_of_length_le (by omega), List.append_nil]
  exact Ev.now _
 | succ d ih =>
  intro i o hi ho
  refine ev_succ ?_
  have h1 : (i : Int) < (l.length : Int) := by omega
  have h2 : (i : Int) < (o.length : Int) := by omega
  have h0 : (0 : Int) ≤ (i : Int) := by omega
  have hi' : i < l.length := by omega
  simp only [laws_toIntS.l0, h1, h2, h0, ↓reduceIte, rd_nat hi', w64_nat hi' hl, Int.toNat_natCast]
  refine ev_eq (ih (i + 1) _ (by omega) (by simp [ho])) ?_
  rw [drop_cons hi', List.take_add_one]
  simp [ho, hi', List.take_set_of_le (Nat.le_refl i)]
theorem ev_laws_toIntS (l : List Int) (hl : l.length ≤ 1048576) : Ev (fun k => laws_toIntS.f k l) l := by
 unfold laws_toIntS.f
 have h0 : (0 : Int) ≤ (l.length : Int) := by omega
 have h1 : ((l.length : Int) : Int).toNat ≤ 35184372088832 := by omega
 simp only [h0, h1, ↓reduceIte]
 simpa using ev_laws_toIntS_l0 l (by omega) l.length 0 (List.replicate ((l.length : Int) : Int).toNat 0) (by omega) (by simp)

theorem ev_laws_toProcess (n : Int) (l : List Int) (s u h b : Int) (hl : l.length ≤ 1048576) : Ev (fun k => laws_toProcess.f k n l s u h b) (n, l, s, u, h, b) := by
 unfold laws_toProcess.f
 exact Ev.bind (ev_laws_toIntS l hl) (Ev.now _)

theorem ev_laws_toIntA2 (x y : Int) : Ev (fun k => laws_toIntA2.f k x y) (x, y) := by
 unfold laws_toIntA2.f
 refine ev_succ (ev_succ (ev_succ ?_))
 have e1 : wrap64 1 = 1 := w64 (by omega) (by omega)
 have e2 : wrap64 2 = 2 := w64 (by omega) (by omega)
 simp only [laws_toIntA2.l0, Int.reduceLT, Int.reduceEq, Int.reduceAdd, e1, e2, ↓reduceIte]
 exact Ev.now _

theorem rdA2_nat {l : List S72} {i : Nat} (h : i < l.length) : rd_T72 l (i : Int) = l[i] := by
 unfold rd_T72
 simp [List.getD_eq_getElem?_getD, h]

theorem ev_laws_toIntA2S_l0 (l : List S72) (hl : l.length ≤ 9223372036854775807) (d : Nat) : ∀ (i : Nat) (o : List S72), i + d = l.length → o.length = l.length → Ev (fun k => laws_toIntA2S.l0 k l o (i : Int)) (o.take i ++ l.drop i) := by
 induction d with
 | zero =>
  intro i o hi ho
  refine ev_succ ?_
  have h1 : ¬ (i : Int) < (l.length : Int) := by omega
  simp only [laws_toIntA2S.l0, h1, ↓reduceIte]
  rw [List.drop_eq_nil_of_le (by omega), List.take_of_length_le (by omega), List.append_nil]
  exact Ev.now _
 | succ d ih =>
  intro i o hi ho
  refine ev_succ ?_
  have h1 : (i : Int) < (l.length : Int) := by omega
  have h2 : (i : Int) < (o.length : Int) := by omega
  have h0 : (0 : Int) ≤ (i : Int) := by omega
  have hi' : i < l.length := by omega
  simp only [laws_toIntA2S.l0, h1, h2, h0, ↓reduceIte, w64_nat hi' hl, Int.toNat_natCast]
  refine Ev.bind (ev_laws_toIntA2 _ _) ?_
  refine ev_eq (ih (i + 1) _ (by omega) (by simp [ho])) ?_
  have e : (⟨l[i].f0, l[i].f1⟩ : S72) :: l.drop (i + 1) = l.drop i := (drop_cons hi').symm
  rw [List.take_add_one, rdA2_nat hi']
  simp [ho, hi', List.take_set_of_le (Nat.le_refl i), e]
theorem ev_laws_toIntA2S (l : List S72) (hl : l.length ≤ 1048576) : Ev (fun k => laws_toIntA2S.f k l) l := by
 unfold laws_toIntA2S.f
 have h0 : (0 : Int) ≤ (l.length : Int) := by omega
 have h1 : ((l.length : Int) : Int).toNat ≤ 17592186044416 := by omega
 simp only [h0, h1, ↓reduceIte]
 simpa using ev_laws_toIntA2S_l0 l (by omega) l.length 0 (List.replicate ((l.length : Int) : Int).toNat z72) (by omega) (by simp)

theorem ev_laws_eqIntS_l0 (l m : List Int) (hl : l.length ≤ 9223372036854775807) (he : l.length = m.length) (d : Nat) : ∀ (i : Nat), i + d = l.length → Ev (fun k => laws_eqIntS.l0 k l m (i : Int)) (decide (l.drop i = m.drop i)) := by
 induction d with
 | zero =>
  intro i hi
  refine ev_succ ?_
  have h1 : ¬ (i : Int) < (l.length : Int) := by omega
  simp only [laws_eqIntS.l0, h1, ↓reduceIte]
  rw [List.drop_eq_nil_of_le (by omega), List.drop_eq_nil_of_le (by omega)]
  exact Ev.now _
 | succ d ih =>
  intro i hi
  refine ev_succ ?_
  have h1 : (i : Int) < (l.length : Int) := by omega
  have h2 : (i : Int) < (m.length : Int) := by omega
  have h0 : (0 : Int) ≤ (i : Int) := by omega
  have hi' : i < l.length := by omega
  have hm' : i < m.length := by omega
  simp only [laws_eqIntS.l0, h1, h2, h0, ↓reduceIte, rd_nat hi', rd_nat hm', w64_nat hi' hl]
  refine ev_ite (fun h => ?_) (fun h => ?_)
  ·refine ev_eq (ih (i + 1) (by omega)) ?_
   rw [drop_cons hi', drop_cons hm', decide_eq_decide, h, List.cons.injEq]
   exact (and_iff_right rfl).symm
  ·refine ev_eq (Ev.now _) ?_
   rw [drop_cons hi', drop_cons hm']
   symm
   rw [decide_eq_false_iff_not, List.cons.injEq]
   exact fun hc => h hc.1
theorem ev_laws_eqIntS (l m : List Int) (hl : l.length ≤ 9223372036854775807) : Ev (fun k => laws_eqIntS.f k l m) (decide (l = m)) := by
 unfold laws_eqIntS.f
 refine ev_ite (fun h => ?_) (fun h => ?_)
 ·simpa using ev_laws_eqIntS_l0 l m hl (by omega) l.length 0 (by omega)
 ·refine ev_eq (Ev.now _) ?_
  symm
  rw [decide_eq_false_iff_not]
  rintro rfl
  exact h rfl
theorem ev_laws_eqIntS_self (l : List Int) (hl : l.length ≤ 9223372036854775807) : Ev (fun k => laws_eqIntS.f k l l) true := by
 simpa using ev_laws_eqIntS l l hl

theorem ev_laws_eqProcess_self (n : Int) (l : List Int) (s u h b : Int) (hl : l.length ≤ 9223372036854775807) : Ev (fun k => laws_eqProcess.f k n l s u h b n l s u h b) true := by
 unfold laws_eqProcess.f
 simp only [↓reduceIte]
 refine Ev.bind (ev_laws_eqIntS_self l hl) ?_
 simp only [↓reduceIte]
 exact Ev.now _

theorem ev_laws_eqIntA2_self (x y : Int) : Ev (fun k => laws_eqIntA2.f k x y x y) true := by
 unfold laws_eqIntA2.f
 refine ev_succ (ev_succ (ev_succ ?_))
 have e1 : wrap64 1 = 1 := w64 (by omega) (by omega)
 have e2 : wrap64 2 = 2 := w64 (by omega) (by omega)
 simp only [laws_eqIntA2.l0, Int.reduceLT, Int.reduceEq, Int.reduceAdd, e1, e2, ↓reduceIte]
 exact Ev.now _

theorem ev_laws_eqIntA2S_self_l0 (l : List S72) (hl : l.length ≤ 9223372036854775807) (d : Nat) : ∀ (i : Nat), i + d = l.length → Ev (fun k => laws_eqIntA2S.l0 k l l (i : Int)) true := by
 induction d with
 | zero =>
  intro i hi
  refine ev_succ ?_
  have h1 : ¬ (i : Int) < (l.length : Int) := by omega
  simp only [laws_eqIntA2S.l0, h1, ↓reduceIte]
  exact Ev.now _
 | succ d ih =>
  intro i hi
  refine ev_succ ?_
  have h1 : (i : Int) < (l.length : Int) := by omega
  have h0 : (0 : Int) ≤ (i : Int) := by omega
  have hi' : i < l.length := by omega
  simp only [laws_eqIntA2S.l0, h1, h0, ↓reduceIte, w64_nat hi' hl]
  refine Ev.bind (ev_laws_eqIntA2_self _ _) ?_
  simp only [↓reduceIte]
  exact ih (i + 1) (by omega)
theorem ev_laws_eqIntA2S_self (l : List S72) (hl : l.length ≤ 9223372036854775807) : Ev (fun k => laws_eqIntA2S.f k l l) true := by
 unfold laws_eqIntA2S.f
 simp only [↓reduceIte]
 exact ev_laws_eqIntA2S_self_l0 l hl l.length 0 (by omega)

def marked (m : Int) : Nat → List Int
 | 0 => []
 | n + 1 => m :: marked (m + 1) n
theorem marked_length (m : Int) (n : Nat) : (marked m n).length = n := by
 induction n generalizing m with
 | zero => rfl
 | succ n ih => simp [marked, ih]
theorem marked_get (m : Int) (n i : Nat) (h : i < (marked m n).length) : (marked m n)[i] = m + i := by
 induction n generalizing m i with
 | zero => simp [marked] at h
 | succ n ih =>
  cases i with
  | zero => simp [marked]
  | succ i =>
   simp only [marked, List.getElem_cons_succ]
   rw [ih]
   omega
theorem ev_laws_markIntS_l0 (l0 : List Int) (hl : l0.length ≤ 4611686018427387904) (m0 : Int) (h0 : 0 ≤ m0) (h1 : m0 ≤ 1000000000) (d : Nat) : ∀ (i : Nat) (l : List Int), i + d = l.length → l.length = l0.length → Ev (fun k => laws_markIntS.l0 k l (m0 + (i : Int)) (i : Int)) (m0 + (l.length : Int), l.take i ++ marked (m0 + i) d) := by
 induction d with
 | zero =>
  intro i l hi hle
  refine ev_succ ?_
  have h1 : ¬ (i : Int) < (l.length : Int) := by omega
  simp only [laws_markIntS.l0, h1, ↓reduceIte]
  rw [List.take_of_length_le (by omega)]
  have : i = l.length := by omega
  subst this
  simp only [marked, List.append_nil]
  exact Ev.now _
 | succ d ih =>
  intro i l hi hle
  refine ev_succ ?_
  have h1' : (i : Int) < (l.length : Int) := by omega
  have h0' : (0 : Int) ≤ (i : Int) := by omega
  have hi' : i < l.length := by omega
  have e1 : wrap64 (m0 + (i : Int) + 1) = m0 + ((i + 1 : Nat) : Int) := by rw [w64 (by omega) (by omega)]; omega
  simp only [laws_markIntS.l0, h1', h0', ↓reduceIte, w64_nat hi' (by omega : l.length ≤ 9223372036854775807), Int.toNat_natCast, e1]
  refine ev_eq (ih (i + 1) (l.set i (m0 + (i : Int))) (by simp; omega) (by simp [hle])) ?_
  rw [List.length_set]
  congr 1
  rw [List.take_add_one]
  simp only [List.getElem?_set_self hi', List.take_set_of_le (Nat.le_refl i)]
  simp only [Option.toList_some, List.append_assoc, List.singleton_append, marked]
  congr 3
  omega
theorem ev_laws_markIntS (l : List Int) (m : Int) (hl : l.length ≤ 4611686018427387904) (h0 : 0 ≤ m) (h1 : m ≤ 1000000000) : Ev (fun k => laws_markIntS.f k l m) (m + (l.length : Int), marked m l.length) := by
 unfold laws_markIntS.f
 simpa using ev_laws_markIntS_l0 l hl m h0 h1 l.length 0 l (by omega) rfl

theorem ev_laws_markProcess (n : Int) (l : List Int) (s u h b x : Int) (hl : l.length ≤ 4611686018427387904) (h0 : 0 ≤ x) (h1 : x ≤ 1000000000) : Ev (fun k => laws_markProcess.f k n l s u h b x) (x + (l.length : Int), marked x l.length) := by
 unfold laws_markProcess.f
 exact Ev.bind (ev_laws_markIntS l x hl h0 h1) (Ev.now _)

theorem ev_laws_heldIntS_l0 (m0 : Int) (n : Nat) (hn : n ≤ 4611686018427387904) (h0 : 0 ≤ m0) (h1 : m0 ≤ 1000000000) (d : Nat) : ∀ (i : Nat), i + d = n → Ev (fun k => laws_heldIntS.l0 k (marked m0 n) (m0 + (i : Int)) (i : Int)) (m0 + (n : Int)) := by
 induction d with
 | zero =>
  intro i hi
  refine ev_succ ?_
  have h1 : ¬ (i : Int) < ((marked m0 n).length : Int) := by rw [marked_length]; omega
  simp only [laws_heldIntS.l0, h1, ↓reduceIte]
  have : i = n := by omega
  subst this
  exact Ev.now _
 | succ d ih =>
  intro i hi
  refine ev_succ ?_
  have h1' : (i : Int) < ((marked m0 n).length : Int) := by rw [marked_length]; omega
  have h0' : (0 : Int) ≤ (i : Int) := by omega
  have hi' : i < (marked m0 n).length := by rw [marked_length]; omega
  have e1 : wrap64 (m0 + (i : Int) + 1) = m0 + ((i + 1 : Nat) : Int) := by rw [w64 (by omega) (by omega)]; omega
  have e2 : wrap64 ((i : Int) + 1) = ((i + 1 : Nat) : Int) := w64_nat (n := n) (by omega) (by omega)
  simp only [laws_heldIntS.l0, h1', h0', ↓reduceIte, rd_nat hi', marked_get, e1, e2]
  exact ih (i + 1) (by omega)
theorem ev_laws_heldIntS (m : Int) (n : Nat) (hn : n ≤ 4611686018427387904) (h0 : 0 ≤ m) (h1 : m ≤ 1000000000) : Ev (fun k => laws_heldIntS.f k (marked m n) m) (m + (n : Int)) := by
 unfold laws_heldIntS.f
 simpa using ev_laws_heldIntS_l0 m n hn h0 h1 n 0 (by omega)

def markedA2 (m : Int) : Nat → List S72
 | 0 => []
 | n + 1 => ⟨m, m + 1⟩ :: markedA2 (m + 2) n
theorem markedA2_length (m : Int) (n : Nat) : (markedA2 m n).length = n := by
 induction n generalizing m with
 | zero => rfl
 | succ n ih => simp [markedA2, ih]
theorem markedA2_get (m : Int) (n i : Nat) (h : i < (markedA2 m n).length) : (markedA2 m n)[i] = ⟨m + 2 * i, m + 2 * i + 1⟩ := by
 induction n generalizing m i with
 | zero => simp [markedA2] at h
 | succ n ih =>
  cases i with
  | zero => simp [markedA2]
  | succ i =>
   simp only [markedA2, List.getElem_cons_succ]
   rw [ih]
   simp only [Int.natCast_add, Int.cast_ofNat_Int, Int.mul_add]
   congr 1 <;> omega
theorem ev_laws_markIntA2S_l0 (n0 : Nat) (hl : n0 ≤ 1000000000000) (m0 : Int) (h0 : 0 ≤ m0) (h1 : m0 ≤ 1000000000) (d : Nat) : ∀ (i : Nat) (l : List S72), i + d = l.length → l.length = n0 → Ev (fun k => laws_markIntA2S.l0 k l (m0 + 2 * (i : Int)) (i : Int)) (m0 + 2 * (l.length : Int), l.take i ++ markedA2 (m0 + 2 * i) d) := by
 induction d with
 | zero =>
  intro i l hi hle
  refine ev_succ ?_
  have h1 : ¬ (i : Int) < (l.length : Int) := by omega
  simp only [laws_markIntA2S.l0, h1, ↓reduceIte]
  rw [List.take_of_length_le (by omega)]
  have : i = l.length := by omega
  subst this
  simp only [markedA2, List.append_nil]
  exact Ev.now _
 | succ d ih =>
  intro i l hi hle
  refine ev_succ (ev_succ (ev_succ (ev_succ ?_)))
  have h1' : (i : Int) < (l.length : Int) := by omega
  have h0' : (0 : Int) ≤ (i : Int) := by omega
  have hi' : i < l.length := by omega
  have c1 : wrap64 1 = 1 := w64 (by omega) (by omega)
  have c2 : wrap64 2 = 2 := w64 (by omega) (by omega)
  have e1 : wrap64 (m0 + 2 * (i : Int) + 1) = m0 + 2 * (i : Int) + 1 := w64 (by omega) (by omega)
  have e2 : wrap64 (m0 + 2 * (i : Int) + 1 + 1) = m0 + 2 * ((i + 1 : Nat) : Int) := by rw [w64 (by omega) (by omega)]; omega
  have r1 : ∀ x, rd_T72 (l.set i x) (i : Int) = x := fun x => by rw [rdA2_nat (by simpa using hi')]; simp
  simp only [laws_markIntA2S.l0, laws_markIntA2S.l1, h1', h0', Int.reduceLT, Int.reduceEq, Int.reduceAdd, c1, c2, ↓reduceIte, w64_nat hi' (by omega : l.length ≤ 9223372036854775807), Int.toNat_natCast, List.length_set, e1, e2, r1, List.set_set]
  refine ev_eq (ih (i + 1) (l.set i _) (by simp; omega) (by simp [hle])) ?_
  rw [List.length_set]
  congr 1
  rw [List.take_add_one]
  simp only [List.getElem?_set_self hi', List.take_set_of_le (Nat.le_refl i)]
  simp only [Option.toList_some, List.append_assoc, List.singleton_append, markedA2]
  congr 3
  omega
theorem ev_laws_markIntA2S (l : List S72) (m : Int) (hl : l.length ≤ 1000000000000) (h0 : 0 ≤ m) (h1 : m ≤ 1000000000) : Ev (fun k => laws_markIntA2S.f k l m) (m + 2 * (l.length : Int), markedA2 m l.length) := by
 unfold laws_markIntA2S.f
 simpa using ev_laws_markIntA2S_l0 l.length hl m h0 h1 l.length 0 l (by omega) rfl

theorem spec_l1In_f (a b c : Int) : spec_l1In.f a b c = some (inB a b c) := by
 unfold spec_l1In.f inB
 by_cases h : a ≥ b
 ·rw [if_pos h]; congr 1; rw [decide_eq_decide]; omega
 ·rw [if_neg h]; congr 1; symm; rw [decide_eq_false_iff_not]; omega

theorem spec_l6Level_f (x : Int) : spec_l6Level.f x = some (inB x (-10) 10) := by
 unfold spec_l6Level.f
 rw [spec_l1In_f, Option.bind_some]

def cst (h b x : Int) : Int := if x > 0 then wrap64 (h * x) else wrap64 (wrap64 (-b) * x)
def ratesB (h b : Int) : Bool := inB h 0 9 && inB b 0 9
def costV (l : List Int) (h b : Int) : Int := wrap64 (l.map (cst h b)).sum
def stockV (l : List Int) (h b : Int) : Int × Bool := if (decide ((l.length : Int) ≤ 20) && ratesB h b && allB l (-200) 200) = true then (costV l h b, true) else (0, false)
theorem ratesB_mem {h b : Int} (hr : ratesB h b = true) : (0 ≤ h ∧ h ≤ 9) ∧ 0 ≤ b ∧ b ≤ 9 := by
 unfold ratesB at hr
 simp only [Bool.and_eq_true, inB_iff] at hr
 exact hr
theorem cst_impl {h b x : Int} (hh : 0 ≤ h ∧ h ≤ 9) (hb : 0 ≤ b ∧ b ≤ 9) (hx : -100000 ≤ x ∧ x ≤ 100000) : wrap64 (wrap64 (h * mx 0 x) + wrap64 (b * mx 0 (wrap64 (-x)))) = cst h b x := by
 have e : wrap64 (-x) = -x := w64 (by omega) (by omega)
 have e2 : wrap64 (-b) = -b := w64 (by omega) (by omega)
 rw [e]
 unfold cst
 rw [e2]
 by_cases hp : x > 0
 ·have m1 : mx 0 x = x := by unfold mx; omega
  have m2 : mx 0 (-x) = 0 := by unfold mx; omega
  rw [m1, m2, if_pos hp, Int.mul_zero, w64_add_l, w64_add_r, Int.add_zero]
 ·have m1 : mx 0 x = 0 := by unfold mx; omega
  have m2 : mx 0 (-x) = -x := by unfold mx; omega
  rw [m1, m2, if_neg hp, Int.mul_zero, w64_add_l, w64_add_r, Int.zero_add, Int.mul_neg, Int.neg_mul]
theorem cst_range {h b x : Int} (hh : 0 ≤ h ∧ h ≤ 9) (hb : 0 ≤ b ∧ b ≤ 9) (hx : -100000 ≤ x ∧ x ≤ 100000) : 0 ≤ cst h b x ∧ cst h b x ≤ 900000 := by
 unfold cst
 rw [w64 (x := -b) (by omega) (by omega)]
 by_cases hp : x > 0
 ·rw [if_pos hp]
  have h1 : 0 ≤ h * x := Int.mul_nonneg hh.1 (by omega)
  have h2 : h * x ≤ 9 * x := Int.mul_le_mul_of_nonneg_right hh.2 (by omega)
  rw [w64 (by omega) (by omega)]
  omega
 ·rw [if_neg hp, Int.neg_mul, ← Int.mul_neg]
  have h1 : 0 ≤ b * -x := Int.mul_nonneg hb.1 (by omega)
  have h2 : b * -x ≤ 9 * -x := Int.mul_le_mul_of_nonneg_right hb.2 (by omega)
  rw [w64 (by omega) (by omega)]
  omega

def procB (n : Int) (l : List Int) (s u h b : Int) : Bool := inB n 0 5 && (inB (l.length : Int) 1 5 && (allB l 0 4 && (decide (wrap64 l.sum > 0) && (inB s 0 99 && (inB u 0 9 && (inB h 0 9 && inB b 0 9))))))
theorem procB_spec {n : Int} {l : List Int} {s u h b : Int} (hp : procB n l s u h b = true) : (0 ≤ n ∧ n ≤ 5) ∧ (1 ≤ l.length ∧ l.length ≤ 5) ∧ (∀ x ∈ l, 0 ≤ x ∧ x ≤ 4) ∧ (0 < l.sum ∧ l.sum ≤ 20) ∧ (0 ≤ s ∧ s ≤ 99) ∧ (0 ≤ u ∧ u ≤ 9) ∧ (0 ≤ h ∧ h ≤ 9) ∧ (0 ≤ b ∧ b ≤ 9) := by
 unfold procB at hp
 simp only [Bool.and_eq_true, inB_iff, decide_eq_true_eq] at hp
 obtain ⟨h1, h2, h3, h4, h5, h6, h7, h8⟩ := hp
 have hm := allB_mem h3
 have s1 := sum_le (b := 4) (fun y hy => (hm y hy).2)
 have s2 := le_sum (b := 0) (fun y hy => (hm y hy).1)
 rw [w64 (by omega) (by omega)] at h4
 exact ⟨h1, by omega, hm, by omega, h5, h6, h7, h8⟩
def floorV (l : List Int) : Int := wrap64 (wrap64 ((l.length : Int) - 1) - 10)
theorem floorV_eq {l : List Int} (h : l.length ≤ 5) : floorV l = (l.length : Int) - 11 := by
 unfold floorV
 rw [w64 (x := (l.length : Int) - 1) (by omega) (by omega), w64 (by omega) (by omega)]
 omega
def orderV (s u x y : Int) : Int := if y > x then wrap64 (s + wrap64 (u * wrap64 (y - x))) else 0

theorem spec_l6Floor_f (n : Int) (l : List Int) (s u h b : Int) : spec_l6Floor.f n l s u h b = some (floorV l) := rfl

def pairB (l : List Int) (x : S72) : Bool := inB x.f0 (-10) 10 && (inB x.f1 (-10) 10 && (!decide (x.f0 > x.f1) && !decide (x.f1 < floorV l)))
theorem pairB_spec {l : List Int} {x : S72} (h : pairB l x = true) : (-10 ≤ x.f0 ∧ x.f0 ≤ 10) ∧ (-10 ≤ x.f1 ∧ x.f1 ≤ 10) ∧ x.f0 ≤ x.f1 ∧ floorV l ≤ x.f1 := by
 unfold pairB at h
 simp only [Bool.and_eq_true, inB_iff, Bool.not_eq_true', decide_eq_false_iff_not] at h
 omega
def polFrom (n : Int) (l : List Int) (L : List S72) : Nat → Nat → Bool
 | 0, _ => ((L.length : Int) == n)
 | d + 1, i => pairB l (rd_T72 L (i : Int)) && polFrom n l L d (i + 1)
def policyB (n : Int) (l : List Int) (L : List S72) : Bool := polFrom n l L L.length 0
theorem polFrom_spec {n : Int} {l : List Int} {L : List S72} (d : Nat) : ∀ i, polFrom n l L d i = true → (L.length : Int) = n ∧ ∀ j, i ≤ j → j < i + d → pairB l (rd_T72 L (j : Int)) = true := by
 induction d with
 | zero => intro i h; exact ⟨by simpa [polFrom] using h, fun j h1 h2 => by omega⟩
 | succ d ih =>
  intro i h
  rw [polFrom, Bool.and_eq_true] at h
  obtain ⟨h1, h2⟩ := ih (i + 1) h.2
  refine ⟨h1, fun j h3 h4 => ?_⟩
  by_cases he : j = i
  ·subst he; exact h.1
  ·exact h2 j (by omega) (by omega)
theorem policyB_spec {n : Int} {l : List Int} {L : List S72} (h : policyB n l L = true) : (L.length : Int) = n ∧ ∀ j, j < L.length → pairB l (rd_T72 L (j : Int)) = true := by
 obtain ⟨h1, h2⟩ := polFrom_spec L.length 0 h
 exact ⟨h1, fun j hj => h2 j (by omega) (by omega)⟩
def askedB (l : List Int) (d : Int) : Bool := inB d 0 (wrap64 ((l.length : Int) - 1)) && decide (rd l d > 0)
def upV (l : List Int) (x0 x1 x : Int) : Int := if x < x0 then x1 else if x < floorV l then x1 else x
theorem upV_ge {l : List Int} {p : S72} {x : Int} (h : pairB l p = true) (hx : -10 ≤ x ∧ x ≤ 10) : x ≤ upV l p.f0 p.f1 x ∧ -10 ≤ upV l p.f0 p.f1 x ∧ upV l p.f0 p.f1 x ≤ 10 := by
 have := pairB_spec h
 unfold upV
 by_cases h1 : x < p.f0
 ·rw [if_pos h1]; omega
 ·rw [if_neg h1]
  by_cases h2 : x < floorV l
  ·rw [if_pos h2]; omega
  ·rw [if_neg h2]; omega
def stepOf (l : List Int) (s u h b : Int) (p : S72) (x d : Int) : Int × Int × Int :=
 (upV l p.f0 p.f1 x, wrap64 (upV l p.f0 p.f1 x - d), wrap64 (orderV s u x (upV l p.f0 p.f1 x) + cst h b (wrap64 (upV l p.f0 p.f1 x - d))))
def stepLevelV (n : Int) (l : List Int) (s u h b : Int) (L : List S72) (t x d : Int) : Int × Int × Int × Bool :=
 if (procB n l s u h b && inB t 0 (wrap64 (n - 1)) && policyB n l L && inB x (-10) 10 && askedB l d) = true then ((stepOf l s u h b (rd_T72 L t) x d).1, (stepOf l s u h b (rd_T72 L t) x d).2.1, (stepOf l s u h b (rd_T72 L t) x d).2.2, true) else (0, 0, 0, false)

theorem ev_spec_l6Policy_l0 (n : Int) (l : List Int) (s u h b : Int) (L : List S72) (hL : L.length ≤ 9223372036854775807) (d : Nat) : ∀ i : Nat, i + d = L.length → Ev (fun k => spec_l6Policy.l0 k L (i : Int) n l s u h b) (polFrom n l L d i) := by
 induction d with
 | zero =>
  intro i hi
  refine ev_succ ?_
  have h1 : ¬ (i : Int) < (L.length : Int) := by omega
  simp only [spec_l6Policy.l0, h1, ↓reduceIte, polFrom]
  exact Ev.now _
 | succ d ih =>
  intro i hi
  refine ev_succ ?_
  have h1 : (i : Int) < (L.length : Int) := by omega
  have h0 : (0 : Int) ≤ (i : Int) := by omega
  have hi' : i < L.length := by omega
  simp only [spec_l6Policy.l0, h1, h0, ↓reduceIte, spec_l6Level_f, spec_l6Floor_f, Option.bind_some, w64_nat hi' hL, polFrom, pairB]
  cases c1 : inB (rd_T72 L (i : Int)).f0 (-10) 10 with
  | false => exact ev_eq (Ev.now _) (by simp)
  | true =>
   cases c2 : inB (rd_T72 L (i : Int)).f1 (-10) 10 with
   | false => exact ev_eq (Ev.now _) (by simp)
   | true =>
    simp only [↓reduceIte]
    by_cases c3 : (rd_T72 L (i : Int)).f0 > (rd_T72 L (i : Int)).f1
    ·simp only [c3, ↓reduceIte]
     exact ev_eq (Ev.now _) (by simp)
    ·simp only [c3, ↓reduceIte]
     by_cases c4 : (rd_T72 L (i : Int)).f1 < floorV l
     ·simp only [c4, ↓reduceIte]
      exact ev_eq (Ev.now _) (by simp)
     ·simp only [c4, ↓reduceIte]
      exact ev_eq (ih (i + 1) (by omega)) (by simp)
theorem ev_spec_l6Policy (n : Int) (l : List Int) (s u h b : Int) (L : List S72) (hL : L.length ≤ 9223372036854775807) : Ev (fun k => spec_l6Policy.f k n l s u h b L) (policyB n l L) := by
 unfold spec_l6Policy.f policyB
 exact ev_spec_l6Policy_l0 n l s u h b L hL L.length 0 (by omega)

theorem spec_l6Up_f (n : Int) (l : List Int) (s u h b x0 x1 x : Int) : spec_l6Up.f n l s u h b x0 x1 x = some (upV l x0 x1 x) := by
 unfold spec_l6Up.f upV
 simp only [spec_l6Floor_f, Option.bind_some]
 by_cases h1 : x < x0
 ·rw [if_pos h1, if_pos h1]
 ·rw [if_neg h1, if_neg h1]
  split <;> rfl

theorem spec_l6Order_f (n : Int) (l : List Int) (s u h b x y : Int) : spec_l6Order.f n l s u h b x y = some (orderV s u x y) := by
 unfold spec_l6Order.f orderV
 split <;> rfl

theorem ev_spec_l2Sum_l0 (l : List Int) (hl : l.length ≤ 9223372036854775807) (d : Nat) : ∀ (i : Nat) (s : Int), i + d = l.length → wrap64 s = s → Ev (fun k => spec_l2Sum.l0 k l s (i : Int)) (wrap64 (s + (l.drop i).sum)) := by
 induction d with
 | zero =>
  intro i s hi hs
  refine ev_succ ?_
  have h1 : ¬ (i : Int) < (l.length : Int) := by omega
  simp only [spec_l2Sum.l0, h1, ↓reduceIte]
  rw [List.drop_eq_nil_of_le (by omega)]
  simp only [List.sum_nil, Int.add_zero, hs]
  exact Ev.now _
 | succ d ih =>
  intro i s hi hs
  refine ev_succ ?_
  have h1 : (i : Int) < (l.length : Int) := by omega
  have h0 : (0 : Int) ≤ (i : Int) := by omega
  have hi' : i < l.length := by omega
  simp only [spec_l2Sum.l0, h1, h0, ↓reduceIte, rd_nat hi', w64_nat hi' hl]
  refine ev_eq (ih (i + 1) _ (by omega) (w64_idem _)) ?_
  rw [drop_cons hi', List.sum_cons, w64_add_l, Int.add_assoc]
theorem ev_spec_l2Sum (l : List Int) (hl : l.length ≤ 9223372036854775807) : Ev (fun k => spec_l2Sum.f k l) (wrap64 l.sum) := by
 unfold spec_l2Sum.f
 simpa using ev_spec_l2Sum_l0 l hl l.length 0 0 (by omega) w64_zero

theorem ev_spec_l2Row_l0 (n b : Int) (l : List Int) (hl : l.length ≤ 9223372036854775807) (d : Nat) : ∀ i : Nat, i + d = l.length → Ev (fun k => spec_l2Row.l0 k l n b (i : Int)) (allB (l.drop i) 0 b && ((l.length : Int) == n)) := by
 induction d with
 | zero =>
  intro i hi
  refine ev_succ ?_
  have h1 : ¬ (i : Int) < (l.length : Int) := by omega
  simp only [spec_l2Row.l0, h1, ↓reduceIte]
  rw [List.drop_eq_nil_of_le (by omega)]
  exact Ev.now _
 | succ d ih =>
  intro i hi
  refine ev_succ ?_
  have h1 : (i : Int) < (l.length : Int) := by omega
  have h0 : (0 : Int) ≤ (i : Int) := by omega
  have hi' : i < l.length := by omega
  simp only [spec_l2Row.l0, h1, h0, ↓reduceIte, spec_l1In_f, Option.bind_some, rd_nat hi', w64_nat hi' hl]
  rw [drop_cons hi']
  show Ev _ ((inB l[i] 0 b && allB (l.drop (i + 1)) 0 b) && _)
  cases inB l[i] 0 b with
  | true => simpa using ih (i + 1) (by omega)
  | false => simpa using Ev.now false
theorem ev_spec_l2Row (l : List Int) (n b : Int) (hl : l.length ≤ 9223372036854775807) : Ev (fun k => spec_l2Row.f k l n b) (allB l 0 b && ((l.length : Int) == n)) := by
 unfold spec_l2Row.f
 simpa using ev_spec_l2Row_l0 n b l hl l.length 0 (by omega)

theorem ev_spec_l6Good (n : Int) (l : List Int) (s u h b : Int) (hl : l.length ≤ 9223372036854775807) : Ev (fun k => spec_l6Good.f k n l s u h b) (procB n l s u h b) := by
 unfold spec_l6Good.f procB
 simp only [spec_l1In_f, Option.bind_some]
 refine ev_ite (fun h1 => ?_) (fun h1 => ?_)
 ·refine ev_ite (fun h2 => ?_) (fun h2 => ?_)
  ·refine Ev.bind (ev_spec_l2Row l _ 4 hl) ?_
   simp only [beq_self_eq_true, Bool.and_true]
   refine ev_ite (fun h3 => ?_) (fun h3 => ?_)
   ·refine Ev.bind (ev_spec_l2Sum l hl) ?_
    refine ev_ite (fun h4 => ?_) (fun h4 => ?_)
    ·refine ev_eq (ev_pure (x := _) (r := inB s 0 99 && (inB u 0 9 && (inB h 0 9 && inB b 0 9))) ?_) ?_
     ·cases inB s 0 99 <;> cases inB u 0 9 <;> cases inB h 0 9 <;> rfl
     ·simp [h1, h2, h3, h4]
    ·exact ev_eq (Ev.now _) (by simp [h4])
   ·exact ev_eq (Ev.now _) (by simp [h3])
  ·exact ev_eq (Ev.now _) (by simp [h2])
 ·exact ev_eq (Ev.now _) (by simp [h1])

def powW (a : Int) : Nat → Int
 | 0 => 1
 | m + 1 => wrap64 (powW a m * a)
def powV (l : List Int) (n : Int) : Int := powW (wrap64 l.sum) n.toNat
def aftW (h b pw : Int) (N : List Int) : List Int → Int → Int → Int
 | [], _, acc => acc
 | w :: ws, y, acc => aftW h b pw N ws (y - 1) (wrap64 (acc + wrap64 (w * wrap64 (wrap64 (cst h b y * pw) + rd N (y + 10)))))
def aftV (l : List Int) (h b : Int) (N : List Int) (y m : Int) : Int := aftW h b (powV l (m - 1)) N l y 0
def lvCost (l : List Int) (s u h b : Int) (N : List Int) (m x y : Int) : Int := wrap64 (wrap64 (orderV s u x y * powV l m) + aftV l h b N y m)
def dnV (c : Int → Int) (hi : Int) : Nat → Int × Int
 | 0 => (hi, c hi)
 | d + 1 => if c (hi - ((d + 1 : Nat) : Int)) ≤ (dnV c hi d).2 then (hi - ((d + 1 : Nat) : Int), c (hi - ((d + 1 : Nat) : Int))) else dnV c hi d
def fwdV (c : Int → Int) : Nat → Int → Int × Int → Int × Int
 | 0, _, r => r
 | d + 1, y, r => fwdV c d (y + 1) (if c y < r.2 then (y, c y) else r)
theorem fwdV_dn (c : Int → Int) (d : Nat) : ∀ (y : Int) (r : Int × Int), fwdV c (d + 1) y r = if r.2 ≤ (dnV c (y + d) d).2 then r else dnV c (y + d) d := by
 induction d with
 | zero =>
  intro y r
  simp only [fwdV, dnV, Int.natCast_zero, Int.add_zero]
  by_cases h : c y < r.2
  ·rw [if_pos h, if_neg (by omega)]
  ·rw [if_neg h, if_pos (by omega)]
 | succ d ih =>
  intro y r
  rw [fwdV, ih]
  have e : y + ((d + 1 : Nat) : Int) = y + 1 + (d : Int) := by omega
  have e2 : y + 1 + (d : Int) - ((d + 1 : Nat) : Int) = y := by omega
  rw [e, dnV, e2]
  generalize dnV c (y + 1 + (d : Int)) d = q
  by_cases h1 : c y < r.2
  ·rw [if_pos h1]
   by_cases h2 : c y ≤ q.2
   ·rw [if_pos h2]
    rw [if_neg (by show ¬ r.2 ≤ c y; omega)]
   ·rw [if_neg h2]
    rw [if_neg (by omega)]
  ·rw [if_neg h1]
   by_cases h2 : c y ≤ q.2
   ·rw [if_pos h2]
    rw [if_pos (by omega), if_pos (by show r.2 ≤ c y; omega)]
   ·rw [if_neg h2]
def bestV (l : List Int) (s u h b : Int) (N : List Int) (m x : Int) : Int × Int := dnV (lvCost l s u h b N m x) 10 (10 - mx x (floorV l)).toNat
theorem fwdV_best (c : Int → Int) {lo : Int} (h : lo ≤ 10) : fwdV c (10 - lo).toNat (lo + 1) (lo, c lo) = dnV c 10 (10 - lo).toNat := by
 obtain ⟨d, hd⟩ : ∃ d : Nat, (10 - lo).toNat = d := ⟨_, rfl⟩
 rw [hd]
 cases d with
 | zero =>
  have : lo = 10 := by omega
  subst this
  rfl
 | succ d =>
  rw [fwdV_dn]
  have e : lo + 1 + (d : Int) = 10 := by omega
  have e2 : (10 : Int) - ((d + 1 : Nat) : Int) = lo := by omega
  rw [e, dnV, e2]
def rowV (l : List Int) (s u h b : Int) (N : List Int) (m : Int) : List Int := (List.range 21).map fun (i : Nat) => (bestV l s u h b N m ((i : Int) - 10)).2
theorem rowV_len (l : List Int) (s u h b : Int) (N : List Int) (m : Int) : (rowV l s u h b N m).length = 21 := by simp [rowV]
theorem rowV_get (l : List Int) (s u h b : Int) (N : List Int) (m : Int) {i : Nat} (hi : i < 21) : (rowV l s u h b N m)[i]? = some (bestV l s u h b N m ((i : Int) - 10)).2 := by
 simp [rowV, hi]
theorem rowV_take (l : List Int) (s u h b : Int) (N : List Int) (m : Int) {i : Nat} (hi : i < 21) : (rowV l s u h b N m).take (i + 1) = (rowV l s u h b N m).take i ++ [(bestV l s u h b N m ((i : Int) - 10)).2] := by
 rw [List.take_add_one, rowV_get l s u h b N m hi]
 rfl
def wts (l : List Int) (s u h b : Int) : Nat → List (List Int)
 | 0 => [List.replicate 21 0]
 | m + 1 => rowV l s u h b ((wts l s u h b m).headD []) ((m + 1 : Nat) : Int) :: wts l s u h b m
theorem wts_len (l : List Int) (s u h b : Int) : ∀ m, (wts l s u h b m).length = m + 1
 | 0 => rfl
 | m + 1 => by rw [wts, List.length_cons, wts_len]
theorem wts_rows (l : List Int) (s u h b : Int) : ∀ m, ∀ r ∈ wts l s u h b m, r.length = 21
 | 0, r, hr => by simp only [wts, List.mem_singleton] at hr; rw [hr]; simp
 | m + 1, r, hr => by
  rw [wts, List.mem_cons] at hr
  cases hr with
  | inl e => rw [e, rowV_len]
  | inr e => exact wts_rows l s u h b m r e
theorem wts_head (l : List Int) (s u h b : Int) (m : Nat) : (wts l s u h b m).headD [] = (wts l s u h b m).getD 0 [] := by
 cases m <;> rfl
theorem wts_head_len (l : List Int) (s u h b : Int) (m : Nat) : ((wts l s u h b m).headD []).length = 21 := by
 cases m with
 | zero => simp [wts]
 | succ m => rw [wts, List.headD_cons, rowV_len]
def billV (l : List Int) (u h b : Int) (N : List Int) (m y : Int) : Int := wrap64 (wrap64 (wrap64 (u * y) * powV l m) + aftV l h b N y m)
def billsV (l : List Int) (u h b : Int) (N : List Int) (m : Int) : List Int := (List.range (22 - l.length)).map fun (i : Nat) => billV l u h b N m (floorV l + (i : Int))
theorem billsV_len (l : List Int) (u h b : Int) (N : List Int) (m : Int) : (billsV l u h b N m).length = 22 - l.length := by simp [billsV]
theorem billsV_take (l : List Int) (u h b : Int) (N : List Int) (m : Int) {i : Nat} (hi : i < 22 - l.length) : (billsV l u h b N m).take (i + 1) = (billsV l u h b N m).take i ++ [billV l u h b N m (floorV l + (i : Int))] := by
 rw [List.take_add_one]
 simp [billsV, hi]
def nextV (n : Int) (l : List Int) (s u h b t : Int) : List Int := (wts l s u h b n.toNat).getD (t + 1).toNat []
theorem nextV_len {n : Int} {l : List Int} {s u h b t : Int} (ht : 0 ≤ t ∧ t ≤ n - 1) : (nextV n l s u h b t).length = 21 := by
 unfold nextV
 have hl : (t + 1).toNat < (wts l s u h b n.toNat).length := by rw [wts_len]; omega
 rw [List.getD_eq_getElem?_getD, List.getElem?_eq_getElem hl]
 exact wts_rows l s u h b _ _ (List.getElem_mem hl)
def billsOfV (n : Int) (l : List Int) (s u h b t : Int) : List Int × Bool :=
 if (procB n l s u h b && inB t 0 (wrap64 (n - 1))) = true then (billsV l u h b (nextV n l s u h b t) (n - t), true) else ([], false)
theorem billsOfV_len (n : Int) (l : List Int) (s u h b t : Int) : (billsOfV n l s u h b t).1.length ≤ 22 := by
 unfold billsOfV
 split
 ·dsimp only; rw [billsV_len]; omega
 ·simp
theorem turnB_spec {n : Int} {l : List Int} {s u h b t : Int} (hc : (procB n l s u h b && inB t 0 (wrap64 (n - 1))) = true) : procB n l s u h b = true ∧ 0 ≤ t ∧ t ≤ n - 1 := by
 rw [Bool.and_eq_true] at hc
 have h1 := procB_spec hc.1
 have h2 := inB_iff.1 hc.2
 rw [w64 (by omega) (by omega)] at h2
 exact ⟨hc.1, h2⟩

theorem ev_spec_l6Power_l0 (a n : Int) (hn : 0 ≤ n ∧ n ≤ 100) (d : Nat) : ∀ (i : Nat), (i : Int) + d = n → Ev (fun k => spec_l6Power.l0 k n (powW a i) a (i : Int)) (powW a n.toNat) := by
 induction d with
 | zero =>
  intro i hi
  refine ev_succ ?_
  have h1 : ¬ (i : Int) < n := by omega
  simp only [spec_l6Power.l0, h1, ↓reduceIte]
  rw [show n.toNat = i by omega]
  exact Ev.now _
 | succ d ih =>
  intro i hi
  refine ev_succ ?_
  have h1 : (i : Int) < n := by omega
  simp only [spec_l6Power.l0, h1, ↓reduceIte]
  rw [w64 (x := (i : Int) + 1) (by omega) (by omega)]
  have h2 := ih (i + 1) (by omega)
  rw [powW] at h2
  exact h2
theorem ev_spec_l6Power (n : Int) (l : List Int) (s u h b m : Int) (hl : l.length ≤ 9223372036854775807) (hm : 0 ≤ m ∧ m ≤ 100) : Ev (fun k => spec_l6Power.f k n l s u h b m) (powV l m) := by
 unfold spec_l6Power.f powV
 exact Ev.bind (ev_spec_l2Sum l hl) (ev_spec_l6Power_l0 _ m hm m.toNat 0 (by omega))

theorem spec_l6Kept_f (n : Int) (l : List Int) (s u h b x : Int) : spec_l6Kept.f n l s u h b x = some (cst h b x) := by
 unfold spec_l6Kept.f cst
 split <;> rfl

theorem ev_spec_l6After_l0 (n : Int) (l : List Int) (s u h b : Int) (N : List Int) (y m : Int) (hl : l.length ≤ 5) (hN : N.length = 21) (hm : 1 ≤ m ∧ m ≤ 6) (hy : (l.length : Int) - 11 ≤ y ∧ y ≤ 10) (d : Nat) : ∀ (i : Nat) (acc : Int), i + d = l.length → Ev (fun k => spec_l6After.l0 k N y m acc (i : Int) n l s u h b) (aftW h b (powV l (m - 1)) N (l.drop i) (y - i) acc) := by
 induction d with
 | zero =>
  intro i acc hi
  refine ev_succ ?_
  have h1 : ¬ (i : Int) < (l.length : Int) := by omega
  simp only [spec_l6After.l0, h1, ↓reduceIte]
  rw [List.drop_eq_nil_of_le (by omega), aftW]
  exact Ev.now _
 | succ d ih =>
  intro i acc hi
  refine ev_succ ?_
  have h1 : (i : Int) < (l.length : Int) := by omega
  have h0 : (0 : Int) ≤ (i : Int) := by omega
  have hi' : i < l.length := by omega
  have e1 : wrap64 (y - (i : Int)) = y - i := w64 (by omega) (by omega)
  have e2 : wrap64 (y - (i : Int) + 10) = y - i + 10 := w64 (by omega) (by omega)
  have e3 : wrap64 (m - 1) = m - 1 := w64 (by omega) (by omega)
  have e4 : wrap64 ((i : Int) + 1) = ((i + 1 : Nat) : Int) := w64_nat hi' (by omega)
  simp only [spec_l6After.l0, h1, h0, ↓reduceIte, e1, e2, e3, e4, spec_l6Kept_f, Option.bind_some]
  refine Ev.bind (ev_spec_l6Power n l s u h b (m - 1) (by omega) (by omega)) ?_
  refine ev_yes (show (0 : Int) ≤ y - i + 10 by omega) (ev_yes (show y - (i : Int) + 10 < (N.length : Int) by omega) ?_)
  rw [rd_nat hi', drop_cons hi', aftW]
  refine ev_eq (ih (i + 1) _ (by omega)) ?_
  rw [show y - ((i + 1 : Nat) : Int) = y - (i : Int) - 1 by omega]
theorem ev_spec_l6After (n : Int) (l : List Int) (s u h b : Int) (N : List Int) (y m : Int) (hl : l.length ≤ 5) (hN : N.length = 21) (hm : 1 ≤ m ∧ m ≤ 6) (hy : (l.length : Int) - 11 ≤ y ∧ y ≤ 10) : Ev (fun k => spec_l6After.f k n l s u h b N y m) (aftV l h b N y m) := by
 unfold spec_l6After.f aftV
 refine ev_eq (ev_spec_l6After_l0 n l s u h b N y m hl hN hm hy l.length 0 0 (by omega)) ?_
 rw [List.drop_zero, show y - ((0 : Nat) : Int) = y by omega]

theorem upV_floor {l : List Int} {p : S72} {x : Int} (h : pairB l p = true) (hl : l.length ≤ 5) : (l.length : Int) - 11 ≤ upV l p.f0 p.f1 x := by
 have := pairB_spec h
 have hf := floorV_eq hl
 unfold upV
 by_cases h1 : x < p.f0
 ·rw [if_pos h1]; omega
 ·rw [if_neg h1]
  by_cases h2 : x < floorV l
  ·rw [if_pos h2]; omega
  ·rw [if_neg h2]; omega

def pwRow (l : List Int) (s u h b : Int) (N : List Int) (m : Int) (p : S72) : List Int := (List.range 21).map fun (i : Nat) => lvCost l s u h b N m ((i : Int) - 10) (upV l p.f0 p.f1 ((i : Int) - 10))
theorem pwRow_len (l : List Int) (s u h b : Int) (N : List Int) (m : Int) (p : S72) : (pwRow l s u h b N m p).length = 21 := by simp [pwRow]
theorem pwRow_take (l : List Int) (s u h b : Int) (N : List Int) (m : Int) (p : S72) {i : Nat} (hi : i < 21) : (pwRow l s u h b N m p).take (i + 1) = (pwRow l s u h b N m p).take i ++ [lvCost l s u h b N m ((i : Int) - 10) (upV l p.f0 p.f1 ((i : Int) - 10))] := by
 rw [List.take_add_one]
 simp [pwRow, hi]
def pwN (n : Int) (l : List Int) (s u h b : Int) (L : List S72) : Nat → List Int
 | 0 => List.replicate 21 0
 | m + 1 => pwRow l s u h b (pwN n l s u h b L m) ((m + 1 : Nat) : Int) (rd_T72 L (n - 1 - (m : Int)))
theorem pwN_len (n : Int) (l : List Int) (s u h b : Int) (L : List S72) : ∀ m, (pwN n l s u h b L m).length = 21
 | 0 => by simp [pwN]
 | m + 1 => by rw [pwN, pwRow_len]
def pworthV (n : Int) (l : List Int) (s u h b : Int) (L : List S72) : List Int × Bool := if (procB n l s u h b && policyB n l L) = true then (pwN n l s u h b L n.toNat, true) else ([], false)
theorem pworthV_len (n : Int) (l : List Int) (s u h b : Int) (L : List S72) : (pworthV n l s u h b L).1.length ≤ 21 := by
 unfold pworthV
 split
 ·dsimp only; rw [pwN_len]; omega
 ·simp
theorem pw_pair {n : Int} {l : List Int} {L : List S72} (h : policyB n l L = true) {m : Nat} (hm : (m : Int) + 1 ≤ n) : pairB l (rd_T72 L (n - 1 - (m : Int))) = true := by
 obtain ⟨h1, h2⟩ := policyB_spec h
 have h3 := h2 (n - 1 - (m : Int)).toNat (by omega)
 rw [show (((n - 1 - (m : Int)).toNat : Nat) : Int) = n - 1 - (m : Int) by omega] at h3
 exact h3

theorem ev_spec_PolicyWorth_l1 (n : Int) (l : List Int) (s u h b : Int) (L : List S72) (hl : 1 ≤ l.length ∧ l.length ≤ 5) (hn : 0 ≤ n ∧ n ≤ 5) (hL : (L.length : Int) = n) (m : Nat) (hm : (m : Int) + 1 ≤ n) (hpr : pairB l (rd_T72 L (n - 1 - (m : Int))) = true) {r : List Int × Bool} (hc : Ev (fun k => spec_PolicyWorth.l0 k L (pwN n l s u h b L (m + 1)) (n - 1 - ((m + 1 : Nat) : Int)) n l s u h b) r) (d : Nat) : ∀ (i : Nat), i + d = 21 → Ev (fun k => spec_PolicyWorth.l1 k L (pwN n l s u h b L m) (n - 1 - (m : Int)) ((pwN n l s u h b L (m + 1)).take i) ((i : Int) - 10) n l s u h b) r := by
 induction d with
 | zero =>
  intro i hi
  refine ev_succ ?_
  have h1 : ¬ (i : Int) - 10 ≤ 10 := by omega
  simp only [spec_PolicyWorth.l1, h1, ↓reduceIte]
  rw [List.take_of_length_le (by rw [pwN_len]; omega)]
  rw [show wrap64 (n - 1 - (m : Int) - 1) = n - 1 - ((m + 1 : Nat) : Int) by rw [w64 (by omega) (by omega)]; omega]
  exact hc
 | succ d ih =>
  intro i hi
  refine ev_succ ?_
  have h1 : (i : Int) - 10 ≤ 10 := by omega
  have h2 : (0 : Int) ≤ n - 1 - (m : Int) := by omega
  have h3 : n - 1 - (m : Int) < (L.length : Int) := by omega
  have e1 : wrap64 (n - (n - 1 - (m : Int))) = ((m + 1 : Nat) : Int) := by rw [w64 (by omega) (by omega)]; omega
  have e2 : wrap64 ((i : Int) - 10 + 1) = ((i + 1 : Nat) : Int) - 10 := by rw [w64 (by omega) (by omega)]; omega
  simp only [spec_PolicyWorth.l1, h1, h2, h3, ↓reduceIte, e1, e2, spec_l6Up_f, spec_l6Order_f, Option.bind_some]
  have hg := upV_ge (l := l) (x := (i : Int) - 10) hpr (by omega)
  have hfl := upV_floor (x := (i : Int) - 10) hpr hl.2
  refine Ev.bind (ev_spec_l6Power n l s u h b _ (by omega) (by omega)) ?_
  refine Ev.bind (ev_spec_l6After n l s u h b _ _ _ hl.2 (pwN_len _ _ _ _ _ _ _ m) (by omega) ⟨hfl, hg.2.2⟩) ?_
  refine ev_yes (by rw [List.length_take, pwN_len]; omega) ?_
  have e3 := pwRow_take l s u h b (pwN n l s u h b L m) ((m + 1 : Nat) : Int) (rd_T72 L (n - 1 - (m : Int))) (i := i) (by omega)
  rw [lvCost] at e3
  have hgo := ih (i + 1) (by omega)
  rw [pwN] at hgo ⊢
  rw [← e3]
  exact hgo
theorem ev_spec_PolicyWorth_l0 (n : Int) (l : List Int) (s u h b : Int) (L : List S72) (hl : 1 ≤ l.length ∧ l.length ≤ 5) (hn : 0 ≤ n ∧ n ≤ 5) (hpol : policyB n l L = true) (d : Nat) : ∀ (m : Nat), (m : Int) + d = n → Ev (fun k => spec_PolicyWorth.l0 k L (pwN n l s u h b L m) (n - 1 - (m : Int)) n l s u h b) (pwN n l s u h b L n.toNat, true) := by
 have hL := (policyB_spec hpol).1
 induction d with
 | zero =>
  intro m hm
  refine ev_succ ?_
  have h1 : ¬ n - 1 - (m : Int) ≥ 0 := by omega
  simp only [spec_PolicyWorth.l0, h1, ↓reduceIte]
  rw [show n.toNat = m by omega]
  exact Ev.now _
 | succ d ih =>
  intro m hm
  refine ev_succ ?_
  have h1 : n - 1 - (m : Int) ≥ 0 := by omega
  simp only [spec_PolicyWorth.l0, h1, ↓reduceIte]
  have h2 := ev_spec_PolicyWorth_l1 n l s u h b L hl hn hL m (by omega) (pw_pair hpol (by omega)) (ih (m + 1) (by omega)) 21 0 (by omega)
  rw [List.take_zero] at h2
  exact h2
theorem ev_spec_PolicyWorth_no (n : Int) (l : List Int) (s u h b : Int) (L : List S72) : Ev (fun k => spec_PolicyWorth.j0 k L true n l s u h b) ([], false) := by
 refine ev_succ ?_
 simp only [spec_PolicyWorth.j0, ↓reduceIte]
 exact Ev.now _
theorem ev_spec_PolicyWorth (n : Int) (l : List Int) (s u h b : Int) (L : List S72) (hl : l.length ≤ 9223372036854775807) (hL : L.length ≤ 9223372036854775807) : Ev (fun k => spec_PolicyWorth.f k n l s u h b L) (pworthV n l s u h b L) := by
 unfold spec_PolicyWorth.f pworthV
 refine Ev.bind (ev_spec_l6Good n l s u h b hl) ?_
 refine ev_ite (fun hc => ?_) (fun hc => ?_)
 ·refine Ev.bind (ev_spec_l6Policy n l s u h b L hL) ?_
  cases hpol : policyB n l L with
  | false => rw [if_neg (by simp)]; exact ev_spec_PolicyWorth_no n l s u h b L
  | true =>
   have hp := procB_spec hc
   rw [if_pos (by rw [hc]; rfl)]
   refine ev_succ ?_
   simp only [spec_PolicyWorth.j0, Bool.not_true, Bool.false_eq_true, ↓reduceIte]
   refine ev_yes (by omega) ?_
   rw [show wrap64 (n - 1) = n - 1 - ((0 : Nat) : Int) by rw [w64 (by omega) (by omega)]; omega]
   exact ev_spec_PolicyWorth_l0 n l s u h b L hp.2.1 hp.1 hpol n.toNat 0 (by omega)
 ·rw [if_neg (by simp [hc])]
  exact ev_spec_PolicyWorth_no n l s u h b L

theorem impl_within_f (a b c : Int) : impl_within.f a b c = some (inB a b c) := by
 unfold impl_within.f inB
 by_cases h : a ≥ b
 ·rw [if_pos h]; congr 1; rw [decide_eq_decide]; omega
 ·rw [if_neg h]; congr 1; symm; rw [decide_eq_false_iff_not]; omega

theorem ev_impl_allWithin_l0 (a b : Int) (l : List Int) (hl : l.length ≤ 9223372036854775807) (d : Nat) : ∀ i : Nat, i + d = l.length → Ev (fun k => impl_allWithin.l0 k a b l (l.length : Int) (i : Int)) (allB (l.drop i) a b) := by
 induction d with
 | zero =>
  intro i hi
  refine ev_succ ?_
  have h1 : ¬ (i : Int) < (l.length : Int) := by omega
  simp only [impl_allWithin.l0, h1, ↓reduceIte]
  rw [List.drop_eq_nil_of_le (by omega)]
  exact Ev.now _
 | succ d ih =>
  intro i hi
  refine ev_succ ?_
  have h1 : (i : Int) < (l.length : Int) := by omega
  have h0 : (0 : Int) ≤ (i : Int) := by omega
  have hi' : i < l.length := by omega
  simp only [impl_allWithin.l0, h1, h0, ↓reduceIte, impl_within_f, Option.bind_some, rd_nat hi', w64_nat hi' hl]
  rw [drop_cons hi']
  show Ev _ (inB l[i] a b && allB (l.drop (i + 1)) a b)
  cases inB l[i] a b with
  | true => simpa using ih (i + 1) (by omega)
  | false => simpa using Ev.now false
theorem ev_impl_allWithin (l : List Int) (a b : Int) (hl : l.length ≤ 9223372036854775807) : Ev (fun k => impl_allWithin.f k l a b) (allB l a b) := by
 unfold impl_allWithin.f
 simpa using ev_impl_allWithin_l0 a b l hl l.length 0 (by omega)

theorem ev_impl_total_l0 (l : List Int) (hl : l.length ≤ 9223372036854775807) (d : Nat) : ∀ (i : Nat) (s : Int), i + d = l.length → wrap64 s = s → Ev (fun k => impl_total.l0 k s l (l.length : Int) (i : Int)) (wrap64 (s + (l.drop i).sum)) := by
 induction d with
 | zero =>
  intro i s hi hs
  refine ev_succ ?_
  have h1 : ¬ (i : Int) < (l.length : Int) := by omega
  simp only [impl_total.l0, h1, ↓reduceIte]
  rw [List.drop_eq_nil_of_le (by omega)]
  simp only [List.sum_nil, Int.add_zero, hs]
  exact Ev.now _
 | succ d ih =>
  intro i s hi hs
  refine ev_succ ?_
  have h1 : (i : Int) < (l.length : Int) := by omega
  have h0 : (0 : Int) ≤ (i : Int) := by omega
  have hi' : i < l.length := by omega
  simp only [impl_total.l0, h1, h0, ↓reduceIte, rd_nat hi', w64_nat hi' hl]
  refine ev_eq (ih (i + 1) _ (by omega) (w64_idem _)) ?_
  rw [drop_cons hi', List.sum_cons, w64_add_l, Int.add_assoc]
theorem ev_impl_total (l : List Int) (hl : l.length ≤ 9223372036854775807) : Ev (fun k => impl_total.f k l) (wrap64 l.sum) := by
 unfold impl_total.f
 simpa using ev_impl_total_l0 l hl l.length 0 0 (by omega) w64_zero

theorem ev_impl_IsProcess (n : Int) (l : List Int) (s u h b : Int) (hl : l.length ≤ 9223372036854775807) : Ev (fun k => impl_IsProcess.f k n l s u h b) (procB n l s u h b) := by
 unfold impl_IsProcess.f procB
 simp only [impl_within_f, Option.bind_some]
 refine ev_ite (fun h1 => ?_) (fun h1 => ?_)
 ·refine ev_ite (fun h2 => ?_) (fun h2 => ?_)
  ·refine Ev.bind (ev_impl_allWithin l 0 4 hl) ?_
   refine ev_ite (fun h3 => ?_) (fun h3 => ?_)
   ·refine Ev.bind (ev_impl_total l hl) ?_
    refine ev_ite (fun h4 => ?_) (fun h4 => ?_)
    ·refine ev_ite (fun h5 => ?_) (fun h5 => ?_)
     ·refine Ev.bind (ev_impl_allWithin [u, h, b] 0 9 (by simp)) ?_
      refine ev_eq (Ev.now _) ?_
      have e : allB [u, h, b] 0 9 = (inB u 0 9 && (inB h 0 9 && inB b 0 9)) := by simp [allB, inB]
      rw [e]
      simp [h1, h2, h3, h4, h5]
     ·exact ev_eq (Ev.now _) (by simp [h5])
    ·exact ev_eq (Ev.now _) (by simp [h4])
   ·exact ev_eq (Ev.now _) (by simp [h3])
  ·exact ev_eq (Ev.now _) (by simp [h2])
 ·exact ev_eq (Ev.now _) (by simp [h1])

theorem impl_isLevel_f (x : Int) : impl_isLevel.f x = some (inB x (-10) 10) := by
 unfold impl_isLevel.f
 rw [impl_within_f, Option.bind_some]

theorem impl_Process_floor_f (n : Int) (l : List Int) (s u h b : Int) : impl_Process_floor.f n l s u h b = some (floorV l) := rfl

theorem ev_impl_Process_isPolicy_l0 (n : Int) (l : List Int) (s u h b : Int) (L : List S72) (hL : L.length ≤ 9223372036854775807) (d : Nat) : ∀ i : Nat, i + d = L.length → Ev (fun k => impl_Process_isPolicy.l0 k L L (L.length : Int) (i : Int) n l s u h b) (polFrom n l L d i) := by
 induction d with
 | zero =>
  intro i hi
  refine ev_succ ?_
  have h1 : ¬ (i : Int) < (L.length : Int) := by omega
  simp only [impl_Process_isPolicy.l0, h1, ↓reduceIte, polFrom]
  exact Ev.now _
 | succ d ih =>
  intro i hi
  refine ev_succ ?_
  have h1 : (i : Int) < (L.length : Int) := by omega
  have h0 : (0 : Int) ≤ (i : Int) := by omega
  have hi' : i < L.length := by omega
  simp only [impl_Process_isPolicy.l0, h1, h0, ↓reduceIte, impl_isLevel_f, impl_Process_floor_f, Option.bind_some, w64_nat hi' hL, polFrom, pairB]
  cases c1 : inB (rd_T72 L (i : Int)).f0 (-10) 10 with
  | false => exact ev_eq (Ev.now _) (by simp)
  | true =>
   cases c2 : inB (rd_T72 L (i : Int)).f1 (-10) 10 with
   | false => exact ev_eq (Ev.now _) (by simp)
   | true =>
    simp only [↓reduceIte]
    by_cases c3 : (rd_T72 L (i : Int)).f0 > (rd_T72 L (i : Int)).f1
    ·simp only [c3, ↓reduceIte]
     exact ev_eq (Ev.now _) (by simp)
    ·simp only [c3, ↓reduceIte]
     by_cases c4 : (rd_T72 L (i : Int)).f1 < floorV l
     ·simp only [c4, ↓reduceIte]
      exact ev_eq (Ev.now _) (by simp)
     ·simp only [c4, ↓reduceIte]
      exact ev_eq (ih (i + 1) (by omega)) (by simp)
theorem ev_impl_Process_isPolicy (n : Int) (l : List Int) (s u h b : Int) (L : List S72) (hL : L.length ≤ 9223372036854775807) : Ev (fun k => impl_Process_isPolicy.f k n l s u h b L) (policyB n l L) := by
 unfold impl_Process_isPolicy.f policyB
 exact ev_impl_Process_isPolicy_l0 n l s u h b L hL L.length 0 (by omega)

theorem impl_copied_f (l : List Int) (hl : l.length ≤ 1000000000) : impl_copied.f l = some l := by
 unfold impl_copied.f
 simp only [Option.bind_some, List.length_nil, List.nil_append]
 rw [if_pos (by omega)]

theorem impl_Process_orders_f (n : Int) (l : List Int) (s u h b x0 x1 x : Int) : impl_Process_orders.f n l s u h b x0 x1 x = some (upV l x0 x1 x) := by
 unfold impl_Process_orders.f upV
 simp only [impl_Process_floor_f, Option.bind_some]
 by_cases h1 : x < x0
 ·rw [if_pos h1, if_pos h1]
 ·rw [if_neg h1, if_neg h1]
  split <;> rfl

theorem impl_Process_order_f (n : Int) (l : List Int) (s u h b x y : Int) (hxy : x ≤ y) : impl_Process_order.f n l s u h b x y = some (orderV s u x y) := by
 unfold impl_Process_order.f orderV
 by_cases hc : y = x
 ·rw [if_pos hc, if_neg (by omega)]
 ·rw [if_neg hc, if_pos (by omega)]

theorem ev_impl_power_l0 (a n : Int) (hn : 0 ≤ n ∧ n ≤ 100) (d : Nat) : ∀ (i : Nat), (i : Int) + d = n → Ev (fun k => impl_power.l0 k a (powW a i) n (i : Int)) (powW a n.toNat) := by
 induction d with
 | zero =>
  intro i hi
  refine ev_succ ?_
  have h1 : ¬ (i : Int) < n := by omega
  simp only [impl_power.l0, h1, ↓reduceIte]
  rw [show n.toNat = i by omega]
  exact Ev.now _
 | succ d ih =>
  intro i hi
  refine ev_succ ?_
  have h1 : (i : Int) < n := by omega
  simp only [impl_power.l0, h1, ↓reduceIte]
  rw [w64 (x := (i : Int) + 1) (by omega) (by omega)]
  have h2 := ih (i + 1) (by omega)
  rw [powW] at h2
  exact h2
theorem ev_impl_power (a n : Int) (hn : 0 ≤ n ∧ n ≤ 100) : Ev (fun k => impl_power.f k a n) (powW a n.toNat) := by
 unfold impl_power.f
 exact ev_impl_power_l0 a n hn n.toNat 0 (by omega)

theorem ev_impl_Process_whole (n : Int) (l : List Int) (s u h b m : Int) (hl : l.length ≤ 9223372036854775807) (hm : 0 ≤ m ∧ m ≤ 100) : Ev (fun k => impl_Process_whole.f k n l s u h b m) (powV l m) := by
 unfold impl_Process_whole.f powV
 exact Ev.bind (ev_impl_total l hl) (Ev.bind (ev_impl_power _ m hm) (Ev.now _))

structure S94 where
 f0 : Int
 f1 : Int
 f2 : Int
 f3 : Int
 f4 : Int
 f5 : Int
 f6 : Int
 f7 : Int
 f8 : Int
 f9 : Int
 f10 : Int
 f11 : Int
 f12 : Int
 f13 : Int
 f14 : Int
 f15 : Int
 f16 : Int
 f17 : Int
 f18 : Int
 f19 : Int
 f20 : Int
def z94 : S94 := ⟨0, 0, 0, 0, 0, 0, 0, 0, 0, 0, 0, 0, 0, 0, 0, 0, 0, 0, 0, 0, 0⟩
def rd_T94 (xs : List S94) (i : Int) : S94 := xs.getD i.toNat z94

def cellsL (x : S94) : List Int := [x.f0, x.f1, x.f2, x.f3, x.f4, x.f5, x.f6, x.f7, x.f8, x.f9, x.f10, x.f11, x.f12, x.f13, x.f14, x.f15, x.f16, x.f17, x.f18, x.f19, x.f20]
theorem cellsL_len (x : S94) : (cellsL x).length = 21 := rfl
theorem cellsL_z : cellsL z94 = List.replicate 21 0 := rfl
theorem cellsL_rd (L : List S94) (i : Int) : cellsL (rd_T94 L i) = (L.map cellsL).getD i.toNat (List.replicate 21 0) := by
 unfold rd_T94
 rw [List.getD_eq_getElem?_getD, List.getD_eq_getElem?_getD, List.getElem?_map]
 cases L[i.toNat]? <;> rfl

theorem impl_levels_at_f (x : S94) (y : Int) (hy : -10 ≤ y ∧ y ≤ 10) : impl_levels_at.f x.f0 x.f1 x.f2 x.f3 x.f4 x.f5 x.f6 x.f7 x.f8 x.f9 x.f10 x.f11 x.f12 x.f13 x.f14 x.f15 x.f16 x.f17 x.f18 x.f19 x.f20 y = some (rd (cellsL x) (y + 10)) := by
 have e : wrap64 (y + 10) = y + 10 := w64 (by omega) (by omega)
 unfold impl_levels_at.f
 rw [e, if_pos (by omega)]
 obtain ⟨j, hj⟩ : ∃ j : Nat, y + 10 = (j : Int) := ⟨(y + 10).toNat, by omega⟩
 have hj2 : j < 21 := by omega
 rw [hj]
 match j, hj2 with
 | 0, _ => rfl
 | 1, _ => rfl
 | 2, _ => rfl
 | 3, _ => rfl
 | 4, _ => rfl
 | 5, _ => rfl
 | 6, _ => rfl
 | 7, _ => rfl
 | 8, _ => rfl
 | 9, _ => rfl
 | 10, _ => rfl
 | 11, _ => rfl
 | 12, _ => rfl
 | 13, _ => rfl
 | 14, _ => rfl
 | 15, _ => rfl
 | 16, _ => rfl
 | 17, _ => rfl
 | 18, _ => rfl
 | 19, _ => rfl
 | 20, _ => rfl
 | j + 21, h => exact absurd h (by omega)

theorem impl_Process_keep_f (n : Int) (l : List Int) (s u h b x : Int) (hh : 0 ≤ h ∧ h ≤ 9) (hb : 0 ≤ b ∧ b ≤ 9) (hx : -100000 ≤ x ∧ x ≤ 100000) : impl_Process_keep.f n l s u h b x = some (cst h b x) := by
 unfold impl_Process_keep.f
 rw [cst_impl hh hb hx]

theorem ev_impl_Process_behind_l0 (n : Int) (l : List Int) (s u h b : Int) (x : S94) (y m : Int) (hl : l.length ≤ 5) (hh : 0 ≤ h ∧ h ≤ 9) (hb : 0 ≤ b ∧ b ≤ 9) (hm : 1 ≤ m ∧ m ≤ 6) (hy : (l.length : Int) - 11 ≤ y ∧ y ≤ 10) (d : Nat) : ∀ (i : Nat) (acc : Int), i + d = l.length → Ev (fun k => impl_Process_behind.l0 k m y acc l (l.length : Int) (i : Int) n l s u h b x.f0 x.f1 x.f2 x.f3 x.f4 x.f5 x.f6 x.f7 x.f8 x.f9 x.f10 x.f11 x.f12 x.f13 x.f14 x.f15 x.f16 x.f17 x.f18 x.f19 x.f20) (aftW h b (powV l (m - 1)) (cellsL x) (l.drop i) (y - i) acc) := by
 induction d with
 | zero =>
  intro i acc hi
  refine ev_succ ?_
  have h1 : ¬ (i : Int) < (l.length : Int) := by omega
  simp only [impl_Process_behind.l0, h1, ↓reduceIte]
  rw [List.drop_eq_nil_of_le (by omega), aftW]
  exact Ev.now _
 | succ d ih =>
  intro i acc hi
  refine ev_succ ?_
  have h1 : (i : Int) < (l.length : Int) := by omega
  have h0 : (0 : Int) ≤ (i : Int) := by omega
  have hi' : i < l.length := by omega
  have e1 : wrap64 (y - (i : Int)) = y - i := w64 (by omega) (by omega)
  have e3 : wrap64 (m - 1) = m - 1 := w64 (by omega) (by omega)
  have e4 : wrap64 ((i : Int) + 1) = ((i + 1 : Nat) : Int) := w64_nat hi' (by omega)
  have e5 := impl_Process_keep_f n l s u h b (y - i) hh hb (by omega)
  have e6 := impl_levels_at_f x (y - i) (by omega)
  simp only [impl_Process_behind.l0, h1, h0, ↓reduceIte, e1, e3, e4, e5, Option.bind_some]
  refine Ev.bind (ev_impl_Process_whole n l s u h b (m - 1) (by omega) (by omega)) ?_
  simp only [e6, Option.bind_some]
  rw [rd_nat hi', drop_cons hi', aftW]
  refine ev_eq (ih (i + 1) _ (by omega)) ?_
  rw [show y - ((i + 1 : Nat) : Int) = y - (i : Int) - 1 by omega]
theorem ev_impl_Process_behind (n : Int) (l : List Int) (s u h b : Int) (x : S94) (y m : Int) (hl : l.length ≤ 5) (hh : 0 ≤ h ∧ h ≤ 9) (hb : 0 ≤ b ∧ b ≤ 9) (hm : 1 ≤ m ∧ m ≤ 6) (hy : (l.length : Int) - 11 ≤ y ∧ y ≤ 10) : Ev (fun k => impl_Process_behind.f k n l s u h b m y x.f0 x.f1 x.f2 x.f3 x.f4 x.f5 x.f6 x.f7 x.f8 x.f9 x.f10 x.f11 x.f12 x.f13 x.f14 x.f15 x.f16 x.f17 x.f18 x.f19 x.f20) (aftV l h b (cellsL x) y m) := by
 unfold impl_Process_behind.f aftV
 refine ev_eq (ev_impl_Process_behind_l0 n l s u h b x y m hl hh hb hm hy l.length 0 0 (by omega)) ?_
 rw [List.drop_zero, show y - ((0 : Nat) : Int) = y by omega]

def mkL (c : Nat → Int) : S94 := ⟨c 0, c 1, c 2, c 3, c 4, c 5, c 6, c 7, c 8, c 9, c 10, c 11, c 12, c 13, c 14, c 15, c 16, c 17, c 18, c 19, c 20⟩
theorem cellsL_mk {c : Nat → Int} {R : List Int} (hR : R.length = 21) (h : ∀ q, q < 21 → c q = rd R (q : Int)) : cellsL (mkL c) = R := by
 refine List.ext_getElem (by rw [hR]; rfl) (fun i h1 h2 => ?_)
 have h3 := h i (by omega)
 rw [rd_nat h2] at h3
 rw [← h3]
 have hi : i < 21 := by omega
 match i, hi with
 | 0, _ => rfl
 | 1, _ => rfl
 | 2, _ => rfl
 | 3, _ => rfl
 | 4, _ => rfl
 | 5, _ => rfl
 | 6, _ => rfl
 | 7, _ => rfl
 | 8, _ => rfl
 | 9, _ => rfl
 | 10, _ => rfl
 | 11, _ => rfl
 | 12, _ => rfl
 | 13, _ => rfl
 | 14, _ => rfl
 | 15, _ => rfl
 | 16, _ => rfl
 | 17, _ => rfl
 | 18, _ => rfl
 | 19, _ => rfl
 | 20, _ => rfl
 | i + 21, h => exact absurd h (by omega)

theorem pwRow_rd (l : List Int) (s u h b : Int) (N : List Int) (m : Int) (p : S72) {i : Nat} (hi : i < 21) : rd (pwRow l s u h b N m p) (i : Int) = lvCost l s u h b N m ((i : Int) - 10) (upV l p.f0 p.f1 ((i : Int) - 10)) := by
 rw [rd_nat (by rw [pwRow_len]; exact hi)]
 simp [pwRow]
theorem ev_impl_PolicyWorth_l1 (n : Int) (l : List Int) (s u h b : Int) (L : List S72) (z : S94) (hl : 1 ≤ l.length ∧ l.length ≤ 5) (hn : 0 ≤ n ∧ n ≤ 5) (hh : 0 ≤ h ∧ h ≤ 9) (hb : 0 ≤ b ∧ b ≤ 9) (hL : (L.length : Int) = n) (m : Nat) (hm : (m : Int) + 1 ≤ n) (hpr : pairB l (rd_T72 L (n - 1 - (m : Int))) = true) {r : List Int × Bool} (hc : ∀ y : S94, cellsL y = pwRow l s u h b (cellsL z) ((m + 1 : Nat) : Int) (rd_T72 L (n - 1 - (m : Int))) → Ev (fun k => impl_PolicyWorth.l0 k L (n - 1 - ((m + 1 : Nat) : Int)) n l s u h b y.f0 y.f1 y.f2 y.f3 y.f4 y.f5 y.f6 y.f7 y.f8 y.f9 y.f10 y.f11 y.f12 y.f13 y.f14 y.f15 y.f16 y.f17 y.f18 y.f19 y.f20) r) (d : Nat) : ∀ (i : Nat) (c : Nat → Int), i + d = 21 → (∀ q, q < i → c q = rd (pwRow l s u h b (cellsL z) ((m + 1 : Nat) : Int) (rd_T72 L (n - 1 - (m : Int)))) (q : Int)) → Ev (fun k => impl_PolicyWorth.l1 k L (n - 1 - (m : Int)) ((m + 1 : Nat) : Int) ((i : Int) - 10) n l s u h b z.f0 z.f1 z.f2 z.f3 z.f4 z.f5 z.f6 z.f7 z.f8 z.f9 z.f10 z.f11 z.f12 z.f13 z.f14 z.f15 z.f16 z.f17 z.f18 z.f19 z.f20 (c 0) (c 1) (c 2) (c 3) (c 4) (c 5) (c 6) (c 7) (c 8) (c 9) (c 10) (c 11) (c 12) (c 13) (c 14) (c 15) (c 16) (c 17) (c 18) (c 19) (c 20)) r := by
 induction d with
 | zero =>
  intro i c hi hq
  refine ev_succ ?_
  have h1 : ¬ (i : Int) - 10 ≤ 10 := by omega
  simp only [impl_PolicyWorth.l1, h1, ↓reduceIte]
  rw [show wrap64 (n - 1 - (m : Int) - 1) = n - 1 - ((m + 1 : Nat) : Int) by rw [w64 (by omega) (by omega)]; omega]
  exact hc (mkL c) (cellsL_mk (pwRow_len _ _ _ _ _ _ _ _) (fun q hq2 => hq q (by omega)))
 | succ d ih =>
  intro i c hi hq
  refine ev_succ ?_
  have h1 : (i : Int) - 10 ≤ 10 := by omega
  have h2 : (0 : Int) ≤ n - 1 - (m : Int) := by omega
  have h3 : n - 1 - (m : Int) < (L.length : Int) := by omega
  have e2 : wrap64 ((i : Int) - 10 + 1) = ((i + 1 : Nat) : Int) - 10 := by rw [w64 (by omega) (by omega)]; omega
  have e3 : wrap64 ((i : Int) - 10 + 10) = (i : Int) := by rw [w64 (by omega) (by omega)]; omega
  have h4 : (0 : Int) ≤ (i : Int) := by omega
  have h5 : (i : Int) < 21 := by omega
  have hg := upV_ge (l := l) (x := (i : Int) - 10) hpr (by omega)
  have hfl := upV_floor (x := (i : Int) - 10) hpr hl.2
  have eo := impl_Process_order_f n l s u h b ((i : Int) - 10) _ hg.1
  simp only [impl_PolicyWorth.l1, h1, h2, h3, h4, h5, ↓reduceIte, e2, e3, impl_Process_orders_f, eo, Option.bind_some, Int.toNat_natCast]
  refine Ev.bind (ev_impl_Process_whole n l s u h b _ (by omega) (by omega)) ?_
  refine Ev.bind (ev_impl_Process_behind n l s u h b z _ _ hl.2 hh hb (by omega) ⟨hfl, hg.2.2⟩) ?_
  refine ih (i + 1) (fun q => selI i q (wrap64 (wrap64 (orderV s u ((i : Int) - 10) (upV l (rd_T72 L (n - 1 - (m : Int))).f0 (rd_T72 L (n - 1 - (m : Int))).f1 ((i : Int) - 10)) * powV l ((m + 1 : Nat) : Int)) + aftV l h b (cellsL z) (upV l (rd_T72 L (n - 1 - (m : Int))).f0 (rd_T72 L (n - 1 - (m : Int))).f1 ((i : Int) - 10)) ((m + 1 : Nat) : Int))) (c q)) (by omega) (fun q hq2 => ?_)
  by_cases e : i = q
  ·subst e
   rw [pwRow_rd _ _ _ _ _ _ _ _ (by omega)]
   unfold selI
   rw [if_pos rfl]
   rfl
  ·unfold selI
   rw [if_neg e]
   exact hq q (by omega)
theorem ev_impl_PolicyWorth_l0 (n : Int) (l : List Int) (s u h b : Int) (L : List S72) (hl : 1 ≤ l.length ∧ l.length ≤ 5) (hn : 0 ≤ n ∧ n ≤ 5) (hh : 0 ≤ h ∧ h ≤ 9) (hb : 0 ≤ b ∧ b ≤ 9) (hpol : policyB n l L = true) (d : Nat) : ∀ (m : Nat) (z : S94), (m : Int) + d = n → cellsL z = pwN n l s u h b L m → Ev (fun k => impl_PolicyWorth.l0 k L (n - 1 - (m : Int)) n l s u h b z.f0 z.f1 z.f2 z.f3 z.f4 z.f5 z.f6 z.f7 z.f8 z.f9 z.f10 z.f11 z.f12 z.f13 z.f14 z.f15 z.f16 z.f17 z.f18 z.f19 z.f20) (pwN n l s u h b L n.toNat, true) := by
 have hL := (policyB_spec hpol).1
 induction d with
 | zero =>
  intro m z hm hz
  refine ev_succ ?_
  have h1 : ¬ n - 1 - (m : Int) ≥ 0 := by omega
  simp only [impl_PolicyWorth.l0, h1, ↓reduceIte]
  rw [show [z.f0, z.f1, z.f2, z.f3, z.f4, z.f5, z.f6, z.f7, z.f8, z.f9, z.f10, z.f11, z.f12, z.f13, z.f14, z.f15, z.f16, z.f17, z.f18, z.f19, z.f20] = cellsL z from rfl, impl_copied_f _ (by rw [cellsL_len]; omega), Option.bind_some, hz, show n.toNat = m by omega]
  exact Ev.now _
 | succ d ih =>
  intro m z hm hz
  refine ev_succ ?_
  have h1 : n - 1 - (m : Int) ≥ 0 := by omega
  have e1 : wrap64 (n - (n - 1 - (m : Int))) = ((m + 1 : Nat) : Int) := by rw [w64 (by omega) (by omega)]; omega
  simp only [impl_PolicyWorth.l0, h1, e1, ↓reduceIte]
  exact ev_impl_PolicyWorth_l1 n l s u h b L z hl hn hh hb hL m (by omega) (pw_pair hpol (by omega)) (fun y hy => ih (m + 1) y (by omega) (by rw [hy, hz, pwN])) 21 0 (fun _ => 0) (by omega) (fun q hq => absurd hq (by omega))
theorem ev_impl_PolicyWorth_no (n : Int) (l : List Int) (s u h b : Int) (L : List S72) : Ev (fun k => impl_PolicyWorth.j0 k L true n l s u h b) ([], false) := by
 refine ev_succ ?_
 simp only [impl_PolicyWorth.j0, ↓reduceIte]
 exact Ev.now _
theorem ev_impl_PolicyWorth (n : Int) (l : List Int) (s u h b : Int) (L : List S72) (hl : l.length ≤ 9223372036854775807) (hL : L.length ≤ 9223372036854775807) : Ev (fun k => impl_PolicyWorth.f k n l s u h b L) (pworthV n l s u h b L) := by
 unfold impl_PolicyWorth.f pworthV
 refine Ev.bind (ev_impl_IsProcess n l s u h b hl) ?_
 refine ev_ite (fun hc => ?_) (fun hc => ?_)
 ·refine Ev.bind (ev_impl_Process_isPolicy n l s u h b L hL) ?_
  cases hpol : policyB n l L with
  | false => rw [if_neg (by simp)]; exact ev_impl_PolicyWorth_no n l s u h b L
  | true =>
   have hp := procB_spec hc
   rw [if_pos (by rw [hc]; rfl)]
   refine ev_succ ?_
   simp only [impl_PolicyWorth.j0, Bool.not_true, Bool.false_eq_true, ↓reduceIte]
   rw [show wrap64 (n - 1) = n - 1 - ((0 : Nat) : Int) by rw [w64 (by omega) (by omega)]; omega]
   exact ev_impl_PolicyWorth_l0 n l s u h b L hp.2.1 hp.1 hp.2.2.2.2.2.2.1 hp.2.2.2.2.2.2.2 hpol n.toNat 0 (mkL fun _ => 0) (by omega) rfl
 ·rw [if_neg (by simp [hc])]
  exact ev_impl_PolicyWorth_no n l s u h b L

theorem FnExactPolicyWorth (a0_0 : Int) (l0_1 : List (Int)) (a0_2 : Int) (a0_3 : Int) (a0_4 : Int) (a0_5 : Int) (l1 : List (S72)) (w0_0 : (Lit.int .i64 a0_0).wf = true) (h0_1 : l0_1.length ≤ 9223372036854775807) (w0_1 : ∀ y ∈ l0_1, (Lit.int .i64 y).wf = true) (w0_2 : (Lit.int .i64 a0_2).wf = true) (w0_3 : (Lit.int .i64 a0_3).wf = true) (w0_4 : (Lit.int .i64 a0_4).wf = true) (w0_5 : (Lit.int .i64 a0_5).wf = true) (h1 : l1.length ≤ 9223372036854775807) (w1 : ∀ y ∈ l1, ((Lit.int .i64 y.f0).wf = true ∧ (Lit.int .i64 y.f1).wf = true)) : ∃ k, laws_FnExactPolicyWorth.f k a0_0 l0_1 a0_2 a0_3 a0_4 a0_5 l1 = some true := by
 refine Ev.rounds ?_
 unfold laws_FnExactPolicyWorth.f
 by_cases hn : l0_1.length ≤ 1048576
 ·simp only [laws_szProcess_le a0_0 l0_1 a0_2 a0_3 a0_4 a0_5 hn, Option.bind_some, laws_szIntA2S_f l1 _ h1 (show 0 ≤ 1048576 - (l0_1.length : Int) by omega) (by omega)]
  refine ev_ite (fun h => Ev.now _) (fun h => ?_)
  by_cases hm : 1048576 - (l0_1.length : Int) - (l1.length : Int) < 0
  ·simp only [if_pos hm, show ((-1 : Int) < 0) = True from by simp, if_true]
   exact Ev.now _
  ·simp only [if_neg hm, if_false]
   have hl1 : l1.length ≤ 1048576 := by omega
   have hs := ev_spec_PolicyWorth a0_0 l0_1 a0_2 a0_3 a0_4 a0_5 l1 h0_1 h1
   have hi := ev_impl_PolicyWorth a0_0 l0_1 a0_2 a0_3 a0_4 a0_5 l1 h0_1 h1
   have hv := pworthV_len a0_0 l0_1 a0_2 a0_3 a0_4 a0_5 l1
   generalize pworthV a0_0 l0_1 a0_2 a0_3 a0_4 a0_5 l1 = v at hs hi hv
   obtain ⟨v, b⟩ := v
   dsimp only at hv
   clear h
   repeat first
    | exact Ev.now _
    | (refine Ev.bind ht ?_; try dsimp only)
    | (refine Ev.bind hs ?_; try dsimp only)
    | (refine Ev.bind hi ?_; try dsimp only)
    | (refine Ev.bind (ev_laws_toIntS _ (by first | assumption | omega)) ?_; try dsimp only)
    | (refine Ev.bind (ev_laws_toProcess _ _ _ _ _ _ (by first | assumption | omega)) ?_; try dsimp only)
    | (refine Ev.bind (ev_laws_toIntA2 _ _ (by first | assumption | omega)) ?_; try dsimp only)
    | (refine Ev.bind (ev_laws_toIntA2S _ (by first | assumption | omega)) ?_; try dsimp only)
    | (refine Ev.bind (ev_laws_eqIntS_self _ (by first | assumption | omega)) ?_; try dsimp only)
    | (refine Ev.bind (ev_laws_eqProcess_self _ _ _ _ _ _ (by first | assumption | omega)) ?_; try dsimp only)
    | (refine Ev.bind (ev_laws_eqIntA2_self _ _ (by first | assumption | omega)) ?_; try dsimp only)
    | (refine Ev.bind (ev_laws_eqIntA2S_self _ (by first | assumption | omega)) ?_; try dsimp only)
    | (refine Ev.bind (ev_laws_markIntS _ _ (by first | assumption | omega) (by first | assumption | omega) (by first | assumption | omega)) ?_; try dsimp only)
    | (refine Ev.bind (ev_laws_markProcess _ _ _ _ _ _ _ (by first | assumption | omega) (by first | assumption | omega) (by first | assumption | omega)) ?_; try dsimp only)
    | (refine Ev.bind (ev_laws_heldIntS _ _ (by first | assumption | omega) (by first | assumption | omega) (by first | assumption | omega)) ?_; try dsimp only)
    | (refine Ev.bind (ev_laws_markIntA2S _ _ (by first | assumption | omega) (by first | assumption | omega) (by first | assumption | omega)) ?_; try dsimp only)
    | (refine ev_ite (fun h => absurd h (by omega)) (fun _ => ?_))
    | (refine ev_ite (fun _ => ?_) (fun h => absurd (by omega) h))
    | (simp only [bne_self_eq_false, Bool.false_eq_true, ↓reduceIte])
    | (refine ev_succ ?_; simp only [laws_FnExactPolicyWorth.j0])
    | (refine ev_succ ?_; simp only [laws_FnExactPolicyWorth.j1])
    | (refine ev_succ ?_; simp only [laws_FnExactPolicyWorth.j2])
 ·simp only [laws_szProcess_gt a0_0 l0_1 a0_2 a0_3 a0_4 a0_5 h0_1 (by omega), Option.bind_some]
  exact Ev.now _

end Go.Proofs.Ytmekmkhdhakohaa.Pure
