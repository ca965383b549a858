/- The pure side of FnExactTraceLevels: what the program's text computes and what the reference's text computes are the same value, for every argument. No condition. -/
import Derived.Test.YtmekmkhdhakohaaPFnExactTraceLevelsx12
namespace Go.Proofs.Ytmekmkhdhakohaa.Pure
open Go.RowKit Go.Proofs.Ytmekmkhdhakohaa.PFnExactTraceLevels Go.Proofs.YtmekmkhdhakohaaW.PrintWords Go.Proofs.YtmekmkhdhakohaaW.PrintLast
set_option linter.unusedVariables false
set_option linter.unusedSimpArgs false

theorem ev_succ {α : Type} {g : Nat → Option α} {r : α} (h : Ev (fun k => g (k + 1)) r) : Ev g r := Ev.step (fun _ => rfl) h
theorem ev_pure {α : Type} {x : Option α} {r : α} (h : x = some r) : Ev (fun _ => x) r := ⟨0, fun _ _ => h⟩
theorem ev_eq {α : Type} {g : Nat → Option α} {r r' : α} (h : Ev g r) (e : r = r') : Ev g r' := e ▸ h
theorem ev_ite {α : Type} {c : Prop} [Decidable c] {g f : Nat → Option α} {r : α} (h1 : c → Ev g r) (h2 : ¬ c → Ev f r) : Ev (fun k => if c then g k else f k) r := by
  by_cases h : c
  · simp only [h, if_true]; exact h1 h
  · simp only [h, if_false]; exact h2 h
theorem w64 {x : Int} (h : -9223372036854775808 ≤ x) (h' : x ≤ 9223372036854775807) : wrap64 x = x := by unfold wrap64; omega
theorem w64_zero : wrap64 0 = 0 := w64 (by omega) (by omega)
theorem w64_idem (x : Int) : wrap64 (wrap64 x) = wrap64 x := by unfold wrap64; omega
theorem w64_add_l (x y : Int) : wrap64 (wrap64 x + y) = wrap64 (x + y) := by unfold wrap64; omega
theorem w64_add_r (x y : Int) : wrap64 (x + wrap64 y) = wrap64 (x + y) := by unfold wrap64; omega
theorem w64_sub_l (x y : Int) : wrap64 (wrap64 x - y) = wrap64 (x - y) := by unfold wrap64; omega
theorem w64_sub_r (x y : Int) : wrap64 (x - wrap64 y) = wrap64 (x - y) := by unfold wrap64; omega
theorem w64_shift (x k : Int) : wrap64 (x + 18446744073709551616 * k) = wrap64 x := by unfold wrap64; omega
theorem w64_ex (x : Int) : ∃ k, wrap64 x = x + 18446744073709551616 * k := by
  unfold wrap64
  exact ⟨-((x + 9223372036854775808) / 18446744073709551616), by omega⟩
theorem w64_mul_l (x y : Int) : wrap64 (wrap64 x * y) = wrap64 (x * y) := by
  obtain ⟨k, hk⟩ := w64_ex x
  rw [hk, Int.add_mul, Int.mul_assoc, w64_shift]
theorem w64_mul_r (x y : Int) : wrap64 (x * wrap64 y) = wrap64 (x * y) := by
  rw [Int.mul_comm, w64_mul_l, Int.mul_comm]
theorem w64_neg (x : Int) : wrap64 (-wrap64 x) = wrap64 (-x) := by unfold wrap64; omega
theorem w64_range (x : Int) : -9223372036854775808 ≤ wrap64 x ∧ wrap64 x ≤ 9223372036854775807 := by unfold wrap64; omega
theorem w64_nat {i n : Nat} (h : i < n) (hn : n ≤ 9223372036854775807) : wrap64 ((i : Int) + 1) = ((i + 1 : Nat) : Int) := by rw [w64 (by omega) (by omega)]; rfl
theorem wf_range {x : Int} (h : (Lit.int .i64 x).wf = true) : -9223372036854775808 ≤ x ∧ x ≤ 9223372036854775807 := by
  simp [Lit.wf, IntKind.min, IntKind.max, IntKind.signed, IntKind.bits] at h
  omega
theorem rd_nat {l : List Int} {i : Nat} (h : i < l.length) : rd l (i : Int) = l[i] := by
  unfold rd
  simp [List.getD_eq_getElem?_getD, h]
def allB (l : List Int) (a b : Int) : Bool := l.all fun x => decide (a ≤ x ∧ x ≤ b)
def inB (x a b : Int) : Bool := decide (a ≤ x ∧ x ≤ b)
theorem allB_mem {l : List Int} {a b : Int} (h : allB l a b = true) : ∀ x ∈ l, a ≤ x ∧ x ≤ b := by
  intro x hx
  have := List.all_eq_true.1 h x hx
  simpa using this
theorem inB_iff {x a b : Int} : inB x a b = true ↔ a ≤ x ∧ x ≤ b := by unfold inB; simp
theorem sum_le {l : List Int} {b : Int} (hb : ∀ x ∈ l, x ≤ b) : l.sum ≤ l.length * b := by
  induction l with
  | nil => simp
  | cons x l ih =>
    have h1 := hb x (by simp)
    have h2 := ih (fun y hy => hb y (by simp [hy]))
    rw [List.sum_cons, List.length_cons]
    have : ((l.length + 1 : Nat) : Int) * b = l.length * b + b := by rw [Int.natCast_add, Int.add_mul]; simp
    rw [this]; omega
theorem le_sum {l : List Int} {b : Int} (hb : ∀ x ∈ l, b ≤ x) : l.length * b ≤ l.sum := by
  induction l with
  | nil => simp
  | cons x l ih =>
    have h1 := hb x (by simp)
    have h2 := ih (fun y hy => hb y (by simp [hy]))
    rw [List.sum_cons, List.length_cons]
    have : ((l.length + 1 : Nat) : Int) * b = l.length * b + b := by rw [Int.natCast_add, Int.add_mul]; simp
    rw [this]; omega
theorem drop_cons {α : Type} {l : List α} {i : Nat} (h : i < l.length) : l.drop i = l[i] :: l.drop (i + 1) := List.drop_eq_getElem_cons h

theorem laws_szIntS_le (l : List Int) (hl : l.length ≤ 1048576) : laws_szIntS.f l 1048576 = some (1048576 - (l.length : Int)) := by
  unfold laws_szIntS.f
  rw [w64 (by omega) (by omega), if_neg (by omega)]
theorem laws_szIntS_gt (l : List Int) (h : l.length ≤ 9223372036854775807) (hl : 1048576 < l.length) : laws_szIntS.f l 1048576 = some (-1) := by
  unfold laws_szIntS.f
  rw [w64 (by omega) (by omega), if_pos (by omega)]
theorem laws_szIntS_f (l : List Int) (t : Int) (h : l.length ≤ 9223372036854775807) (h0 : 0 ≤ t) (h1 : t ≤ 1048576) : laws_szIntS.f l t = some (if t - (l.length : Int) < 0 then -1 else t - (l.length : Int)) := by
  unfold laws_szIntS.f
  rw [w64 (by omega) (by omega)]
  by_cases hc : t - (l.length : Int) < 0
  · rw [if_pos hc, if_pos hc]
  · rw [if_neg hc, if_neg hc]

theorem laws_szProcess_le (n : Int) (l : List Int) (s u h b : Int) (hl : l.length ≤ 1048576) : laws_szProcess.f n l s u h b 1048576 = some (1048576 - (l.length : Int)) := by
  unfold laws_szProcess.f
  rw [laws_szIntS_le l hl, Option.bind_some, if_neg (by omega)]
theorem laws_szProcess_gt (n : Int) (l : List Int) (s u h b : Int) (hh : l.length ≤ 9223372036854775807) (hl : 1048576 < l.length) : laws_szProcess.f n l s u h b 1048576 = some (-1) := by
  unfold laws_szProcess.f
  rw [laws_szIntS_gt l hh hl, Option.bind_some, if_pos (by omega)]

theorem laws_szIntA2S_f (l : List S72) (t : Int) (h : l.length ≤ 9223372036854775807) (h0 : 0 ≤ t) (h1 : t ≤ 1048576) : laws_szIntA2S.f l t = some (if t - (l.length : Int) < 0 then -1 else t - (l.length : Int)) := by
  unfold laws_szIntA2S.f
  rw [w64 (by omega) (by omega)]
  split <;> rfl

theorem ev_laws_toIntS_l0 (l : List Int) (hl : l.length ≤ 9223372036854775807) (d : Nat) : ∀ (i : Nat) (o : List Int), i + d = l.length → o.length = l.length → Ev (fun k => laws_toIntS.l0 k l o (i : Int)) (o.take i ++ l.drop i) := by
  induction d with
  | zero =>
    intro i o hi ho
    refine ev_succ ?_
    have h1 : ¬ (i : Int) < (l.length : Int) := by omega
    simp only [laws_toIntS.l0, h1, ↓reduceIte]
    rw [List.drop_eq_nil_of_le (by omega), List.take_of_length_le (by omega), List.append_nil]
    exact Ev.now _
  | succ d ih =>
    intro i o hi ho
    refine ev_succ ?_
    have h1 : (i : Int) < (l.length : Int) := by omega
    have h2 : (i : Int) < (o.length : Int) := by omega
    have h0 : (0 : Int) ≤ (i : Int) := by omega
    have hi' : i < l.length := by omega
    simp only [laws_toIntS.l0, h1, h2, h0, ↓reduceIte, rd_nat hi', w64_nat hi' hl, Int.toNat_natCast]
    refine ev_eq (ih (i + 1) _ (by omega) (by simp [ho])) ?_
    rw [drop_cons hi', List.take_add_one]
    simp [ho, hi', List.take_set_of_le (Nat.le_refl i)]
theorem ev_laws_toIntS (l : List Int) (hl : l.length ≤ 1048576) : Ev (fun k => laws_toIntS.f k l) l := by
  unfold laws_toIntS.f
  have h0 : (0 : Int) ≤ (l.length : Int) := by omega
  have h1 : ((l.length : Int) : Int).toNat ≤ 35184372088832 := by omega
  simp only [h0, h1, ↓reduceIte]
  simpa using ev_laws_toIntS_l0 l (by omega) l.length 0 (List.replicate ((l.length : Int) : Int).toNat 0) (by omega) (by simp)

theorem ev_laws_toProcess (n : Int) (l : List Int) (s u h b : Int) (hl : l.length ≤ 1048576) : Ev (fun k => laws_toProcess.f k n l s u h b) (n, l, s, u, h, b) := by
  unfold laws_toProcess.f
  exact Ev.bind (ev_laws_toIntS l hl) (Ev.now _)

theorem ev_laws_toIntA2 (x y : Int) : Ev (fun k => laws_toIntA2.f k x y) (x, y) := by
  unfold laws_toIntA2.f
  refine ev_succ (ev_succ (ev_succ ?_))
  have e1 : wrap64 1 = 1 := w64 (by omega) (by omega)
  have e2 : wrap64 2 = 2 := w64 (by omega) (by omega)
  simp only [laws_toIntA2.l0, Int.reduceLT, Int.reduceEq, Int.reduceAdd, e1, e2, ↓reduceIte]
  exact Ev.now _

theorem rdA2_nat {l : List S72} {i : Nat} (h : i < l.length) : rd_T72 l (i : Int) = l[i] := by
  unfold rd_T72
  simp [List.getD_eq_getElem?_getD, h]

theorem ev_laws_toIntA2S_l0 (l : List S72) (hl : l.length ≤ 9223372036854775807) (d : Nat) : ∀ (i : Nat) (o : List S72), i + d = l.length → o.length = l.length → Ev (fun k => laws_toIntA2S.l0 k l o (i : Int)) (o.take i ++ l.drop i) := by
  induction d with
  | zero =>
    intro i o hi ho
    refine ev_succ ?_
    have h1 : ¬ (i : Int) < (l.length : Int) := by omega
    simp only [laws_toIntA2S.l0, h1, ↓reduceIte]
    rw [List.drop_eq_nil_of_le (by omega), List.take_of_length_le (by omega), List.append_nil]
    exact Ev.now _
  | succ d ih =>
    intro i o hi ho
    refine ev_succ ?_
    have h1 : (i : Int) < (l.length : Int) := by omega
    have h2 : (i : Int) < (o.length : Int) := by omega
    have h0 : (0 : Int) ≤ (i : Int) := by omega
    have hi' : i < l.length := by omega
    simp only [laws_toIntA2S.l0, h1, h2, h0, ↓reduceIte, w64_nat hi' hl, Int.toNat_natCast]
    refine Ev.bind (ev_laws_toIntA2 _ _) ?_
    refine ev_eq (ih (i + 1) _ (by omega) (by simp [ho])) ?_
    have e : (⟨l[i].f0, l[i].f1⟩ : S72) :: l.drop (i + 1) = l.drop i := (drop_cons hi').symm
    rw [List.take_add_one, rdA2_nat hi']
    simp [ho, hi', List.take_set_of_le (Nat.le_refl i), e]
theorem ev_laws_toIntA2S (l : List S72) (hl : l.length ≤ 1048576) : Ev (fun k => laws_toIntA2S.f k l) l := by
  unfold laws_toIntA2S.f
  have h0 : (0 : Int) ≤ (l.length : Int) := by omega
  have h1 : ((l.length : Int) : Int).toNat ≤ 17592186044416 := by omega
  simp only [h0, h1, ↓reduceIte]
  simpa using ev_laws_toIntA2S_l0 l (by omega) l.length 0 (List.replicate ((l.length : Int) : Int).toNat z72) (by omega) (by simp)

theorem ev_laws_eqIntS_l0 (l m : List Int) (hl : l.length ≤ 9223372036854775807) (he : l.length = m.length) (d : Nat) : ∀ (i : Nat), i + d = l.length → Ev (fun k => laws_eqIntS.l0 k l m (i : Int)) (decide (l.drop i = m.drop i)) := by
  induction d with
  | zero =>
    intro i hi
    refine ev_succ ?_
    have h1 : ¬ (i : Int) < (l.length : Int) := by omega
    simp only [laws_eqIntS.l0, h1, ↓reduceIte]
    rw [List.drop_eq_nil_of_le (by omega), List.drop_eq_nil_of_le (by omega)]
    exact Ev.now _
  | succ d ih =>
    intro i hi
    refine ev_succ ?_
    have h1 : (i : Int) < (l.length : Int) := by omega
    have h2 : (i : Int) < (m.length : Int) := by omega
    have h0 : (0 : Int) ≤ (i : Int) := by omega
    have hi' : i < l.length := by omega
    have hm' : i < m.length := by omega
    simp only [laws_eqIntS.l0, h1, h2, h0, ↓reduceIte, rd_nat hi', rd_nat hm', w64_nat hi' hl]
    refine ev_ite (fun h => ?_) (fun h => ?_)
    · refine ev_eq (ih (i + 1) (by omega)) ?_
      rw [drop_cons hi', drop_cons hm', decide_eq_decide, h, List.cons.injEq]
      exact (and_iff_right rfl).symm
    · refine ev_eq (Ev.now _) ?_
      rw [drop_cons hi', drop_cons hm']
      symm
      rw [decide_eq_false_iff_not, List.cons.injEq]
      exact fun hc => h hc.1
theorem ev_laws_eqIntS (l m : List Int) (hl : l.length ≤ 9223372036854775807) : Ev (fun k => laws_eqIntS.f k l m) (decide (l = m)) := by
  unfold laws_eqIntS.f
  refine ev_ite (fun h => ?_) (fun h => ?_)
  · simpa using ev_laws_eqIntS_l0 l m hl (by omega) l.length 0 (by omega)
  · refine ev_eq (Ev.now _) ?_
    symm
    rw [decide_eq_false_iff_not]
    rintro rfl
    exact h rfl
theorem ev_laws_eqIntS_self (l : List Int) (hl : l.length ≤ 9223372036854775807) : Ev (fun k => laws_eqIntS.f k l l) true := by
  simpa using ev_laws_eqIntS l l hl

theorem ev_laws_eqProcess_self (n : Int) (l : List Int) (s u h b : Int) (hl : l.length ≤ 9223372036854775807) : Ev (fun k => laws_eqProcess.f k n l s u h b n l s u h b) true := by
  unfold laws_eqProcess.f
  simp only [↓reduceIte]
  refine Ev.bind (ev_laws_eqIntS_self l hl) ?_
  simp only [↓reduceIte]
  exact Ev.now _

theorem ev_laws_eqIntA2_self (x y : Int) : Ev (fun k => laws_eqIntA2.f k x y x y) true := by
  unfold laws_eqIntA2.f
  refine ev_succ (ev_succ (ev_succ ?_))
  have e1 : wrap64 1 = 1 := w64 (by omega) (by omega)
  have e2 : wrap64 2 = 2 := w64 (by omega) (by omega)
  simp only [laws_eqIntA2.l0, Int.reduceLT, Int.reduceEq, Int.reduceAdd, e1, e2, ↓reduceIte]
  exact Ev.now _

theorem ev_laws_eqIntA2S_self_l0 (l : List S72) (hl : l.length ≤ 9223372036854775807) (d : Nat) : ∀ (i : Nat), i + d = l.length → Ev (fun k => laws_eqIntA2S.l0 k l l (i : Int)) true := by
  induction d with
  | zero =>
    intro i hi
    refine ev_succ ?_
    have h1 : ¬ (i : Int) < (l.length : Int) := by omega
    simp only [laws_eqIntA2S.l0, h1, ↓reduceIte]
    exact Ev.now _
  | succ d ih =>
    intro i hi
    refine ev_succ ?_
    have h1 : (i : Int) < (l.length : Int) := by omega
    have h0 : (0 : Int) ≤ (i : Int) := by omega
    have hi' : i < l.length := by omega
    simp only [laws_eqIntA2S.l0, h1, h0, ↓reduceIte, w64_nat hi' hl]
    refine Ev.bind (ev_laws_eqIntA2_self _ _) ?_
    simp only [↓reduceIte]
    exact ih (i + 1) (by omega)
theorem ev_laws_eqIntA2S_self (l : List S72) (hl : l.length ≤ 9223372036854775807) : Ev (fun k => laws_eqIntA2S.f k l l) true := by
  unfold laws_eqIntA2S.f
  simp only [↓reduceIte]
  exact ev_laws_eqIntA2S_self_l0 l hl l.length 0 (by omega)

def marked (m : Int) : Nat → List Int
  | 0 => []
  | n + 1 => m :: marked (m + 1) n
theorem marked_length (m : Int) (n : Nat) : (marked m n).length = n := by
  induction n generalizing m with
  | zero => rfl
  | succ n ih => simp [marked, ih]
theorem marked_get (m : Int) (n i : Nat) (h : i < (marked m n).length) : (marked m n)[i] = m + i := by
  induction n generalizing m i with
  | zero => simp [marked] at h
  | succ n ih =>
    cases i with
    | zero => simp [marked]
    | succ i =>
      simp only [marked, List.getElem_cons_succ]
      rw [ih]
      omega
theorem ev_laws_markIntS_l0 (l0 : List Int) (hl : l0.length ≤ 4611686018427387904) (m0 : Int) (h0 : 0 ≤ m0) (h1 : m0 ≤ 1000000000) (d : Nat) : ∀ (i : Nat) (l : List Int), i + d = l.length → l.length = l0.length → Ev (fun k => laws_markIntS.l0 k l (m0 + (i : Int)) (i : Int)) (m0 + (l.length : Int), l.take i ++ marked (m0 + i) d) := by
  induction d with
  | zero =>
    intro i l hi hle
    refine ev_succ ?_
    have h1 : ¬ (i : Int) < (l.length : Int) := by omega
    simp only [laws_markIntS.l0, h1, ↓reduceIte]
    rw [List.take_of_length_le (by omega)]
    have : i = l.length := by omega
    subst this
    simp only [marked, List.append_nil]
    exact Ev.now _
  | succ d ih =>
    intro i l hi hle
    refine ev_succ ?_
    have h1' : (i : Int) < (l.length : Int) := by omega
    have h0' : (0 : Int) ≤ (i : Int) := by omega
    have hi' : i < l.length := by omega
    have e1 : wrap64 (m0 + (i : Int) + 1) = m0 + ((i + 1 : Nat) : Int) := by rw [w64 (by omega) (by omega)]; omega
    simp only [laws_markIntS.l0, h1', h0', ↓reduceIte, w64_nat hi' (by omega : l.length ≤ 9223372036854775807), Int.toNat_natCast, e1]
    refine ev_eq (ih (i + 1) (l.set i (m0 + (i : Int))) (by simp; omega) (by simp [hle])) ?_
    rw [List.length_set]
    congr 1
    rw [List.take_add_one]
    simp only [List.getElem?_set_self hi', List.take_set_of_le (Nat.le_refl i)]
    simp only [Option.toList_some, List.append_assoc, List.singleton_append, marked]
    congr 3
    omega
theorem ev_laws_markIntS (l : List Int) (m : Int) (hl : l.length ≤ 4611686018427387904) (h0 : 0 ≤ m) (h1 : m ≤ 1000000000) : Ev (fun k => laws_markIntS.f k l m) (m + (l.length : Int), marked m l.length) := by
  unfold laws_markIntS.f
  simpa using ev_laws_markIntS_l0 l hl m h0 h1 l.length 0 l (by omega) rfl

theorem ev_laws_markProcess (n : Int) (l : List Int) (s u h b x : Int) (hl : l.length ≤ 4611686018427387904) (h0 : 0 ≤ x) (h1 : x ≤ 1000000000) : Ev (fun k => laws_markProcess.f k n l s u h b x) (x + (l.length : Int), marked x l.length) := by
  unfold laws_markProcess.f
  exact Ev.bind (ev_laws_markIntS l x hl h0 h1) (Ev.now _)

theorem ev_laws_heldIntS_l0 (m0 : Int) (n : Nat) (hn : n ≤ 4611686018427387904) (h0 : 0 ≤ m0) (h1 : m0 ≤ 1000000000) (d : Nat) : ∀ (i : Nat), i + d = n → Ev (fun k => laws_heldIntS.l0 k (marked m0 n) (m0 + (i : Int)) (i : Int)) (m0 + (n : Int)) := by
  induction d with
  | zero =>
    intro i hi
    refine ev_succ ?_
    have h1 : ¬ (i : Int) < ((marked m0 n).length : Int) := by rw [marked_length]; omega
    simp only [laws_heldIntS.l0, h1, ↓reduceIte]
    have : i = n := by omega
    subst this
    exact Ev.now _
  | succ d ih =>
    intro i hi
    refine ev_succ ?_
    have h1' : (i : Int) < ((marked m0 n).length : Int) := by rw [marked_length]; omega
    have h0' : (0 : Int) ≤ (i : Int) := by omega
    have hi' : i < (marked m0 n).length := by rw [marked_length]; omega
    have e1 : wrap64 (m0 + (i : Int) + 1) = m0 + ((i + 1 : Nat) : Int) := by rw [w64 (by omega) (by omega)]; omega
    have e2 : wrap64 ((i : Int) + 1) = ((i + 1 : Nat) : Int) := w64_nat (n := n) (by omega) (by omega)
    simp only [laws_heldIntS.l0, h1', h0', ↓reduceIte, rd_nat hi', marked_get, e1, e2]
    exact ih (i + 1) (by omega)
theorem ev_laws_heldIntS (m : Int) (n : Nat) (hn : n ≤ 4611686018427387904) (h0 : 0 ≤ m) (h1 : m ≤ 1000000000) : Ev (fun k => laws_heldIntS.f k (marked m n) m) (m + (n : Int)) := by
  unfold laws_heldIntS.f
  simpa using ev_laws_heldIntS_l0 m n hn h0 h1 n 0 (by omega)

theorem ev_spec_l2Sum_l0 (l : List Int) (hl : l.length ≤ 9223372036854775807) (d : Nat) : ∀ (i : Nat) (s : Int), i + d = l.length → wrap64 s = s → Ev (fun k => spec_l2Sum.l0 k l s (i : Int)) (wrap64 (s + (l.drop i).sum)) := by
  induction d with
  | zero =>
    intro i s hi hs
    refine ev_succ ?_
    have h1 : ¬ (i : Int) < (l.length : Int) := by omega
    simp only [spec_l2Sum.l0, h1, ↓reduceIte]
    rw [List.drop_eq_nil_of_le (by omega)]
    simp only [List.sum_nil, Int.add_zero, hs]
    exact Ev.now _
  | succ d ih =>
    intro i s hi hs
    refine ev_succ ?_
    have h1 : (i : Int) < (l.length : Int) := by omega
    have h0 : (0 : Int) ≤ (i : Int) := by omega
    have hi' : i < l.length := by omega
    simp only [spec_l2Sum.l0, h1, h0, ↓reduceIte, rd_nat hi', w64_nat hi' hl]
    refine ev_eq (ih (i + 1) _ (by omega) (w64_idem _)) ?_
    rw [drop_cons hi', List.sum_cons, w64_add_l, Int.add_assoc]
theorem ev_spec_l2Sum (l : List Int) (hl : l.length ≤ 9223372036854775807) : Ev (fun k => spec_l2Sum.f k l) (wrap64 l.sum) := by
  unfold spec_l2Sum.f
  simpa using ev_spec_l2Sum_l0 l hl l.length 0 0 (by omega) w64_zero

theorem spec_l1In_f (a b c : Int) : spec_l1In.f a b c = some (inB a b c) := by
  unfold spec_l1In.f inB
  by_cases h : a ≥ b
  · rw [if_pos h]; congr 1; rw [decide_eq_decide]; omega
  · rw [if_neg h]; congr 1; symm; rw [decide_eq_false_iff_not]; omega

theorem ev_spec_l2Row_l0 (n b : Int) (l : List Int) (hl : l.length ≤ 9223372036854775807) (d : Nat) : ∀ i : Nat, i + d = l.length → Ev (fun k => spec_l2Row.l0 k l n b (i : Int)) (allB (l.drop i) 0 b && ((l.length : Int) == n)) := by
  induction d with
  | zero =>
    intro i hi
    refine ev_succ ?_
    have h1 : ¬ (i : Int) < (l.length : Int) := by omega
    simp only [spec_l2Row.l0, h1, ↓reduceIte]
    rw [List.drop_eq_nil_of_le (by omega)]
    exact Ev.now _
  | succ d ih =>
    intro i hi
    refine ev_succ ?_
    have h1 : (i : Int) < (l.length : Int) := by omega
    have h0 : (0 : Int) ≤ (i : Int) := by omega
    have hi' : i < l.length := by omega
    simp only [spec_l2Row.l0, h1, h0, ↓reduceIte, spec_l1In_f, Option.bind_some, rd_nat hi', w64_nat hi' hl]
    rw [drop_cons hi']
    show Ev _ ((inB l[i] 0 b && allB (l.drop (i + 1)) 0 b) && _)
    cases inB l[i] 0 b with
    | true => simpa using ih (i + 1) (by omega)
    | false => simpa using Ev.now false
theorem ev_spec_l2Row (l : List Int) (n b : Int) (hl : l.length ≤ 9223372036854775807) : Ev (fun k => spec_l2Row.f k l n b) (allB l 0 b && ((l.length : Int) == n)) := by
  unfold spec_l2Row.f
  simpa using ev_spec_l2Row_l0 n b l hl l.length 0 (by omega)

def cst (h b x : Int) : Int := if x > 0 then wrap64 (h * x) else wrap64 (wrap64 (-b) * x)
def ratesB (h b : Int) : Bool := inB h 0 9 && inB b 0 9
def costV (l : List Int) (h b : Int) : Int := wrap64 (l.map (cst h b)).sum
def stockV (l : List Int) (h b : Int) : Int × Bool := if (decide ((l.length : Int) ≤ 20) && ratesB h b && allB l (-200) 200) = true then (costV l h b, true) else (0, false)
theorem ratesB_mem {h b : Int} (hr : ratesB h b = true) : (0 ≤ h ∧ h ≤ 9) ∧ 0 ≤ b ∧ b ≤ 9 := by
  unfold ratesB at hr
  simp only [Bool.and_eq_true, inB_iff] at hr
  exact hr
theorem cst_impl {h b x : Int} (hh : 0 ≤ h ∧ h ≤ 9) (hb : 0 ≤ b ∧ b ≤ 9) (hx : -100000 ≤ x ∧ x ≤ 100000) : wrap64 (wrap64 (h * mx 0 x) + wrap64 (b * mx 0 (wrap64 (-x)))) = cst h b x := by
  have e : wrap64 (-x) = -x := w64 (by omega) (by omega)
  have e2 : wrap64 (-b) = -b := w64 (by omega) (by omega)
  rw [e]
  unfold cst
  rw [e2]
  by_cases hp : x > 0
  · have m1 : mx 0 x = x := by unfold mx; omega
    have m2 : mx 0 (-x) = 0 := by unfold mx; omega
    rw [m1, m2, if_pos hp, Int.mul_zero, w64_add_l, w64_add_r, Int.add_zero]
  · have m1 : mx 0 x = 0 := by unfold mx; omega
    have m2 : mx 0 (-x) = -x := by unfold mx; omega
    rw [m1, m2, if_neg hp, Int.mul_zero, w64_add_l, w64_add_r, Int.zero_add, Int.mul_neg, Int.neg_mul]
theorem cst_range {h b x : Int} (hh : 0 ≤ h ∧ h ≤ 9) (hb : 0 ≤ b ∧ b ≤ 9) (hx : -100000 ≤ x ∧ x ≤ 100000) : 0 ≤ cst h b x ∧ cst h b x ≤ 900000 := by
  unfold cst
  rw [w64 (x := -b) (by omega) (by omega)]
  by_cases hp : x > 0
  · rw [if_pos hp]
    have h1 : 0 ≤ h * x := Int.mul_nonneg hh.1 (by omega)
    have h2 : h * x ≤ 9 * x := Int.mul_le_mul_of_nonneg_right hh.2 (by omega)
    rw [w64 (by omega) (by omega)]
    omega
  · rw [if_neg hp, Int.neg_mul, ← Int.mul_neg]
    have h1 : 0 ≤ b * -x := Int.mul_nonneg hb.1 (by omega)
    have h2 : b * -x ≤ 9 * -x := Int.mul_le_mul_of_nonneg_right hb.2 (by omega)
    rw [w64 (by omega) (by omega)]
    omega

def procB (n : Int) (l : List Int) (s u h b : Int) : Bool := inB n 0 5 && (inB (l.length : Int) 1 5 && (allB l 0 4 && (decide (wrap64 l.sum > 0) && (inB s 0 99 && (inB u 0 9 && (inB h 0 9 && inB b 0 9))))))
theorem procB_spec {n : Int} {l : List Int} {s u h b : Int} (hp : procB n l s u h b = true) : (0 ≤ n ∧ n ≤ 5) ∧ (1 ≤ l.length ∧ l.length ≤ 5) ∧ (∀ x ∈ l, 0 ≤ x ∧ x ≤ 4) ∧ (0 < l.sum ∧ l.sum ≤ 20) ∧ (0 ≤ s ∧ s ≤ 99) ∧ (0 ≤ u ∧ u ≤ 9) ∧ (0 ≤ h ∧ h ≤ 9) ∧ (0 ≤ b ∧ b ≤ 9) := by
  unfold procB at hp
  simp only [Bool.and_eq_true, inB_iff, decide_eq_true_eq] at hp
  obtain ⟨h1, h2, h3, h4, h5, h6, h7, h8⟩ := hp
  have hm := allB_mem h3
  have s1 := sum_le (b := 4) (fun y hy => (hm y hy).2)
  have s2 := le_sum (b := 0) (fun y hy => (hm y hy).1)
  rw [w64 (by omega) (by omega)] at h4
  exact ⟨h1, by omega, hm, by omega, h5, h6, h7, h8⟩
def floorV (l : List Int) : Int := wrap64 (wrap64 ((l.length : Int) - 1) - 10)
theorem floorV_eq {l : List Int} (h : l.length ≤ 5) : floorV l = (l.length : Int) - 11 := by
  unfold floorV
  rw [w64 (x := (l.length : Int) - 1) (by omega) (by omega), w64 (by omega) (by omega)]
  omega
def pairB (l : List Int) (x : S72) : Bool := inB x.f0 (-10) 10 && (inB x.f1 (-10) 10 && (!decide (x.f0 > x.f1) && !decide (x.f1 < floorV l)))
theorem pairB_spec {l : List Int} {x : S72} (h : pairB l x = true) : (-10 ≤ x.f0 ∧ x.f0 ≤ 10) ∧ (-10 ≤ x.f1 ∧ x.f1 ≤ 10) ∧ x.f0 ≤ x.f1 ∧ floorV l ≤ x.f1 := by
  unfold pairB at h
  simp only [Bool.and_eq_true, inB_iff, Bool.not_eq_true', decide_eq_false_iff_not] at h
  omega
def polFrom (n : Int) (l : List Int) (L : List S72) : Nat → Nat → Bool
  | 0, _ => ((L.length : Int) == n)
  | d + 1, i => pairB l (rd_T72 L (i : Int)) && polFrom n l L d (i + 1)
def policyB (n : Int) (l : List Int) (L : List S72) : Bool := polFrom n l L L.length 0
theorem polFrom_spec {n : Int} {l : List Int} {L : List S72} (d : Nat) : ∀ i, polFrom n l L d i = true → (L.length : Int) = n ∧ ∀ j, i ≤ j → j < i + d → pairB l (rd_T72 L (j : Int)) = true := by
  induction d with
  | zero => intro i h; exact ⟨by simpa [polFrom] using h, fun j h1 h2 => by omega⟩
  | succ d ih =>
    intro i h
    rw [polFrom, Bool.and_eq_true] at h
    obtain ⟨h1, h2⟩ := ih (i + 1) h.2
    refine ⟨h1, fun j h3 h4 => ?_⟩
    by_cases he : j = i
    · subst he; exact h.1
    · exact h2 j (by omega) (by omega)
theorem policyB_spec {n : Int} {l : List Int} {L : List S72} (h : policyB n l L = true) : (L.length : Int) = n ∧ ∀ j, j < L.length → pairB l (rd_T72 L (j : Int)) = true := by
  obtain ⟨h1, h2⟩ := polFrom_spec L.length 0 h
  exact ⟨h1, fun j hj => h2 j (by omega) (by omega)⟩
def askedB (l : List Int) (d : Int) : Bool := inB d 0 (wrap64 ((l.length : Int) - 1)) && decide (rd l d > 0)
def upV (l : List Int) (x0 x1 x : Int) : Int := if x < x0 then x1 else if x < floorV l then x1 else x
def orderV (s u x y : Int) : Int := if y > x then wrap64 (s + wrap64 (u * wrap64 (y - x))) else 0
theorem upV_ge {l : List Int} {p : S72} {x : Int} (h : pairB l p = true) (hx : -10 ≤ x ∧ x ≤ 10) : x ≤ upV l p.f0 p.f1 x ∧ -10 ≤ upV l p.f0 p.f1 x ∧ upV l p.f0 p.f1 x ≤ 10 := by
  have := pairB_spec h
  unfold upV
  by_cases h1 : x < p.f0
  · rw [if_pos h1]; omega
  · rw [if_neg h1]
    by_cases h2 : x < floorV l
    · rw [if_pos h2]; omega
    · rw [if_neg h2]; omega
def stepOf (l : List Int) (s u h b : Int) (p : S72) (x d : Int) : Int × Int × Int :=
  (upV l p.f0 p.f1 x, wrap64 (upV l p.f0 p.f1 x - d), wrap64 (orderV s u x (upV l p.f0 p.f1 x) + cst h b (wrap64 (upV l p.f0 p.f1 x - d))))
def stepLevelV (n : Int) (l : List Int) (s u h b : Int) (L : List S72) (t x d : Int) : Int × Int × Int × Bool :=
  if (procB n l s u h b && inB t 0 (wrap64 (n - 1)) && policyB n l L && inB x (-10) 10 && askedB l d) = true then ((stepOf l s u h b (rd_T72 L t) x d).1, (stepOf l s u h b (rd_T72 L t) x d).2.1, (stepOf l s u h b (rd_T72 L t) x d).2.2, true) else (0, 0, 0, false)

theorem ev_spec_l6Good (n : Int) (l : List Int) (s u h b : Int) (hl : l.length ≤ 9223372036854775807) : Ev (fun k => spec_l6Good.f k n l s u h b) (procB n l s u h b) := by
  unfold spec_l6Good.f procB
  simp only [spec_l1In_f, Option.bind_some]
  refine ev_ite (fun h1 => ?_) (fun h1 => ?_)
  · refine ev_ite (fun h2 => ?_) (fun h2 => ?_)
    · refine Ev.bind (ev_spec_l2Row l _ 4 hl) ?_
      simp only [beq_self_eq_true, Bool.and_true]
      refine ev_ite (fun h3 => ?_) (fun h3 => ?_)
      · refine Ev.bind (ev_spec_l2Sum l hl) ?_
        refine ev_ite (fun h4 => ?_) (fun h4 => ?_)
        · refine ev_eq (ev_pure (x := _) (r := inB s 0 99 && (inB u 0 9 && (inB h 0 9 && inB b 0 9))) ?_) ?_
          · cases inB s 0 99 <;> cases inB u 0 9 <;> cases inB h 0 9 <;> rfl
          · simp [h1, h2, h3, h4]
        · exact ev_eq (Ev.now _) (by simp [h4])
      · exact ev_eq (Ev.now _) (by simp [h3])
    · exact ev_eq (Ev.now _) (by simp [h2])
  · exact ev_eq (Ev.now _) (by simp [h1])

theorem ev_spec_l6Turn (n : Int) (l : List Int) (s u h b t : Int) (hl : l.length ≤ 9223372036854775807) : Ev (fun k => spec_l6Turn.f k n l s u h b t) (procB n l s u h b && inB t 0 (wrap64 (n - 1))) := by
  unfold spec_l6Turn.f
  simp only [spec_l1In_f, Option.bind_some]
  refine Ev.bind (ev_spec_l6Good n l s u h b hl) ?_
  refine ev_ite (fun h1 => ?_) (fun h1 => ?_)
  · exact ev_eq (Ev.now _) (by simp [h1])
  · exact ev_eq (Ev.now _) (by simp [h1])

theorem spec_l6Level_f (x : Int) : spec_l6Level.f x = some (inB x (-10) 10) := by
  unfold spec_l6Level.f
  rw [spec_l1In_f, Option.bind_some]

theorem spec_l6Floor_f (n : Int) (l : List Int) (s u h b : Int) : spec_l6Floor.f n l s u h b = some (floorV l) := rfl

theorem ev_spec_l6Policy_l0 (n : Int) (l : List Int) (s u h b : Int) (L : List S72) (hL : L.length ≤ 9223372036854775807) (d : Nat) : ∀ i : Nat, i + d = L.length → Ev (fun k => spec_l6Policy.l0 k L (i : Int) n l s u h b) (polFrom n l L d i) := by
  induction d with
  | zero =>
    intro i hi
    refine ev_succ ?_
    have h1 : ¬ (i : Int) < (L.length : Int) := by omega
    simp only [spec_l6Policy.l0, h1, ↓reduceIte, polFrom]
    exact Ev.now _
  | succ d ih =>
    intro i hi
    refine ev_succ ?_
    have h1 : (i : Int) < (L.length : Int) := by omega
    have h0 : (0 : Int) ≤ (i : Int) := by omega
    have hi' : i < L.length := by omega
    simp only [spec_l6Policy.l0, h1, h0, ↓reduceIte, spec_l6Level_f, spec_l6Floor_f, Option.bind_some, w64_nat hi' hL, polFrom, pairB]
    cases c1 : inB (rd_T72 L (i : Int)).f0 (-10) 10 with
    | false => exact ev_eq (Ev.now _) (by simp)
    | true =>
      cases c2 : inB (rd_T72 L (i : Int)).f1 (-10) 10 with
      | false => exact ev_eq (Ev.now _) (by simp)
      | true =>
        simp only [↓reduceIte]
        by_cases c3 : (rd_T72 L (i : Int)).f0 > (rd_T72 L (i : Int)).f1
        · simp only [c3, ↓reduceIte]
          exact ev_eq (Ev.now _) (by simp)
        · simp only [c3, ↓reduceIte]
          by_cases c4 : (rd_T72 L (i : Int)).f1 < floorV l
          · simp only [c4, ↓reduceIte]
            exact ev_eq (Ev.now _) (by simp)
          · simp only [c4, ↓reduceIte]
            exact ev_eq (ih (i + 1) (by omega)) (by simp)
theorem ev_spec_l6Policy (n : Int) (l : List Int) (s u h b : Int) (L : List S72) (hL : L.length ≤ 9223372036854775807) : Ev (fun k => spec_l6Policy.f k n l s u h b L) (policyB n l L) := by
  unfold spec_l6Policy.f policyB
  exact ev_spec_l6Policy_l0 n l s u h b L hL L.length 0 (by omega)

theorem spec_l6Asked_f (n : Int) (l : List Int) (s u h b d : Int) (hl : l.length ≤ 9223372036854775807) : spec_l6Asked.f n l s u h b d = some (askedB l d) := by
  unfold spec_l6Asked.f askedB
  simp only [spec_l1In_f, Option.bind_some]
  cases hc : inB d 0 (wrap64 ((l.length : Int) - 1)) with
  | false => simp
  | true =>
    have h1 := inB_iff.1 hc
    rw [w64 (by omega) (by omega)] at h1
    rw [if_pos rfl, if_pos h1.1, if_pos (by omega), Bool.true_and]

theorem spec_l6Up_f (n : Int) (l : List Int) (s u h b x0 x1 x : Int) : spec_l6Up.f n l s u h b x0 x1 x = some (upV l x0 x1 x) := by
  unfold spec_l6Up.f upV
  simp only [spec_l6Floor_f, Option.bind_some]
  by_cases h1 : x < x0
  · rw [if_pos h1, if_pos h1]
  · rw [if_neg h1, if_neg h1]
    split <;> rfl

theorem spec_l6Order_f (n : Int) (l : List Int) (s u h b x y : Int) : spec_l6Order.f n l s u h b x y = some (orderV s u x y) := by
  unfold spec_l6Order.f orderV
  split <;> rfl

theorem spec_l6Kept_f (n : Int) (l : List Int) (s u h b x : Int) : spec_l6Kept.f n l s u h b x = some (cst h b x) := by
  unfold spec_l6Kept.f cst
  split <;> rfl

theorem ev_spec_StepLevel_j0_no (n : Int) (l : List Int) (s u h b : Int) (L : List S72) (t x d : Int) : Ev (fun k => spec_StepLevel.j0 k L t x d true n l s u h b) (0, 0, 0, false) := by
  refine ev_succ ?_
  simp only [spec_StepLevel.j0, ↓reduceIte]
  exact Ev.now _
theorem ev_spec_StepLevel (n : Int) (l : List Int) (s u h b : Int) (L : List S72) (t x d : Int) (hl : l.length ≤ 9223372036854775807) (hL : L.length ≤ 9223372036854775807) : Ev (fun k => spec_StepLevel.f k n l s u h b L t x d) (stepLevelV n l s u h b L t x d) := by
  unfold spec_StepLevel.f stepLevelV
  refine Ev.bind (ev_spec_l6Turn n l s u h b t hl) ?_
  refine ev_ite (fun h1 => ?_) (fun h1 => ?_)
  · refine Ev.bind (ev_spec_l6Policy n l s u h b L hL) ?_
    refine ev_ite (fun h2 => ?_) (fun h2 => ?_)
    · simp only [spec_l6Level_f, Option.bind_some]
      refine ev_ite (fun h3 => ?_) (fun h3 => ?_)
      · simp only [spec_l6Asked_f n l s u h b d hl, Option.bind_some]
        cases h4 : askedB l d with
        | false => exact ev_eq (ev_spec_StepLevel_j0_no _ _ _ _ _ _ _ _ _ _) (by simp)
        | true =>
          rw [Bool.and_eq_true] at h1
          have hp := procB_spec h1.1
          have ht := inB_iff.1 h1.2
          rw [w64 (by omega) (by omega)] at ht
          have hq := policyB_spec h2
          refine ev_succ ?_
          have c1 : 0 ≤ t := ht.1
          have c2 : t < (L.length : Int) := by omega
          simp only [spec_StepLevel.j0, Bool.not_true, Bool.false_eq_true, c1, c2, ↓reduceIte, spec_l6Up_f, spec_l6Order_f, spec_l6Kept_f, Option.bind_some]
          refine ev_eq (Ev.now _) ?_
          rw [if_pos (by simp [h1, h2, h3])]
          rfl
      · exact ev_eq (ev_spec_StepLevel_j0_no _ _ _ _ _ _ _ _ _ _) (by simp [h3])
    · exact ev_eq (ev_spec_StepLevel_j0_no _ _ _ _ _ _ _ _ _ _) (by simp [h2])
  · refine ev_eq (ev_spec_StepLevel_j0_no _ _ _ _ _ _ _ _ _ _) ?_
    rw [if_neg]
    rw [Bool.not_eq_true] at h1
    simp [h1]

def traceFrom (l : List Int) (s u h b : Int) (L : List S72) (q : List Int) : Nat → Nat → Int → List Int → Int → List Int × Int × Bool
  | 0, _, _, o, c => (o, c, true)
  | d + 1, i, x, o, c => if askedB l (rd q (i : Int)) = true then traceFrom l s u h b L q d (i + 1) (stepOf l s u h b (rd_T72 L (i : Int)) x (rd q (i : Int))).2.1 (o ++ [(stepOf l s u h b (rd_T72 L (i : Int)) x (rd q (i : Int))).2.1]) (wrap64 (c + (stepOf l s u h b (rd_T72 L (i : Int)) x (rd q (i : Int))).2.2)) else ([], 0, false)
def traceV (n : Int) (l : List Int) (s u h b : Int) (L : List S72) (x : Int) (q : List Int) : List Int × Int × Bool :=
  if (procB n l s u h b && (policyB n l L && (inB x (-10) 10 && !decide ((q.length : Int) > n)))) = true then traceFrom l s u h b L q q.length 0 x [] 0 else ([], 0, false)
theorem traceFrom_length (l : List Int) (s u h b : Int) (L : List S72) (q : List Int) (d : Nat) : ∀ (i : Nat) (x : Int) (o : List Int) (c : Int), (traceFrom l s u h b L q d i x o c).1.length ≤ o.length + d := by
  induction d with
  | zero => intro i x o c; simp [traceFrom]
  | succ d ih =>
    intro i x o c
    rw [traceFrom]
    split
    · have := ih (i + 1) (stepOf l s u h b (rd_T72 L (i : Int)) x (rd q (i : Int))).2.1 (o ++ [(stepOf l s u h b (rd_T72 L (i : Int)) x (rd q (i : Int))).2.1]) (wrap64 (c + (stepOf l s u h b (rd_T72 L (i : Int)) x (rd q (i : Int))).2.2))
      rw [List.length_append, List.length_singleton] at this
      omega
    · simp
theorem traceV_length (n : Int) (l : List Int) (s u h b : Int) (L : List S72) (x : Int) (q : List Int) : (traceV n l s u h b L x q).1.length ≤ 5 := by
  unfold traceV
  by_cases hc : (procB n l s u h b && (policyB n l L && (inB x (-10) 10 && !decide ((q.length : Int) > n)))) = true
  · rw [if_pos hc]
    have h1 := traceFrom_length l s u h b L q q.length 0 x [] 0
    simp only [Bool.and_eq_true, Bool.not_eq_true', decide_eq_false_iff_not] at hc
    have hp := procB_spec hc.1
    simp only [List.length_nil, Nat.zero_add] at h1
    omega
  · rw [if_neg hc]; simp
theorem askedB_spec {l : List Int} {d : Int} (h : askedB l d = true) (hl : l.length ≤ 5) : 0 ≤ d ∧ d ≤ (l.length : Int) - 1 := by
  unfold askedB at h
  rw [Bool.and_eq_true] at h
  have := inB_iff.1 h.1
  rw [w64 (by omega) (by omega)] at this
  exact this
theorem upV_floor {l : List Int} {p : S72} {x : Int} (h : pairB l p = true) (hl : l.length ≤ 5) : (l.length : Int) - 11 ≤ upV l p.f0 p.f1 x := by
  have := pairB_spec h
  have hf := floorV_eq hl
  unfold upV
  by_cases h1 : x < p.f0
  · rw [if_pos h1]; omega
  · rw [if_neg h1]
    by_cases h2 : x < floorV l
    · rw [if_pos h2]; omega
    · rw [if_neg h2]; omega
theorem stepOf_level {l : List Int} {s u h b : Int} {p : S72} {x d : Int} (hp : pairB l p = true) (hl : l.length ≤ 5) (hx : -10 ≤ x ∧ x ≤ 10) (hd : 0 ≤ d ∧ d ≤ (l.length : Int) - 1) : -10 ≤ (stepOf l s u h b p x d).2.1 ∧ (stepOf l s u h b p x d).2.1 ≤ 10 := by
  have h1 := upV_ge hp hx
  have h2 := upV_floor (x := x) hp hl
  unfold stepOf
  dsimp only
  rw [w64 (by omega) (by omega)]
  omega

theorem ev_spec_TraceLevels_l0 (n : Int) (l : List Int) (s u h b : Int) (L : List S72) (q : List Int) (hp : procB n l s u h b = true) (hq : policyB n l L = true) (hlen : (q.length : Int) ≤ n) (d : Nat) : ∀ (i : Nat) (x : Int) (o : List Int) (c : Int), i + d = q.length → o.length ≤ i → (-10 ≤ x ∧ x ≤ 10) → Ev (fun k => spec_TraceLevels.l0 k L x q o c (i : Int) n l s u h b) (traceFrom l s u h b L q d i x o c) := by
  have hps := procB_spec hp
  have hqs := policyB_spec hq
  induction d with
  | zero =>
    intro i x o c hi ho hx
    refine ev_succ ?_
    have h1 : ¬ (i : Int) < (q.length : Int) := by omega
    simp only [spec_TraceLevels.l0, h1, ↓reduceIte, traceFrom]
    exact Ev.now _
  | succ d ih =>
    intro i x o c hi ho hx
    refine ev_succ ?_
    have h1 : (i : Int) < (q.length : Int) := by omega
    have h0 : (0 : Int) ≤ (i : Int) := by omega
    have hi' : i < q.length := by omega
    have h2 : (i : Int) < (L.length : Int) := by omega
    have h3 : o.length < 17592186044416 := by omega
    have hpb := hqs.2 i (by omega)
    simp only [spec_TraceLevels.l0, h1, h0, h3, ↓reduceIte, w64_nat hi' (by omega : q.length ≤ 9223372036854775807)]
    refine Ev.bind (ev_spec_StepLevel n l s u h b L (i : Int) x (rd q (i : Int)) (by omega) (by omega)) ?_
    have hin : inB (i : Int) 0 (wrap64 (n - 1)) = true := by rw [inB_iff, w64 (by omega) (by omega)]; omega
    have hxb : inB x (-10) 10 = true := inB_iff.2 hx
    simp only [stepLevelV, hp, hin, hq, hxb, Bool.and_self, Bool.true_and, traceFrom]
    by_cases ha : askedB l (rd q (i : Int)) = true
    · simp only [ha, ↓reduceIte]
      exact ih (i + 1) _ _ _ (by omega) (by simp; omega) (stepOf_level hpb hps.2.1.2 hx (askedB_spec ha hps.2.1.2))
    · simp only [ha, Bool.false_eq_true, ↓reduceIte]
      exact Ev.now _
theorem ev_spec_TraceLevels_j0_no (n : Int) (l : List Int) (s u h b : Int) (L : List S72) (x : Int) (q : List Int) : Ev (fun k => spec_TraceLevels.j0 k L x q [] 0 true n l s u h b) ([], 0, false) := by
  refine ev_succ ?_
  simp only [spec_TraceLevels.j0, ↓reduceIte]
  exact Ev.now _
theorem ev_spec_TraceLevels (n : Int) (l : List Int) (s u h b : Int) (L : List S72) (x : Int) (q : List Int) (hl : l.length ≤ 9223372036854775807) (hL : L.length ≤ 9223372036854775807) : Ev (fun k => spec_TraceLevels.f k n l s u h b L x q) (traceV n l s u h b L x q) := by
  unfold spec_TraceLevels.f traceV
  simp only [Option.bind_some]
  refine Ev.bind (ev_spec_l6Good n l s u h b hl) ?_
  refine ev_ite (fun h1 => ?_) (fun h1 => ?_)
  · refine Ev.bind (ev_spec_l6Policy n l s u h b L hL) ?_
    refine ev_ite (fun h2 => ?_) (fun h2 => ?_)
    · simp only [spec_l6Level_f, Option.bind_some]
      refine ev_ite (fun h3 => ?_) (fun h3 => ?_)
      · by_cases h4 : (q.length : Int) > n
        · rw [decide_eq_true h4]
          exact ev_eq (ev_spec_TraceLevels_j0_no _ _ _ _ _ _ _ _ _) (by simp)
        · rw [decide_eq_false h4, if_pos (by simp [h1, h2, h3])]
          refine ev_succ ?_
          simp only [spec_TraceLevels.j0, Bool.false_eq_true, ↓reduceIte]
          exact ev_spec_TraceLevels_l0 n l s u h b L q h1 h2 (by omega) q.length 0 x [] 0 (by omega) (by simp) (inB_iff.1 h3)
      · exact ev_eq (ev_spec_TraceLevels_j0_no _ _ _ _ _ _ _ _ _) (by simp [h3])
    · exact ev_eq (ev_spec_TraceLevels_j0_no _ _ _ _ _ _ _ _ _) (by simp [h2])
  · exact ev_eq (ev_spec_TraceLevels_j0_no _ _ _ _ _ _ _ _ _) (by simp [h1])

theorem impl_within_f (a b c : Int) : impl_within.f a b c = some (inB a b c) := by
  unfold impl_within.f inB
  by_cases h : a ≥ b
  · rw [if_pos h]; congr 1; rw [decide_eq_decide]; omega
  · rw [if_neg h]; congr 1; symm; rw [decide_eq_false_iff_not]; omega

theorem ev_impl_allWithin_l0 (a b : Int) (l : List Int) (hl : l.length ≤ 9223372036854775807) (d : Nat) : ∀ i : Nat, i + d = l.length → Ev (fun k => impl_allWithin.l0 k a b l (l.length : Int) (i : Int)) (allB (l.drop i) a b) := by
  induction d with
  | zero =>
    intro i hi
    refine ev_succ ?_
    have h1 : ¬ (i : Int) < (l.length : Int) := by omega
    simp only [impl_allWithin.l0, h1, ↓reduceIte]
    rw [List.drop_eq_nil_of_le (by omega)]
    exact Ev.now _
  | succ d ih =>
    intro i hi
    refine ev_succ ?_
    have h1 : (i : Int) < (l.length : Int) := by omega
    have h0 : (0 : Int) ≤ (i : Int) := by omega
    have hi' : i < l.length := by omega
    simp only [impl_allWithin.l0, h1, h0, ↓reduceIte, impl_within_f, Option.bind_some, rd_nat hi', w64_nat hi' hl]
    rw [drop_cons hi']
    show Ev _ (inB l[i] a b && allB (l.drop (i + 1)) a b)
    cases inB l[i] a b with
    | true => simpa using ih (i + 1) (by omega)
    | false => simpa using Ev.now false
theorem ev_impl_allWithin (l : List Int) (a b : Int) (hl : l.length ≤ 9223372036854775807) : Ev (fun k => impl_allWithin.f k l a b) (allB l a b) := by
  unfold impl_allWithin.f
  simpa using ev_impl_allWithin_l0 a b l hl l.length 0 (by omega)

theorem ev_impl_total_l0 (l : List Int) (hl : l.length ≤ 9223372036854775807) (d : Nat) : ∀ (i : Nat) (s : Int), i + d = l.length → wrap64 s = s → Ev (fun k => impl_total.l0 k s l (l.length : Int) (i : Int)) (wrap64 (s + (l.drop i).sum)) := by
  induction d with
  | zero =>
    intro i s hi hs
    refine ev_succ ?_
    have h1 : ¬ (i : Int) < (l.length : Int) := by omega
    simp only [impl_total.l0, h1, ↓reduceIte]
    rw [List.drop_eq_nil_of_le (by omega)]
    simp only [List.sum_nil, Int.add_zero, hs]
    exact Ev.now _
  | succ d ih =>
    intro i s hi hs
    refine ev_succ ?_
    have h1 : (i : Int) < (l.length : Int) := by omega
    have h0 : (0 : Int) ≤ (i : Int) := by omega
    have hi' : i < l.length := by omega
    simp only [impl_total.l0, h1, h0, ↓reduceIte, rd_nat hi', w64_nat hi' hl]
    refine ev_eq (ih (i + 1) _ (by omega) (w64_idem _)) ?_
    rw [drop_cons hi', List.sum_cons, w64_add_l, Int.add_assoc]
theorem ev_impl_total (l : List Int) (hl : l.length ≤ 9223372036854775807) : Ev (fun k => impl_total.f k l) (wrap64 l.sum) := by
  unfold impl_total.f
  simpa using ev_impl_total_l0 l hl l.length 0 0 (by omega) w64_zero

theorem ev_impl_IsProcess (n : Int) (l : List Int) (s u h b : Int) (hl : l.length ≤ 9223372036854775807) : Ev (fun k => impl_IsProcess.f k n l s u h b) (procB n l s u h b) := by
  unfold impl_IsProcess.f procB
  simp only [impl_within_f, Option.bind_some]
  refine ev_ite (fun h1 => ?_) (fun h1 => ?_)
  · refine ev_ite (fun h2 => ?_) (fun h2 => ?_)
    · refine Ev.bind (ev_impl_allWithin l 0 4 hl) ?_
      refine ev_ite (fun h3 => ?_) (fun h3 => ?_)
      · refine Ev.bind (ev_impl_total l hl) ?_
        refine ev_ite (fun h4 => ?_) (fun h4 => ?_)
        · refine ev_ite (fun h5 => ?_) (fun h5 => ?_)
          · refine Ev.bind (ev_impl_allWithin [u, h, b] 0 9 (by simp)) ?_
            refine ev_eq (Ev.now _) ?_
            have e : allB [u, h, b] 0 9 = (inB u 0 9 && (inB h 0 9 && inB b 0 9)) := by simp [allB, inB]
            rw [e]
            simp [h1, h2, h3, h4, h5]
          · exact ev_eq (Ev.now _) (by simp [h5])
        · exact ev_eq (Ev.now _) (by simp [h4])
      · exact ev_eq (Ev.now _) (by simp [h3])
    · exact ev_eq (Ev.now _) (by simp [h2])
  · exact ev_eq (Ev.now _) (by simp [h1])

theorem impl_isLevel_f (x : Int) : impl_isLevel.f x = some (inB x (-10) 10) := by
  unfold impl_isLevel.f
  rw [impl_within_f, Option.bind_some]

theorem impl_Process_floor_f (n : Int) (l : List Int) (s u h b : Int) : impl_Process_floor.f n l s u h b = some (floorV l) := rfl

theorem ev_impl_Process_isPolicy_l0 (n : Int) (l : List Int) (s u h b : Int) (L : List S72) (hL : L.length ≤ 9223372036854775807) (d : Nat) : ∀ i : Nat, i + d = L.length → Ev (fun k => impl_Process_isPolicy.l0 k L L (L.length : Int) (i : Int) n l s u h b) (polFrom n l L d i) := by
  induction d with
  | zero =>
    intro i hi
    refine ev_succ ?_
    have h1 : ¬ (i : Int) < (L.length : Int) := by omega
    simp only [impl_Process_isPolicy.l0, h1, ↓reduceIte, polFrom]
    exact Ev.now _
  | succ d ih =>
    intro i hi
    refine ev_succ ?_
    have h1 : (i : Int) < (L.length : Int) := by omega
    have h0 : (0 : Int) ≤ (i : Int) := by omega
    have hi' : i < L.length := by omega
    simp only [impl_Process_isPolicy.l0, h1, h0, ↓reduceIte, impl_isLevel_f, impl_Process_floor_f, Option.bind_some, w64_nat hi' hL, polFrom, pairB]
    cases c1 : inB (rd_T72 L (i : Int)).f0 (-10) 10 with
    | false => exact ev_eq (Ev.now _) (by simp)
    | true =>
      cases c2 : inB (rd_T72 L (i : Int)).f1 (-10) 10 with
      | false => exact ev_eq (Ev.now _) (by simp)
      | true =>
        simp only [↓reduceIte]
        by_cases c3 : (rd_T72 L (i : Int)).f0 > (rd_T72 L (i : Int)).f1
        · simp only [c3, ↓reduceIte]
          exact ev_eq (Ev.now _) (by simp)
        · simp only [c3, ↓reduceIte]
          by_cases c4 : (rd_T72 L (i : Int)).f1 < floorV l
          · simp only [c4, ↓reduceIte]
            exact ev_eq (Ev.now _) (by simp)
          · simp only [c4, ↓reduceIte]
            exact ev_eq (ih (i + 1) (by omega)) (by simp)
theorem ev_impl_Process_isPolicy (n : Int) (l : List Int) (s u h b : Int) (L : List S72) (hL : L.length ≤ 9223372036854775807) : Ev (fun k => impl_Process_isPolicy.f k n l s u h b L) (policyB n l L) := by
  unfold impl_Process_isPolicy.f policyB
  exact ev_impl_Process_isPolicy_l0 n l s u h b L hL L.length 0 (by omega)

theorem impl_Process_isAsked_f (n : Int) (l : List Int) (s u h b d : Int) (hl : l.length ≤ 9223372036854775807) : impl_Process_isAsked.f n l s u h b d = some (askedB l d) := by
  unfold impl_Process_isAsked.f askedB
  simp only [impl_within_f, Option.bind_some]
  cases hc : inB d 0 (wrap64 ((l.length : Int) - 1)) with
  | false => simp
  | true =>
    have h1 := inB_iff.1 hc
    rw [w64 (by omega) (by omega)] at h1
    rw [if_pos rfl, if_pos h1.1, if_pos (by omega), Bool.true_and]

theorem impl_Process_orders_f (n : Int) (l : List Int) (s u h b x0 x1 x : Int) : impl_Process_orders.f n l s u h b x0 x1 x = some (upV l x0 x1 x) := by
  unfold impl_Process_orders.f upV
  simp only [impl_Process_floor_f, Option.bind_some]
  by_cases h1 : x < x0
  · rw [if_pos h1, if_pos h1]
  · rw [if_neg h1, if_neg h1]
    split <;> rfl

theorem impl_Process_order_f (n : Int) (l : List Int) (s u h b x y : Int) (hxy : x ≤ y) : impl_Process_order.f n l s u h b x y = some (orderV s u x y) := by
  unfold impl_Process_order.f orderV
  by_cases hc : y = x
  · rw [if_pos hc, if_neg (by omega)]
  · rw [if_neg hc, if_pos (by omega)]

theorem impl_Process_keep_f (n : Int) (l : List Int) (s u h b x : Int) (hh : 0 ≤ h ∧ h ≤ 9) (hb : 0 ≤ b ∧ b ≤ 9) (hx : -100000 ≤ x ∧ x ≤ 100000) : impl_Process_keep.f n l s u h b x = some (cst h b x) := by
  unfold impl_Process_keep.f
  rw [cst_impl hh hb hx]

theorem impl_Process_stepped_f (n : Int) (l : List Int) (s u h b : Int) (p : S72) (x d : Int) (hh : 0 ≤ h ∧ h ≤ 9) (hb : 0 ≤ b ∧ b ≤ 9) (hp : pairB l p = true) (hx : -10 ≤ x ∧ x ≤ 10) (hd : 0 ≤ d ∧ d ≤ 10) : impl_Process_stepped.f n l s u h b p.f0 p.f1 x d = some (stepOf l s u h b p x d) := by
  have hu := upV_ge hp hx
  have e : wrap64 (upV l p.f0 p.f1 x - d) = upV l p.f0 p.f1 x - d := w64 (by omega) (by omega)
  unfold impl_Process_stepped.f stepOf
  rw [impl_Process_orders_f, Option.bind_some, impl_Process_order_f _ _ _ _ _ _ _ _ hu.1, Option.bind_some, impl_Process_keep_f _ _ _ _ _ _ _ hh hb (by omega), Option.bind_some]

theorem ev_impl_TraceLevels_l0 (n : Int) (l : List Int) (s u h b : Int) (L : List S72) (q : List Int) (hp : procB n l s u h b = true) (hq : policyB n l L = true) (hlen : (q.length : Int) ≤ n) (d : Nat) : ∀ (i : Nat) (x : Int) (o : List Int) (c : Int), i + d = q.length → o.length ≤ i → (-10 ≤ x ∧ x ≤ 10) → Ev (fun k => impl_TraceLevels.l0 k L x o c q (q.length : Int) (i : Int) n l s u h b) (traceFrom l s u h b L q d i x o c) := by
  have hps := procB_spec hp
  have hqs := policyB_spec hq
  induction d with
  | zero =>
    intro i x o c hi ho hx
    refine ev_succ ?_
    have h1 : ¬ (i : Int) < (q.length : Int) := by omega
    simp only [impl_TraceLevels.l0, h1, ↓reduceIte, traceFrom]
    exact Ev.now _
  | succ d ih =>
    intro i x o c hi ho hx
    refine ev_succ ?_
    have h1 : (i : Int) < (q.length : Int) := by omega
    have h0 : (0 : Int) ≤ (i : Int) := by omega
    have hi' : i < q.length := by omega
    have h2 : (i : Int) < (L.length : Int) := by omega
    have h3 : o.length < 17592186044416 := by omega
    have hpb := hqs.2 i (by omega)
    simp only [impl_TraceLevels.l0, h1, h0, h2, h3, ↓reduceIte, w64_nat hi' (by omega : q.length ≤ 9223372036854775807), impl_Process_isAsked_f n l s u h b _ (by omega : l.length ≤ 9223372036854775807), Option.bind_some, traceFrom]
    by_cases ha : askedB l (rd q (i : Int)) = true
    · have hd := askedB_spec ha hps.2.1.2
      simp only [ha, ↓reduceIte, impl_Process_stepped_f n l s u h b _ x _ hps.2.2.2.2.2.2.1 hps.2.2.2.2.2.2.2 hpb hx ⟨hd.1, by omega⟩, Option.bind_some]
      exact ih (i + 1) _ _ _ (by omega) (by simp; omega) (stepOf_level hpb hps.2.1.2 hx hd)
    · simp only [ha, Bool.false_eq_true, ↓reduceIte]
      exact Ev.now _
theorem ev_impl_TraceLevels_j0_no (n : Int) (l : List Int) (s u h b : Int) (L : List S72) (x : Int) (q : List Int) : Ev (fun k => impl_TraceLevels.j0 k L x q true n l s u h b) ([], 0, false) := by
  refine ev_succ ?_
  simp only [impl_TraceLevels.j0, ↓reduceIte]
  exact Ev.now _
theorem ev_impl_TraceLevels (n : Int) (l : List Int) (s u h b : Int) (L : List S72) (x : Int) (q : List Int) (hl : l.length ≤ 9223372036854775807) (hL : L.length ≤ 9223372036854775807) : Ev (fun k => impl_TraceLevels.f k n l s u h b L x q) (traceV n l s u h b L x q) := by
  unfold impl_TraceLevels.f traceV
  refine Ev.bind (ev_impl_IsProcess n l s u h b hl) ?_
  refine ev_ite (fun h1 => ?_) (fun h1 => ?_)
  · refine Ev.bind (ev_impl_Process_isPolicy n l s u h b L hL) ?_
    refine ev_ite (fun h2 => ?_) (fun h2 => ?_)
    · simp only [impl_isLevel_f, Option.bind_some]
      refine ev_ite (fun h3 => ?_) (fun h3 => ?_)
      · by_cases h4 : (q.length : Int) > n
        · rw [decide_eq_true h4]
          exact ev_eq (ev_impl_TraceLevels_j0_no _ _ _ _ _ _ _ _ _) (by simp)
        · rw [decide_eq_false h4, if_pos (by simp [h1, h2, h3])]
          refine ev_succ ?_
          simp only [impl_TraceLevels.j0, Bool.false_eq_true, ↓reduceIte]
          exact ev_impl_TraceLevels_l0 n l s u h b L q h1 h2 (by omega) q.length 0 x [] 0 (by omega) (by simp) (inB_iff.1 h3)
      · exact ev_eq (ev_impl_TraceLevels_j0_no _ _ _ _ _ _ _ _ _) (by simp [h3])
    · exact ev_eq (ev_impl_TraceLevels_j0_no _ _ _ _ _ _ _ _ _) (by simp [h2])
  · exact ev_eq (ev_impl_TraceLevels_j0_no _ _ _ _ _ _ _ _ _) (by simp [h1])

def markedA2 (m : Int) : Nat → List S72
  | 0 => []
  | n + 1 => ⟨m, m + 1⟩ :: markedA2 (m + 2) n
theorem markedA2_length (m : Int) (n : Nat) : (markedA2 m n).length = n := by
  induction n generalizing m with
  | zero => rfl
  | succ n ih => simp [markedA2, ih]
theorem markedA2_get (m : Int) (n i : Nat) (h : i < (markedA2 m n).length) : (markedA2 m n)[i] = ⟨m + 2 * i, m + 2 * i + 1⟩ := by
  induction n generalizing m i with
  | zero => simp [markedA2] at h
  | succ n ih =>
    cases i with
    | zero => simp [markedA2]
    | succ i =>
      simp only [markedA2, List.getElem_cons_succ]
      rw [ih]
      simp only [Int.natCast_add, Int.cast_ofNat_Int, Int.mul_add]
      congr 1 <;> omega
theorem ev_laws_markIntA2S_l0 (n0 : Nat) (hl : n0 ≤ 1000000000000) (m0 : Int) (h0 : 0 ≤ m0) (h1 : m0 ≤ 1000000000) (d : Nat) : ∀ (i : Nat) (l : List S72), i + d = l.length → l.length = n0 → Ev (fun k => laws_markIntA2S.l0 k l (m0 + 2 * (i : Int)) (i : Int)) (m0 + 2 * (l.length : Int), l.take i ++ markedA2 (m0 + 2 * i) d) := by
  induction d with
  | zero =>
    intro i l hi hle
    refine ev_succ ?_
    have h1 : ¬ (i : Int) < (l.length : Int) := by omega
    simp only [laws_markIntA2S.l0, h1, ↓reduceIte]
    rw [List.take_of_length_le (by omega)]
    have : i = l.length := by omega
    subst this
    simp only [markedA2, List.append_nil]
    exact Ev.now _
  | succ d ih =>
    intro i l hi hle
    refine ev_succ (ev_succ (ev_succ (ev_succ ?_)))
    have h1' : (i : Int) < (l.length : Int) := by omega
    have h0' : (0 : Int) ≤ (i : Int) := by omega
    have hi' : i < l.length := by omega
    have c1 : wrap64 1 = 1 := w64 (by omega) (by omega)
    have c2 : wrap64 2 = 2 := w64 (by omega) (by omega)
    have e1 : wrap64 (m0 + 2 * (i : Int) + 1) = m0 + 2 * (i : Int) + 1 := w64 (by omega) (by omega)
    have e2 : wrap64 (m0 + 2 * (i : Int) + 1 + 1) = m0 + 2 * ((i + 1 : Nat) : Int) := by rw [w64 (by omega) (by omega)]; omega
    have r1 : ∀ x, rd_T72 (l.set i x) (i : Int) = x := fun x => by rw [rdA2_nat (by simpa using hi')]; simp
    simp only [laws_markIntA2S.l0, laws_markIntA2S.l1, h1', h0', Int.reduceLT, Int.reduceEq, Int.reduceAdd, c1, c2, ↓reduceIte, w64_nat hi' (by omega : l.length ≤ 9223372036854775807), Int.toNat_natCast, List.length_set, e1, e2, r1, List.set_set]
    refine ev_eq (ih (i + 1) (l.set i _) (by simp; omega) (by simp [hle])) ?_
    rw [List.length_set]
    congr 1
    rw [List.take_add_one]
    simp only [List.getElem?_set_self hi', List.take_set_of_le (Nat.le_refl i)]
    simp only [Option.toList_some, List.append_assoc, List.singleton_append, markedA2]
    congr 3
    omega
theorem ev_laws_markIntA2S (l : List S72) (m : Int) (hl : l.length ≤ 1000000000000) (h0 : 0 ≤ m) (h1 : m ≤ 1000000000) : Ev (fun k => laws_markIntA2S.f k l m) (m + 2 * (l.length : Int), markedA2 m l.length) := by
  unfold laws_markIntA2S.f
  simpa using ev_laws_markIntA2S_l0 l.length hl m h0 h1 l.length 0 l (by omega) rfl

theorem FnExactTraceLevels (a0_0 : Int) (l0_1 : List (Int)) (a0_2 : Int) (a0_3 : Int) (a0_4 : Int) (a0_5 : Int) (l1 : List (S72)) (a2 : Int) (l3 : List (Int)) (w0_0 : (Lit.int .i64 a0_0).wf = true) (h0_1 : l0_1.length ≤ 9223372036854775807) (w0_1 : ∀ y ∈ l0_1, (Lit.int .i64 y).wf = true) (w0_2 : (Lit.int .i64 a0_2).wf = true) (w0_3 : (Lit.int .i64 a0_3).wf = true) (w0_4 : (Lit.int .i64 a0_4).wf = true) (w0_5 : (Lit.int .i64 a0_5).wf = true) (h1 : l1.length ≤ 9223372036854775807) (w1 : ∀ y ∈ l1, ((Lit.int .i64 y.f0).wf = true ∧ (Lit.int .i64 y.f1).wf = true)) (w2 : (Lit.int .i64 a2).wf = true) (h3 : l3.length ≤ 9223372036854775807) (w3 : ∀ y ∈ l3, (Lit.int .i64 y).wf = true) : ∃ k, laws_FnExactTraceLevels.f k a0_0 l0_1 a0_2 a0_3 a0_4 a0_5 l1 a2 l3 = some true := by
  refine Ev.rounds ?_
  unfold laws_FnExactTraceLevels.f
  refine ev_ite (fun h => Ev.now _) (fun h3' => ?_)
  have hl3 : l3.length ≤ 1048576 := by omega
  by_cases hn : l0_1.length ≤ 1048576
  · simp only [laws_szProcess_le a0_0 l0_1 a0_2 a0_3 a0_4 a0_5 hn, Option.bind_some, laws_szIntA2S_f l1 _ h1 (show 0 ≤ 1048576 - (l0_1.length : Int) by omega) (by omega)]
    refine ev_ite (fun h => Ev.now _) (fun h => ?_)
    by_cases hm : 1048576 - (l0_1.length : Int) - (l1.length : Int) < 0
    · simp only [if_pos hm, show ((-1 : Int) < 0) = True from by simp, if_true]
      exact Ev.now _
    · simp only [if_neg hm, if_false]
      have hl1 : l1.length ≤ 1048576 := by omega
      have hs := ev_spec_TraceLevels a0_0 l0_1 a0_2 a0_3 a0_4 a0_5 l1 a2 l3 h0_1 h1
      have hi := ev_impl_TraceLevels a0_0 l0_1 a0_2 a0_3 a0_4 a0_5 l1 a2 l3 h0_1 h1
      have hv := traceV_length a0_0 l0_1 a0_2 a0_3 a0_4 a0_5 l1 a2 l3
      generalize traceV a0_0 l0_1 a0_2 a0_3 a0_4 a0_5 l1 a2 l3 = v at hs hi hv
      obtain ⟨v, v2, b⟩ := v
      dsimp only at hv
      clear h
      repeat first
        | exact Ev.now _
        | (refine Ev.bind ht ?_; try dsimp only)
        | (refine Ev.bind hs ?_; try dsimp only)
        | (refine Ev.bind hi ?_; try dsimp only)
        | (refine Ev.bind (ev_laws_toIntS _ (by first | assumption | omega)) ?_; try dsimp only)
        | (refine Ev.bind (ev_laws_toProcess _ _ _ _ _ _ (by first | assumption | omega)) ?_; try dsimp only)
        | (refine Ev.bind (ev_laws_toIntA2 _ _ (by first | assumption | omega)) ?_; try dsimp only)
        | (refine Ev.bind (ev_laws_toIntA2S _ (by first | assumption | omega)) ?_; try dsimp only)
        | (refine Ev.bind (ev_laws_eqIntS_self _ (by first | assumption | omega)) ?_; try dsimp only)
        | (refine Ev.bind (ev_laws_eqProcess_self _ _ _ _ _ _ (by first | assumption | omega)) ?_; try dsimp only)
        | (refine Ev.bind (ev_laws_eqIntA2_self _ _ (by first | assumption | omega)) ?_; try dsimp only)
        | (refine Ev.bind (ev_laws_eqIntA2S_self _ (by first | assumption | omega)) ?_; try dsimp only)
        | (refine Ev.bind (ev_laws_markIntS _ _ (by first | assumption | omega) (by first | assumption | omega) (by first | assumption | omega)) ?_; try dsimp only)
        | (refine Ev.bind (ev_laws_markProcess _ _ _ _ _ _ _ (by first | assumption | omega) (by first | assumption | omega) (by first | assumption | omega)) ?_; try dsimp only)
        | (refine Ev.bind (ev_laws_heldIntS _ _ (by first | assumption | omega) (by first | assumption | omega) (by first | assumption | omega)) ?_; try dsimp only)
        | (refine Ev.bind (ev_laws_markIntA2S _ _ (by first | assumption | omega) (by first | assumption | omega) (by first | assumption | omega)) ?_; try dsimp only)
        | (refine ev_ite (fun h => absurd h (by omega)) (fun _ => ?_))
        | (refine ev_ite (fun _ => ?_) (fun h => absurd (by omega) h))
        | (simp only [bne_self_eq_false, Bool.false_eq_true, ↓reduceIte])
        | (refine ev_succ ?_; simp only [laws_FnExactTraceLevels.j0])
        | (refine ev_succ ?_; simp only [laws_FnExactTraceLevels.j1])
        | (refine ev_succ ?_; simp only [laws_FnExactTraceLevels.j2])
  · simp only [laws_szProcess_gt a0_0 l0_1 a0_2 a0_3 a0_4 a0_5 h0_1 (by omega), Option.bind_some]
    exact Ev.now _

end Go.Proofs.Ytmekmkhdhakohaa.Pure
