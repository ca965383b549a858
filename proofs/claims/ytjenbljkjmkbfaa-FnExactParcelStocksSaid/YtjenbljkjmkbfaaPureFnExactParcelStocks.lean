/- The pure side of FnExactParcelStocks: what the program's text computes and what the reference's text computes are the same value, for every argument. No condition. -/
import Derived.Test.YtjenbljkjmkbfaaPFnExactParcelStocksx8
namespace Go.Proofs.Ytjenbljkjmkbfaa.Pure
open Go.RowKit Go.Proofs.Ytjenbljkjmkbfaa.PFnExactParcelStocks Go.Proofs.YtjenbljkjmkbfaaW.PrintWords Go.Proofs.YtjenbljkjmkbfaaW.PrintLast
set_option linter.unusedVariables false
set_option linter.unusedSimpArgs false

theorem ev_succ {α : Type} {g : Nat → Option α} {r : α} (h : Ev (fun k => g (k + 1)) r) : Ev g r := Ev.step (fun _ => rfl) h
theorem ev_pure {α : Type} {x : Option α} {r : α} (h : x = some r) : Ev (fun _ => x) r := ⟨0, fun _ _ => h⟩
theorem ev_eq {α : Type} {g : Nat → Option α} {r r' : α} (h : Ev g r) (e : r = r') : Ev g r' := e ▸ h
theorem ev_ite {α : Type} {c : Prop} [Decidable c] {g f : Nat → Option α} {r : α} (h1 : c → Ev g r) (h2 : ¬ c → Ev f r) : Ev (fun k => if c then g k else f k) r := by
  by_cases h : c
  · simp only [h, if_true]; exact h1 h
  · simp only [h, if_false]; exact h2 h
theorem w64 {x : Int} (h : -9223372036854775808 ≤ x) (h' : x ≤ 9223372036854775807) : wrap64 x = x := by unfold wrap64; omega
theorem w64_zero : wrap64 0 = 0 := w64 (by omega) (by omega)
theorem w64_idem (x : Int) : wrap64 (wrap64 x) = wrap64 x := by unfold wrap64; omega
theorem w64_add_l (x y : Int) : wrap64 (wrap64 x + y) = wrap64 (x + y) := by unfold wrap64; omega
theorem w64_add_r (x y : Int) : wrap64 (x + wrap64 y) = wrap64 (x + y) := by unfold wrap64; omega
theorem w64_sub_l (x y : Int) : wrap64 (wrap64 x - y) = wrap64 (x - y) := by unfold wrap64; omega
theorem w64_sub_r (x y : Int) : wrap64 (x - wrap64 y) = wrap64 (x - y) := by unfold wrap64; omega
theorem w64_range (x : Int) : -9223372036854775808 ≤ wrap64 x ∧ wrap64 x ≤ 9223372036854775807 := by unfold wrap64; omega
theorem w64_nat {i n : Nat} (h : i < n) (hn : n ≤ 9223372036854775807) : wrap64 ((i : Int) + 1) = ((i + 1 : Nat) : Int) := by rw [w64 (by omega) (by omega)]; rfl
theorem wf_range {x : Int} (h : (Lit.int .i64 x).wf = true) : -9223372036854775808 ≤ x ∧ x ≤ 9223372036854775807 := by
  simp [Lit.wf, IntKind.min, IntKind.max, IntKind.signed, IntKind.bits] at h
  omega
theorem rd_nat {l : List Int} {i : Nat} (h : i < l.length) : rd l (i : Int) = l[i] := by
  unfold rd
  simp [List.getD_eq_getElem?_getD, h]
def allB (l : List Int) (a b : Int) : Bool := l.all fun x => decide (a ≤ x ∧ x ≤ b)
def inB (x a b : Int) : Bool := decide (a ≤ x ∧ x ≤ b)
theorem allB_mem {l : List Int} {a b : Int} (h : allB l a b = true) : ∀ x ∈ l, a ≤ x ∧ x ≤ b := by
  intro x hx
  have := List.all_eq_true.1 h x hx
  simpa using this
theorem inB_iff {x a b : Int} : inB x a b = true ↔ a ≤ x ∧ x ≤ b := by unfold inB; simp
theorem sum_le {l : List Int} {b : Int} (hb : ∀ x ∈ l, x ≤ b) : l.sum ≤ l.length * b := by
  induction l with
  | nil => simp
  | cons x l ih =>
    have h1 := hb x (by simp)
    have h2 := ih (fun y hy => hb y (by simp [hy]))
    rw [List.sum_cons, List.length_cons]
    have : ((l.length + 1 : Nat) : Int) * b = l.length * b + b := by rw [Int.natCast_add, Int.add_mul]; simp
    rw [this]; omega
theorem le_sum {l : List Int} {b : Int} (hb : ∀ x ∈ l, b ≤ x) : l.length * b ≤ l.sum := by
  induction l with
  | nil => simp
  | cons x l ih =>
    have h1 := hb x (by simp)
    have h2 := ih (fun y hy => hb y (by simp [hy]))
    rw [List.sum_cons, List.length_cons]
    have : ((l.length + 1 : Nat) : Int) * b = l.length * b + b := by rw [Int.natCast_add, Int.add_mul]; simp
    rw [this]; omega
theorem drop_cons {α : Type} {l : List α} {i : Nat} (h : i < l.length) : l.drop i = l[i] :: l.drop (i + 1) := List.drop_eq_getElem_cons h

theorem ev_laws_toIntS_l0 (l : List Int) (hl : l.length ≤ 9223372036854775807) (d : Nat) : ∀ (i : Nat) (o : List Int), i + d = l.length → o.length = l.length → Ev (fun k => laws_toIntS.l0 k l o (i : Int)) (o.take i ++ l.drop i) := by
  induction d with
  | zero =>
    intro i o hi ho
    refine ev_succ ?_
    have h1 : ¬ (i : Int) < (l.length : Int) := by omega
    simp only [laws_toIntS.l0, h1, ↓reduceIte]
    rw [List.drop_eq_nil_of_le (by omega), List.take_of_length_le (by omega), List.append_nil]
    exact Ev.now _
  | succ d ih =>
    intro i o hi ho
    refine ev_succ ?_
    have h1 : (i : Int) < (l.length : Int) := by omega
    have h2 : (i : Int) < (o.length : Int) := by omega
    have h0 : (0 : Int) ≤ (i : Int) := by omega
    have hi' : i < l.length := by omega
    simp only [laws_toIntS.l0, h1, h2, h0, ↓reduceIte, rd_nat hi', w64_nat hi' hl, Int.toNat_natCast]
    refine ev_eq (ih (i + 1) _ (by omega) (by simp [ho])) ?_
    rw [drop_cons hi', List.take_add_one]
    simp [ho, hi', List.take_set_of_le (Nat.le_refl i)]
theorem ev_laws_toIntS (l : List Int) (hl : l.length ≤ 1048576) : Ev (fun k => laws_toIntS.f k l) l := by
  unfold laws_toIntS.f
  have h0 : (0 : Int) ≤ (l.length : Int) := by omega
  have h1 : ((l.length : Int) : Int).toNat ≤ 35184372088832 := by omega
  simp only [h0, h1, ↓reduceIte]
  simpa using ev_laws_toIntS_l0 l (by omega) l.length 0 (List.replicate ((l.length : Int) : Int).toNat 0) (by omega) (by simp)

theorem ev_laws_eqIntS_l0 (l m : List Int) (hl : l.length ≤ 9223372036854775807) (he : l.length = m.length) (d : Nat) : ∀ (i : Nat), i + d = l.length → Ev (fun k => laws_eqIntS.l0 k l m (i : Int)) (decide (l.drop i = m.drop i)) := by
  induction d with
  | zero =>
    intro i hi
    refine ev_succ ?_
    have h1 : ¬ (i : Int) < (l.length : Int) := by omega
    simp only [laws_eqIntS.l0, h1, ↓reduceIte]
    rw [List.drop_eq_nil_of_le (by omega), List.drop_eq_nil_of_le (by omega)]
    exact Ev.now _
  | succ d ih =>
    intro i hi
    refine ev_succ ?_
    have h1 : (i : Int) < (l.length : Int) := by omega
    have h2 : (i : Int) < (m.length : Int) := by omega
    have h0 : (0 : Int) ≤ (i : Int) := by omega
    have hi' : i < l.length := by omega
    have hm' : i < m.length := by omega
    simp only [laws_eqIntS.l0, h1, h2, h0, ↓reduceIte, rd_nat hi', rd_nat hm', w64_nat hi' hl]
    refine ev_ite (fun h => ?_) (fun h => ?_)
    · refine ev_eq (ih (i + 1) (by omega)) ?_
      rw [drop_cons hi', drop_cons hm', decide_eq_decide, h, List.cons.injEq]
      exact (and_iff_right rfl).symm
    · refine ev_eq (Ev.now _) ?_
      rw [drop_cons hi', drop_cons hm']
      symm
      rw [decide_eq_false_iff_not, List.cons.injEq]
      exact fun hc => h hc.1
theorem ev_laws_eqIntS (l m : List Int) (hl : l.length ≤ 9223372036854775807) : Ev (fun k => laws_eqIntS.f k l m) (decide (l = m)) := by
  unfold laws_eqIntS.f
  refine ev_ite (fun h => ?_) (fun h => ?_)
  · simpa using ev_laws_eqIntS_l0 l m hl (by omega) l.length 0 (by omega)
  · refine ev_eq (Ev.now _) ?_
    symm
    rw [decide_eq_false_iff_not]
    rintro rfl
    exact h rfl
theorem ev_laws_eqIntS_self (l : List Int) (hl : l.length ≤ 9223372036854775807) : Ev (fun k => laws_eqIntS.f k l l) true := by
  simpa using ev_laws_eqIntS l l hl

def marked (m : Int) : Nat → List Int
  | 0 => []
  | n + 1 => m :: marked (m + 1) n
theorem marked_length (m : Int) (n : Nat) : (marked m n).length = n := by
  induction n generalizing m with
  | zero => rfl
  | succ n ih => simp [marked, ih]
theorem marked_get (m : Int) (n i : Nat) (h : i < (marked m n).length) : (marked m n)[i] = m + i := by
  induction n generalizing m i with
  | zero => simp [marked] at h
  | succ n ih =>
    cases i with
    | zero => simp [marked]
    | succ i =>
      simp only [marked, List.getElem_cons_succ]
      rw [ih]
      omega
theorem ev_laws_markIntS_l0 (l0 : List Int) (hl : l0.length ≤ 4611686018427387904) (m0 : Int) (h0 : 0 ≤ m0) (h1 : m0 ≤ 1000000000) (d : Nat) : ∀ (i : Nat) (l : List Int), i + d = l.length → l.length = l0.length → Ev (fun k => laws_markIntS.l0 k l (m0 + (i : Int)) (i : Int)) (m0 + (l.length : Int), l.take i ++ marked (m0 + i) d) := by
  induction d with
  | zero =>
    intro i l hi hle
    refine ev_succ ?_
    have h1 : ¬ (i : Int) < (l.length : Int) := by omega
    simp only [laws_markIntS.l0, h1, ↓reduceIte]
    rw [List.take_of_length_le (by omega)]
    have : i = l.length := by omega
    subst this
    simp only [marked, List.append_nil]
    exact Ev.now _
  | succ d ih =>
    intro i l hi hle
    refine ev_succ ?_
    have h1' : (i : Int) < (l.length : Int) := by omega
    have h0' : (0 : Int) ≤ (i : Int) := by omega
    have hi' : i < l.length := by omega
    have e1 : wrap64 (m0 + (i : Int) + 1) = m0 + ((i + 1 : Nat) : Int) := by rw [w64 (by omega) (by omega)]; omega
    simp only [laws_markIntS.l0, h1', h0', ↓reduceIte, w64_nat hi' (by omega : l.length ≤ 9223372036854775807), Int.toNat_natCast, e1]
    refine ev_eq (ih (i + 1) (l.set i (m0 + (i : Int))) (by simp; omega) (by simp [hle])) ?_
    rw [List.length_set]
    congr 1
    rw [List.take_add_one]
    simp only [List.getElem?_set_self hi', List.take_set_of_le (Nat.le_refl i)]
    simp only [Option.toList_some, List.append_assoc, List.singleton_append, marked]
    congr 3
    omega
theorem ev_laws_markIntS (l : List Int) (m : Int) (hl : l.length ≤ 4611686018427387904) (h0 : 0 ≤ m) (h1 : m ≤ 1000000000) : Ev (fun k => laws_markIntS.f k l m) (m + (l.length : Int), marked m l.length) := by
  unfold laws_markIntS.f
  simpa using ev_laws_markIntS_l0 l hl m h0 h1 l.length 0 l (by omega) rfl

theorem ev_laws_heldIntS_l0 (m0 : Int) (n : Nat) (hn : n ≤ 4611686018427387904) (h0 : 0 ≤ m0) (h1 : m0 ≤ 1000000000) (d : Nat) : ∀ (i : Nat), i + d = n → Ev (fun k => laws_heldIntS.l0 k (marked m0 n) (m0 + (i : Int)) (i : Int)) (m0 + (n : Int)) := by
  induction d with
  | zero =>
    intro i hi
    refine ev_succ ?_
    have h1 : ¬ (i : Int) < ((marked m0 n).length : Int) := by rw [marked_length]; omega
    simp only [laws_heldIntS.l0, h1, ↓reduceIte]
    have : i = n := by omega
    subst this
    exact Ev.now _
  | succ d ih =>
    intro i hi
    refine ev_succ ?_
    have h1' : (i : Int) < ((marked m0 n).length : Int) := by rw [marked_length]; omega
    have h0' : (0 : Int) ≤ (i : Int) := by omega
    have hi' : i < (marked m0 n).length := by rw [marked_length]; omega
    have e1 : wrap64 (m0 + (i : Int) + 1) = m0 + ((i + 1 : Nat) : Int) := by rw [w64 (by omega) (by omega)]; omega
    have e2 : wrap64 ((i : Int) + 1) = ((i + 1 : Nat) : Int) := w64_nat (n := n) (by omega) (by omega)
    simp only [laws_heldIntS.l0, h1', h0', ↓reduceIte, rd_nat hi', marked_get, e1, e2]
    exact ih (i + 1) (by omega)
theorem ev_laws_heldIntS (m : Int) (n : Nat) (hn : n ≤ 4611686018427387904) (h0 : 0 ≤ m) (h1 : m ≤ 1000000000) : Ev (fun k => laws_heldIntS.f k (marked m n) m) (m + (n : Int)) := by
  unfold laws_heldIntS.f
  simpa using ev_laws_heldIntS_l0 m n hn h0 h1 n 0 (by omega)

theorem laws_szParcelS_le (l : List S87) (hl : l.length ≤ 1048576) : laws_szParcelS.f l 1048576 = some (1048576 - (l.length : Int)) := by
  unfold laws_szParcelS.f
  rw [w64 (by omega) (by omega), if_neg (by omega)]
theorem laws_szParcelS_gt (l : List S87) (h : l.length ≤ 9223372036854775807) (hl : 1048576 < l.length) : laws_szParcelS.f l 1048576 = some (-1) := by
  unfold laws_szParcelS.f
  rw [w64 (by omega) (by omega), if_pos (by omega)]

def toP (x : S87) : S85 := ⟨x.f0, x.f1, x.f2⟩
theorem rdLP_nat {l : List S87} {i : Nat} (h : i < l.length) : rd_T87 l (i : Int) = l[i] := by
  unfold rd_T87
  simp [List.getD_eq_getElem?_getD, h]
theorem ev_laws_toParcelS_l0 (l : List S87) (hl : l.length ≤ 9223372036854775807) (d : Nat) : ∀ (i : Nat) (o : List S85), i + d = l.length → o.length = l.length → Ev (fun k => laws_toParcelS.l0 k l o (i : Int)) (o.take i ++ (l.drop i).map toP) := by
  induction d with
  | zero =>
    intro i o hi ho
    refine ev_succ ?_
    have h1 : ¬ (i : Int) < (l.length : Int) := by omega
    simp only [laws_toParcelS.l0, h1, ↓reduceIte]
    rw [List.drop_eq_nil_of_le (by omega), List.take_of_length_le (by omega), List.map_nil, List.append_nil]
    exact Ev.now _
  | succ d ih =>
    intro i o hi ho
    refine ev_succ ?_
    have h1 : (i : Int) < (l.length : Int) := by omega
    have h2 : (i : Int) < (o.length : Int) := by omega
    have h0 : (0 : Int) ≤ (i : Int) := by omega
    have hi' : i < l.length := by omega
    simp only [laws_toParcelS.l0, laws_toParcel.f, Option.bind_some, h1, h2, h0, ↓reduceIte, rdLP_nat hi', w64_nat hi' hl, Int.toNat_natCast]
    refine ev_eq (ih (i + 1) _ (by omega) (by simp [ho])) ?_
    rw [drop_cons hi', List.take_add_one, List.map_cons]
    simp [ho, hi', List.take_set_of_le (Nat.le_refl i), toP]
theorem ev_laws_toParcelS (l : List S87) (hl : l.length ≤ 1048576) : Ev (fun k => laws_toParcelS.f k l) (l.map toP) := by
  unfold laws_toParcelS.f
  have h0 : (0 : Int) ≤ (l.length : Int) := by omega
  have h1 : ((l.length : Int) : Int).toNat ≤ 11728124029610 := by omega
  simp only [h0, h1, ↓reduceIte]
  simpa using ev_laws_toParcelS_l0 l (by omega) l.length 0 (List.replicate ((l.length : Int) : Int).toNat z85) (by omega) (by simp)

theorem rdEParcel_nat {l : List S85} {i : Nat} (h : i < l.length) : rd_T85 l (i : Int) = l[i] := by
  unfold rd_T85
  simp [List.getD_eq_getElem?_getD, h]
theorem ev_laws_eqParcelS_self_l0 (l : List S85) (hl : l.length ≤ 9223372036854775807) (d : Nat) : ∀ (i : Nat), i + d = l.length → Ev (fun k => laws_eqParcelS.l0 k l l (i : Int)) true := by
  induction d with
  | zero =>
    intro i hi
    refine ev_succ ?_
    have h1 : ¬ (i : Int) < (l.length : Int) := by omega
    simp only [laws_eqParcelS.l0, h1, ↓reduceIte]
    exact Ev.now _
  | succ d ih =>
    intro i hi
    refine ev_succ ?_
    have h1 : (i : Int) < (l.length : Int) := by omega
    have h0 : (0 : Int) ≤ (i : Int) := by omega
    have hi' : i < l.length := by omega
    simp only [laws_eqParcelS.l0, laws_eqParcel.f, h1, h0, ↓reduceIte, w64_nat hi' hl, Option.bind_some]
    exact ih (i + 1) (by omega)
theorem ev_laws_eqParcelS_self (l : List S85) (hl : l.length ≤ 9223372036854775807) : Ev (fun k => laws_eqParcelS.f k l l) true := by
  unfold laws_eqParcelS.f
  simp only [if_true]
  exact ev_laws_eqParcelS_self_l0 l hl l.length 0 (by omega)

def markedParcel (m : Int) : Nat → List S85
  | 0 => []
  | n + 1 => ⟨m, m + 1, m + 2⟩ :: markedParcel (m + 3) n
theorem markedParcel_length (m : Int) (n : Nat) : (markedParcel m n).length = n := by
  induction n generalizing m with
  | zero => rfl
  | succ n ih => simp [markedParcel, ih]
theorem markedParcel_get (m : Int) (n i : Nat) (h : i < (markedParcel m n).length) : (markedParcel m n)[i] = ⟨m + 3 * i, m + 3 * i + 1, m + 3 * i + 2⟩ := by
  induction n generalizing m i with
  | zero => simp [markedParcel] at h
  | succ n ih =>
    cases i with
    | zero => simp [markedParcel]
    | succ i =>
      simp only [markedParcel, List.getElem_cons_succ]
      rw [ih]
      simp only [Int.natCast_add, Int.cast_ofNat_Int, Int.mul_add]
      congr 1 <;> omega
theorem rdKParcel_nat {l : List S85} {i : Nat} (h : i < l.length) : rd_T85 l (i : Int) = l[i] := by
  unfold rd_T85
  simp [List.getD_eq_getElem?_getD, h]
theorem ev_laws_markParcelS_l0 (n0 : Nat) (hl : n0 ≤ 1000000000000) (m0 : Int) (h0 : 0 ≤ m0) (h1 : m0 ≤ 1000000000) (d : Nat) : ∀ (i : Nat) (l : List S85), i + d = l.length → l.length = n0 → Ev (fun k => laws_markParcelS.l0 k l (m0 + 3 * (i : Int)) (i : Int)) (m0 + 3 * (l.length : Int), l.take i ++ markedParcel (m0 + 3 * i) d) := by
  induction d with
  | zero =>
    intro i l hi hle
    refine ev_succ ?_
    have h1 : ¬ (i : Int) < (l.length : Int) := by omega
    simp only [laws_markParcelS.l0, h1, ↓reduceIte]
    rw [List.take_of_length_le (by omega)]
    have : i = l.length := by omega
    subst this
    simp only [markedParcel, List.append_nil]
    exact Ev.now _
  | succ d ih =>
    intro i l hi hle
    refine ev_succ ?_
    have h1' : (i : Int) < (l.length : Int) := by omega
    have h0' : (0 : Int) ≤ (i : Int) := by omega
    have hi' : i < l.length := by omega
    have e1 : wrap64 (m0 + 3 * (i : Int) + 1) = m0 + 3 * (i : Int) + 1 := w64 (by omega) (by omega)
    have e2 : wrap64 (m0 + 3 * (i : Int) + 1 + 1) = m0 + 3 * (i : Int) + 2 := by rw [w64 (by omega) (by omega)]; omega
    have e3 : wrap64 (m0 + 3 * (i : Int) + 2 + 1) = m0 + 3 * ((i + 1 : Nat) : Int) := by rw [w64 (by omega) (by omega)]; omega
    simp only [laws_markParcelS.l0, h1', h0', ↓reduceIte, w64_nat hi' (by omega : l.length ≤ 9223372036854775807), Int.toNat_natCast, Option.bind_some, e1, e2, e3]
    have r1 : ∀ x, rd_T85 (l.set i x) (i : Int) = x := fun x => by rw [rdKParcel_nat (by simpa using hi')]; simp
    have r2 : ∀ x y, rd_T85 ((l.set i x).set i y) (i : Int) = y := fun x y => by rw [rdKParcel_nat (by simpa using hi')]; simp
    simp only [r1, r2, List.set_set]
    refine ev_eq (ih (i + 1) (l.set i _) (by simp; omega) (by simp [hle])) ?_
    rw [List.length_set]
    congr 1
    rw [List.take_add_one]
    simp only [List.getElem?_set_self hi', List.take_set_of_le (Nat.le_refl i)]
    simp only [Option.toList_some, List.append_assoc, List.singleton_append, markedParcel]
    congr 3
    omega
theorem ev_laws_markParcelS (l : List S85) (m : Int) (hl : l.length ≤ 1000000000000) (h0 : 0 ≤ m) (h1 : m ≤ 1000000000) : Ev (fun k => laws_markParcelS.f k l m) (m + 3 * (l.length : Int), markedParcel m l.length) := by
  unfold laws_markParcelS.f
  simpa using ev_laws_markParcelS_l0 l.length hl m h0 h1 l.length 0 l (by omega) rfl

theorem spec_l1In_f (a b c : Int) : spec_l1In.f a b c = some (inB a b c) := by
  unfold spec_l1In.f inB
  by_cases h : a ≥ b
  · rw [if_pos h]; congr 1; rw [decide_eq_decide]; omega
  · rw [if_neg h]; congr 1; symm; rw [decide_eq_false_iff_not]; omega

def parcOk (l : List S85) : Nat → Nat → Bool
  | 0, _ => decide ((l.length : Int) ≤ 12)
  | d + 1, i => inB (rd_T85 l (i : Int)).f0 1 20 && (inB (rd_T85 l (i : Int)).f1 1 40 && (inB (rd_T85 l (i : Int)).f2 0 4 && ((if 0 < i then decide ((rd_T85 l ((i - 1 : Nat) : Int)).f0 ≤ (rd_T85 l (i : Int)).f0) else true) && parcOk l d (i + 1))))
def parcelsB (l : List S85) : Bool := parcOk l l.length 0
theorem rdP_nat {l : List S85} {i : Nat} (h : i < l.length) : rd_T85 l (i : Int) = l[i] := by
  unfold rd_T85
  simp [List.getD_eq_getElem?_getD, h]
theorem parcOk_mem (l : List S85) (d : Nat) : ∀ i : Nat, i + d = l.length → parcOk l d i = true → (l.length : Int) ≤ 12 ∧ ∀ j, i ≤ j → (hj : j < l.length) → (1 ≤ l[j].f0 ∧ l[j].f0 ≤ 20) ∧ (1 ≤ l[j].f1 ∧ l[j].f1 ≤ 40) ∧ (0 ≤ l[j].f2 ∧ l[j].f2 ≤ 4) ∧ ∀ hj0 : 0 < j, l[j - 1].f0 ≤ l[j].f0 := by
  induction d with
  | zero =>
    intro i hi h
    exact ⟨by simpa [parcOk] using h, fun j h1 h2 => by omega⟩
  | succ d ih =>
    intro i hi h
    have hi' : i < l.length := by omega
    unfold parcOk at h
    simp only [Bool.and_eq_true, inB_iff] at h
    obtain ⟨h1, h2, h3, h4, h5⟩ := h
    obtain ⟨hl, hall⟩ := ih (i + 1) (by omega) h5
    refine ⟨hl, fun j hj hjl => ?_⟩
    by_cases he : j = i
    · subst he
      rw [rdP_nat hi'] at h1 h2 h3
      refine ⟨h1, h2, h3, fun hj0 => ?_⟩
      rw [if_pos hj0, rdP_nat (by omega), rdP_nat hi'] at h4
      simpa using h4
    · exact hall j (by omega) hjl
theorem parcelsB_mem {l : List S85} (h : parcelsB l = true) : l.length ≤ 12 ∧ ∀ j (hj : j < l.length), (1 ≤ l[j].f0 ∧ l[j].f0 ≤ 20) ∧ (1 ≤ l[j].f1 ∧ l[j].f1 ≤ 40) ∧ (0 ≤ l[j].f2 ∧ l[j].f2 ≤ 4) ∧ ∀ hj0 : 0 < j, l[j - 1].f0 ≤ l[j].f0 := by
  obtain ⟨h1, h2⟩ := parcOk_mem l l.length 0 (by omega) h
  exact ⟨by omega, fun j hj => h2 j (by omega) hj⟩
def arrFrom (l : List S85) : Nat → Nat → List Int → List Int
  | 0, _, o => o
  | d + 1, i, o => arrFrom l d (i + 1) (o.set ((rd_T85 l (i : Int)).f0 + (rd_T85 l (i : Int)).f2 - 1).toNat (wrap64 (rd o ((rd_T85 l (i : Int)).f0 + (rd_T85 l (i : Int)).f2 - 1) + (rd_T85 l (i : Int)).f1)))
def arrV (l : List S85) : List Int := arrFrom l l.length 0 (List.replicate 24 0)
theorem arrFrom_length (l : List S85) (d : Nat) : ∀ (i : Nat) (o : List Int), (arrFrom l d i o).length = o.length := by
  induction d with
  | zero => intro i o; rfl
  | succ d ih => intro i o; rw [arrFrom, ih]; simp
theorem arrV_length (l : List S85) : (arrV l).length = 24 := by rw [arrV, arrFrom_length]; simp

theorem ev_spec_l11Parcels_l0 (l : List S85) (hl : l.length ≤ 9223372036854775807) (d : Nat) : ∀ i : Nat, i + d = l.length → Ev (fun k => spec_l11Parcels.l0 k l (i : Int)) (parcOk l d i) := by
  induction d with
  | zero =>
    intro i hi
    refine ev_succ ?_
    have h1 : ¬ (i : Int) < (l.length : Int) := by omega
    simp only [spec_l11Parcels.l0, h1, ↓reduceIte]
    exact Ev.now _
  | succ d ih =>
    intro i hi
    refine ev_succ ?_
    have h1 : (i : Int) < (l.length : Int) := by omega
    have h0 : (0 : Int) ≤ (i : Int) := by omega
    have hi' : i < l.length := by omega
    simp only [spec_l11Parcels.l0, h1, h0, ↓reduceIte, spec_l1In_f, Option.bind_some, w64_nat hi' hl]
    unfold parcOk
    refine ev_ite (fun c1 => ?_) (fun c1 => ?_)
    · refine ev_ite (fun c2 => ?_) (fun c2 => ?_)
      · refine ev_ite (fun c3 => ?_) (fun c3 => ?_)
        · rw [c1, c2, c3]
          simp only [Bool.true_and]
          by_cases hp : 0 < i
          · have hp' : (i : Int) > 0 := by omega
            have e : wrap64 ((i : Int) - 1) = ((i - 1 : Nat) : Int) := by rw [w64 (by omega) (by omega)]; omega
            have h2 : (0 : Int) ≤ ((i - 1 : Nat) : Int) := by omega
            have h3 : ((i - 1 : Nat) : Int) < (l.length : Int) := by omega
            simp only [hp, hp', e, h2, h3, ↓reduceIte]
            refine ev_ite (fun c4 => ?_) (fun c4 => ?_)
            · exact ev_eq (Ev.now _) (by rw [decide_eq_false (by omega)]; rfl)
            · exact ev_eq (ih (i + 1) (by omega)) (by rw [decide_eq_true (by omega)]; rfl)
          · have hp' : ¬ (i : Int) > 0 := by omega
            simp only [hp, hp', ↓reduceIte, Bool.true_and]
            exact ih (i + 1) (by omega)
        · exact ev_eq (Ev.now _) (by simp [c3])
      · exact ev_eq (Ev.now _) (by simp [c2])
    · exact ev_eq (Ev.now _) (by simp [c1])
theorem ev_spec_l11Parcels (l : List S85) (hl : l.length ≤ 9223372036854775807) : Ev (fun k => spec_l11Parcels.f k l) (parcelsB l) := by
  unfold spec_l11Parcels.f
  exact ev_spec_l11Parcels_l0 l hl l.length 0 (by omega)

theorem ev_spec_l11Arrivals_l0 (l : List S85) (hv : parcelsB l = true) (d : Nat) : ∀ (i : Nat) (o : List Int), i + d = l.length → o.length = 24 → Ev (fun k => spec_l11Arrivals.l0 k l o (i : Int)) (arrFrom l d i o) := by
  have hm := parcelsB_mem hv
  induction d with
  | zero =>
    intro i o hi ho
    refine ev_succ ?_
    have h1 : ¬ (i : Int) < (l.length : Int) := by omega
    simp only [spec_l11Arrivals.l0, h1, ↓reduceIte]
    exact Ev.now _
  | succ d ih =>
    intro i o hi ho
    refine ev_succ ?_
    have h1 : (i : Int) < (l.length : Int) := by omega
    have h0 : (0 : Int) ≤ (i : Int) := by omega
    have hi' : i < l.length := by omega
    have hr := hm.2 i hi'
    rw [← rdP_nat hi'] at hr
    have e1 : wrap64 ((rd_T85 l (i : Int)).f0 + (rd_T85 l (i : Int)).f2) = (rd_T85 l (i : Int)).f0 + (rd_T85 l (i : Int)).f2 := w64 (by omega) (by omega)
    have e2 : wrap64 ((rd_T85 l (i : Int)).f0 + (rd_T85 l (i : Int)).f2 - 1) = (rd_T85 l (i : Int)).f0 + (rd_T85 l (i : Int)).f2 - 1 := w64 (by omega) (by omega)
    have h2 : 0 ≤ (rd_T85 l (i : Int)).f0 + (rd_T85 l (i : Int)).f2 - 1 := by omega
    have h3 : (rd_T85 l (i : Int)).f0 + (rd_T85 l (i : Int)).f2 - 1 < (o.length : Int) := by omega
    simp only [spec_l11Arrivals.l0, h1, h0, e1, e2, h2, h3, ↓reduceIte, w64_nat hi' (by omega : l.length ≤ 9223372036854775807)]
    rw [arrFrom]
    exact ih (i + 1) _ (by omega) (by simp [ho])
theorem ev_spec_l11Arrivals (l : List S85) (hv : parcelsB l = true) : Ev (fun k => spec_l11Arrivals.f k l) (arrV l) := by
  unfold spec_l11Arrivals.f
  simp only [show ((24 : Nat) ≤ 35184372088832) = True from by simp, if_true]
  exact ev_spec_l11Arrivals_l0 l hv l.length 0 _ (by omega) (by simp)

theorem ev_spec_l2Row_l0 (n b : Int) (l : List Int) (hl : l.length ≤ 9223372036854775807) (d : Nat) : ∀ i : Nat, i + d = l.length → Ev (fun k => spec_l2Row.l0 k l n b (i : Int)) (allB (l.drop i) 0 b && ((l.length : Int) == n)) := by
  induction d with
  | zero =>
    intro i hi
    refine ev_succ ?_
    have h1 : ¬ (i : Int) < (l.length : Int) := by omega
    simp only [spec_l2Row.l0, h1, ↓reduceIte]
    rw [List.drop_eq_nil_of_le (by omega)]
    exact Ev.now _
  | succ d ih =>
    intro i hi
    refine ev_succ ?_
    have h1 : (i : Int) < (l.length : Int) := by omega
    have h0 : (0 : Int) ≤ (i : Int) := by omega
    have hi' : i < l.length := by omega
    simp only [spec_l2Row.l0, h1, h0, ↓reduceIte, spec_l1In_f, Option.bind_some, rd_nat hi', w64_nat hi' hl]
    rw [drop_cons hi']
    show Ev _ ((inB l[i] 0 b && allB (l.drop (i + 1)) 0 b) && _)
    cases inB l[i] 0 b with
    | true => simpa using ih (i + 1) (by omega)
    | false => simpa using Ev.now false
theorem ev_spec_l2Row (l : List Int) (n b : Int) (hl : l.length ≤ 9223372036854775807) : Ev (fun k => spec_l2Row.f k l n b) (allB l 0 b && ((l.length : Int) == n)) := by
  unfold spec_l2Row.f
  simpa using ev_spec_l2Row_l0 n b l hl l.length 0 (by omega)

theorem ev_spec_l11Numbers (l : List Int) (n b : Int) (hl : l.length ≤ 9223372036854775807) : Ev (fun k => spec_l11Numbers.f k l n b) (decide ((l.length : Int) ≤ n) && allB l 0 b) := by
  unfold spec_l11Numbers.f
  refine ev_ite (fun h => ?_) (fun h => ?_)
  · refine Ev.bind (ev_spec_l2Row l _ b hl) ?_
    refine ev_eq (Ev.now _) ?_
    simp [h]
  · refine ev_eq (Ev.now _) ?_
    simp [h]

def stockFrom (arr asked : List Int) : Nat → Nat → Int → List Int
  | 0, _, _ => []
  | d + 1, i, s => wrap64 (s + rd arr (i : Int) - rd asked (i : Int)) :: stockFrom arr asked d (i + 1) (wrap64 (s + rd arr (i : Int) - rd asked (i : Int)))
theorem stockFrom_length (arr asked : List Int) (d : Nat) : ∀ (i : Nat) (s : Int), (stockFrom arr asked d i s).length = d := by
  induction d with
  | zero => intro i s; rfl
  | succ d ih => intro i s; rw [stockFrom, List.length_cons, ih]
def pstocksV (s : Int) (l : List S85) (asked : List Int) : List Int × Bool :=
  if (inB s (-200) 200 && parcelsB l && (decide ((asked.length : Int) ≤ 20) && allB asked 0 20)) = true then (stockFrom (arrV l) asked asked.length 0 s, true) else ([], false)
theorem pstocksV_length (s : Int) (l : List S85) (asked : List Int) : (pstocksV s l asked).1.length ≤ asked.length := by
  unfold pstocksV
  split
  · simp [stockFrom_length]
  · simp

theorem ev_spec_ParcelStocks_l0 (arr asked : List Int) (ha : arr.length = 24) (hl : asked.length ≤ 20) (d : Nat) : ∀ (i : Nat) (o : List Int) (s : Int), i + d = asked.length → o.length ≤ i → Ev (fun k => spec_ParcelStocks.l0 k asked o arr s (i : Int)) (o ++ stockFrom arr asked d i s, true) := by
  induction d with
  | zero =>
    intro i o s hi ho
    refine ev_succ ?_
    have h1 : ¬ (i : Int) < (asked.length : Int) := by omega
    simp only [spec_ParcelStocks.l0, h1, ↓reduceIte]
    exact ev_eq (Ev.now _) (by simp [stockFrom])
  | succ d ih =>
    intro i o s hi ho
    refine ev_succ ?_
    have h1 : (i : Int) < (asked.length : Int) := by omega
    have h2 : (i : Int) < (arr.length : Int) := by omega
    have h0 : (0 : Int) ≤ (i : Int) := by omega
    have h3 : o.length < 17592186044416 := by omega
    have hi' : i < asked.length := by omega
    simp only [spec_ParcelStocks.l0, h1, h0, h2, h3, ↓reduceIte, w64_nat hi' (by omega : asked.length ≤ 9223372036854775807), w64_sub_l]
    refine ev_eq (ih (i + 1) _ _ (by omega) (by simp; omega)) ?_
    rw [stockFrom]; simp
theorem ev_spec_ParcelStocks_no (s : Int) (l : List S85) (asked o : List Int) : Ev (fun k => spec_ParcelStocks.j0 k s l asked o true) (o, false) := by
  refine ev_succ ?_
  simp only [spec_ParcelStocks.j0, ↓reduceIte]
  exact Ev.now _
theorem ev_spec_ParcelStocks (s : Int) (l : List S85) (asked : List Int) (hl : l.length ≤ 9223372036854775807) (ha : asked.length ≤ 9223372036854775807) : Ev (fun k => spec_ParcelStocks.f k s l asked) (pstocksV s l asked) := by
  unfold spec_ParcelStocks.f pstocksV
  simp only [spec_l1In_f, Option.bind_some]
  refine ev_ite (fun h1 => ?_) (fun h1 => ?_)
  · refine Ev.bind (ev_spec_l11Parcels l hl) ?_
    refine ev_ite (fun h2 => ?_) (fun h2 => ?_)
    · refine Ev.bind (ev_spec_l11Numbers asked 20 20 ha) ?_
      cases h3 : (decide ((asked.length : Int) ≤ 20) && allB asked 0 20) with
      | false => exact ev_eq (ev_spec_ParcelStocks_no s l asked _) (by simp)
      | true =>
        have h4 : asked.length ≤ 20 := by
          simp only [Bool.and_eq_true, decide_eq_true_eq] at h3
          omega
        refine ev_succ ?_
        simp only [spec_ParcelStocks.j0, Bool.not_true, Bool.false_eq_true, ↓reduceIte]
        refine Ev.bind (ev_spec_l11Arrivals l h2) ?_
        refine ev_eq (ev_spec_ParcelStocks_l0 (arrV l) asked (arrV_length l) h4 asked.length 0 [] s (by omega) (by simp)) ?_
        simp [h1, h2]
    · exact ev_eq (ev_spec_ParcelStocks_no s l asked _) (by simp [h2])
  · exact ev_eq (ev_spec_ParcelStocks_no s l asked _) (by simp [h1])

theorem impl_within_f (a b c : Int) : impl_within.f a b c = some (inB a b c) := by
  unfold impl_within.f inB
  by_cases h : a ≥ b
  · rw [if_pos h]; congr 1; rw [decide_eq_decide]; omega
  · rw [if_neg h]; congr 1; symm; rw [decide_eq_false_iff_not]; omega

theorem impl_isStock_f (a : Int) : impl_isStock.f a = some (inB a (-200) 200) := by
  unfold impl_isStock.f
  rw [impl_within_f, Option.bind_some]

theorem ev_impl_allWithin_l0 (a b : Int) (l : List Int) (hl : l.length ≤ 9223372036854775807) (d : Nat) : ∀ i : Nat, i + d = l.length → Ev (fun k => impl_allWithin.l0 k a b l (l.length : Int) (i : Int)) (allB (l.drop i) a b) := by
  induction d with
  | zero =>
    intro i hi
    refine ev_succ ?_
    have h1 : ¬ (i : Int) < (l.length : Int) := by omega
    simp only [impl_allWithin.l0, h1, ↓reduceIte]
    rw [List.drop_eq_nil_of_le (by omega)]
    exact Ev.now _
  | succ d ih =>
    intro i hi
    refine ev_succ ?_
    have h1 : (i : Int) < (l.length : Int) := by omega
    have h0 : (0 : Int) ≤ (i : Int) := by omega
    have hi' : i < l.length := by omega
    simp only [impl_allWithin.l0, h1, h0, ↓reduceIte, impl_within_f, Option.bind_some, rd_nat hi', w64_nat hi' hl]
    rw [drop_cons hi']
    show Ev _ (inB l[i] a b && allB (l.drop (i + 1)) a b)
    cases inB l[i] a b with
    | true => simpa using ih (i + 1) (by omega)
    | false => simpa using Ev.now false
theorem ev_impl_allWithin (l : List Int) (a b : Int) (hl : l.length ≤ 9223372036854775807) : Ev (fun k => impl_allWithin.f k l a b) (allB l a b) := by
  unfold impl_allWithin.f
  simpa using ev_impl_allWithin_l0 a b l hl l.length 0 (by omega)

theorem ev_impl_areParcels_l0 (l : List S85) (hl : l.length ≤ 9223372036854775807) (d : Nat) : ∀ i : Nat, i + d = l.length → Ev (fun k => impl_areParcels.l0 k l l (l.length : Int) (i : Int)) (parcOk l d i) := by
  induction d with
  | zero =>
    intro i hi
    refine ev_succ ?_
    have h1 : ¬ (i : Int) < (l.length : Int) := by omega
    simp only [impl_areParcels.l0, h1, ↓reduceIte]
    exact Ev.now _
  | succ d ih =>
    intro i hi
    refine ev_succ ?_
    have h1 : (i : Int) < (l.length : Int) := by omega
    have h0 : (0 : Int) ≤ (i : Int) := by omega
    have hi' : i < l.length := by omega
    simp only [impl_areParcels.l0, h1, h0, ↓reduceIte, impl_within_f, Option.bind_some, w64_nat hi' hl]
    unfold parcOk
    refine ev_ite (fun c1 => ?_) (fun c1 => ?_)
    · refine ev_ite (fun c2 => ?_) (fun c2 => ?_)
      · refine ev_ite (fun c3 => ?_) (fun c3 => ?_)
        · rw [c1, c2, c3]
          simp only [Bool.true_and]
          by_cases hp : 0 < i
          · have hp' : (i : Int) > 0 := by omega
            have e : wrap64 ((i : Int) - 1) = ((i - 1 : Nat) : Int) := by rw [w64 (by omega) (by omega)]; omega
            have h2 : (0 : Int) ≤ ((i - 1 : Nat) : Int) := by omega
            have h3 : ((i - 1 : Nat) : Int) < (l.length : Int) := by omega
            simp only [hp, hp', e, h2, h3, ↓reduceIte]
            refine ev_ite (fun c4 => ?_) (fun c4 => ?_)
            · exact ev_eq (Ev.now _) (by rw [decide_eq_false (by omega)]; rfl)
            · exact ev_eq (ih (i + 1) (by omega)) (by rw [decide_eq_true (by omega)]; rfl)
          · have hp' : ¬ (i : Int) > 0 := by omega
            simp only [hp, hp', ↓reduceIte, Bool.true_and]
            exact ih (i + 1) (by omega)
        · exact ev_eq (Ev.now _) (by simp [c3])
      · exact ev_eq (Ev.now _) (by simp [c2])
    · exact ev_eq (Ev.now _) (by simp [c1])
theorem ev_impl_areParcels (l : List S85) (hl : l.length ≤ 9223372036854775807) : Ev (fun k => impl_areParcels.f k l) (parcelsB l) := by
  unfold impl_areParcels.f
  exact ev_impl_areParcels_l0 l hl l.length 0 (by omega)

theorem ev_impl_arrivals_l0 (l : List S85) (hv : parcelsB l = true) (d : Nat) : ∀ (i : Nat) (o : List Int), i + d = l.length → o.length = 24 → Ev (fun k => impl_arrivals.l0 k o l (l.length : Int) (i : Int)) (arrFrom l d i o) := by
  have hm := parcelsB_mem hv
  induction d with
  | zero =>
    intro i o hi ho
    refine ev_succ ?_
    have h1 : ¬ (i : Int) < (l.length : Int) := by omega
    simp only [impl_arrivals.l0, h1, ↓reduceIte]
    exact Ev.now _
  | succ d ih =>
    intro i o hi ho
    refine ev_succ ?_
    have h1 : (i : Int) < (l.length : Int) := by omega
    have h0 : (0 : Int) ≤ (i : Int) := by omega
    have hi' : i < l.length := by omega
    have hr := hm.2 i hi'
    rw [← rdP_nat hi'] at hr
    have e1 : wrap64 ((rd_T85 l (i : Int)).f0 + (rd_T85 l (i : Int)).f2) = (rd_T85 l (i : Int)).f0 + (rd_T85 l (i : Int)).f2 := w64 (by omega) (by omega)
    have e2 : wrap64 ((rd_T85 l (i : Int)).f0 + (rd_T85 l (i : Int)).f2 - 1) = (rd_T85 l (i : Int)).f0 + (rd_T85 l (i : Int)).f2 - 1 := w64 (by omega) (by omega)
    have h2 : 0 ≤ (rd_T85 l (i : Int)).f0 + (rd_T85 l (i : Int)).f2 - 1 := by omega
    have h3 : (rd_T85 l (i : Int)).f0 + (rd_T85 l (i : Int)).f2 - 1 < (o.length : Int) := by omega
    simp only [impl_arrivals.l0, h1, h0, e1, e2, h2, h3, ↓reduceIte, w64_nat hi' (by omega : l.length ≤ 9223372036854775807)]
    rw [arrFrom]
    exact ih (i + 1) _ (by omega) (by simp [ho])
theorem ev_impl_arrivals (l : List S85) (hv : parcelsB l = true) : Ev (fun k => impl_arrivals.f k l) (arrV l) := by
  unfold impl_arrivals.f
  simp only [show ((24 : Nat) ≤ 35184372088832) = True from by simp, if_true]
  exact ev_impl_arrivals_l0 l hv l.length 0 _ (by omega) (by simp)

theorem ev_impl_ParcelStocks_l0 (arr asked : List Int) (ha : arr.length = 24) (hl : asked.length ≤ 20) (d : Nat) : ∀ (i : Nat) (o : List Int) (s : Int), i + d = asked.length → o.length ≤ i → Ev (fun k => impl_ParcelStocks.l0 k s o arr asked (asked.length : Int) (i : Int)) (o ++ stockFrom arr asked d i s, true) := by
  induction d with
  | zero =>
    intro i o s hi ho
    refine ev_succ ?_
    have h1 : ¬ (i : Int) < (asked.length : Int) := by omega
    simp only [impl_ParcelStocks.l0, h1, ↓reduceIte]
    exact ev_eq (Ev.now _) (by simp [stockFrom])
  | succ d ih =>
    intro i o s hi ho
    refine ev_succ ?_
    have h1 : (i : Int) < (asked.length : Int) := by omega
    have h2 : (i : Int) < (arr.length : Int) := by omega
    have h0 : (0 : Int) ≤ (i : Int) := by omega
    have h3 : o.length < 17592186044416 := by omega
    have hi' : i < asked.length := by omega
    have e : wrap64 (s + wrap64 (rd arr (i : Int) - rd asked (i : Int))) = wrap64 (s + rd arr (i : Int) - rd asked (i : Int)) := by rw [w64_add_r]; congr 1; omega
    simp only [impl_ParcelStocks.l0, h1, h0, h2, h3, ↓reduceIte, w64_nat hi' (by omega : asked.length ≤ 9223372036854775807), e]
    refine ev_eq (ih (i + 1) _ _ (by omega) (by simp; omega)) ?_
    rw [stockFrom]; simp
theorem ev_impl_ParcelStocks_no (s : Int) (l : List S85) (asked : List Int) : Ev (fun k => impl_ParcelStocks.j0 k s l asked true) ([], false) := by
  refine ev_succ ?_
  simp only [impl_ParcelStocks.j0, ↓reduceIte]
  exact Ev.now _
theorem ev_impl_ParcelStocks_yes (s : Int) (l : List S85) (asked : List Int) (h2 : parcelsB l = true) (h4 : asked.length ≤ 20) : Ev (fun k => impl_ParcelStocks.j0 k s l asked false) (stockFrom (arrV l) asked asked.length 0 s, true) := by
  refine ev_succ ?_
  simp only [impl_ParcelStocks.j0, Bool.false_eq_true, ↓reduceIte]
  refine Ev.bind (ev_impl_arrivals l h2) ?_
  exact ev_eq (ev_impl_ParcelStocks_l0 (arrV l) asked (arrV_length l) h4 asked.length 0 [] s (by omega) (by simp)) (by simp)
theorem ev_impl_ParcelStocks (s : Int) (l : List S85) (asked : List Int) (hl : l.length ≤ 9223372036854775807) (ha : asked.length ≤ 9223372036854775807) : Ev (fun k => impl_ParcelStocks.f k s l asked) (pstocksV s l asked) := by
  unfold impl_ParcelStocks.f pstocksV
  simp only [impl_isStock_f, Option.bind_some]
  refine ev_ite (fun h1 => ?_) (fun h1 => ?_)
  · refine Ev.bind (ev_impl_areParcels l hl) ?_
    refine ev_ite (fun h2 => ?_) (fun h2 => ?_)
    · refine ev_ite (fun h3 => ?_) (fun h3 => ?_)
      · have h4 : ¬ (asked.length : Int) ≤ 20 := by omega
        exact ev_eq (ev_impl_ParcelStocks_no s l asked) (by simp [h4])
      · have h4 : (asked.length : Int) ≤ 20 := by omega
        refine Ev.bind (ev_impl_allWithin asked 0 20 ha) ?_
        cases h5 : allB asked 0 20 with
        | false => exact ev_eq (ev_impl_ParcelStocks_no s l asked) (by simp)
        | true => exact ev_eq (ev_impl_ParcelStocks_yes s l asked h2 (by omega)) (by simp [h1, h2, h4])
    · exact ev_eq (ev_impl_ParcelStocks_no s l asked) (by simp [h2])
  · exact ev_eq (ev_impl_ParcelStocks_no s l asked) (by simp [h1])

theorem FnExactParcelStocks (a0 : Int) (l1 : List (S87)) (l2 : List Int) (w0' : (Lit.int .i64 a0).wf = true) (h1 : l1.length ≤ 9223372036854775807) (w1 : ∀ y ∈ l1, ((Lit.int .i64 y.f0).wf = true ∧ (Lit.int .i64 y.f1).wf = true ∧ (Lit.int .i64 y.f2).wf = true)) (h2 : l2.length ≤ 9223372036854775807) (w2 : ∀ y ∈ l2, (Lit.int .i64 y).wf = true) : ∃ k, laws_FnExactParcelStocks.f k a0 l1 l2 = some true := by
  refine Ev.rounds ?_
  unfold laws_FnExactParcelStocks.f
  refine ev_ite (fun h => Ev.now _) (fun h => ?_)
  have hn2 : l2.length ≤ 1048576 := by omega
  by_cases hn : l1.length ≤ 1048576
  · have ht := ev_laws_toParcelS l1 hn
    have hlm : (l1.map toP).length = l1.length := by simp
    generalize l1.map toP = ll at ht hlm
    have hs := ev_spec_ParcelStocks a0 ll l2 (by omega) h2
    have hi := ev_impl_ParcelStocks a0 ll l2 (by omega) h2
    have hv := pstocksV_length a0 ll l2
    generalize pstocksV a0 ll l2 = v at hs hi hv
    obtain ⟨v, b⟩ := v
    dsimp only at hv
    simp only [laws_szParcelS_le l1 hn, Option.bind_some]
    repeat first
      | exact Ev.now _
      | (refine Ev.bind ht ?_; try dsimp only)
      | (refine Ev.bind hs ?_; try dsimp only)
      | (refine Ev.bind hi ?_; try dsimp only)
      | (refine Ev.bind (ev_laws_toIntS _ (by first | assumption | omega)) ?_; try dsimp only)
      | (refine Ev.bind (ev_laws_eqIntS_self _ (by omega)) ?_; try dsimp only)
      | (refine Ev.bind (ev_laws_markIntS _ _ (by omega) (by omega) (by omega)) ?_; try dsimp only)
      | (refine Ev.bind (ev_laws_heldIntS _ _ (by omega) (by omega) (by omega)) ?_; try dsimp only)
      | (refine Ev.bind (ev_laws_toParcel _ _ _ (by first | assumption | omega)) ?_; try dsimp only)
      | (refine Ev.bind (ev_laws_toParcelS _ (by first | assumption | omega)) ?_; try dsimp only)
      | (refine Ev.bind (ev_laws_eqParcel_self _ _ _ (by omega)) ?_; try dsimp only)
      | (refine Ev.bind (ev_laws_eqParcelS_self _ (by omega)) ?_; try dsimp only)
      | (refine Ev.bind (ev_laws_markParcelS _ _ (by omega) (by omega) (by omega)) ?_; try dsimp only)
      | (refine ev_ite (fun h => absurd h (by omega)) (fun _ => ?_))
      | (refine ev_ite (fun _ => ?_) (fun h => absurd (by omega) h))
      | (simp only [bne_self_eq_false, Bool.false_eq_true, ↓reduceIte])
      | (refine ev_succ ?_; simp only [laws_FnExactParcelStocks.j0])
      | (refine ev_succ ?_; simp only [laws_FnExactParcelStocks.j1])
      | (refine ev_succ ?_; simp only [laws_FnExactParcelStocks.j2])
  · simp only [laws_szParcelS_gt l1 h1 (by omega), Option.bind_some]
    exact Ev.now _

end Go.Proofs.Ytjenbljkjmkbfaa.Pure
