/- The pure side of FnExactCrossingPairs: what the program's text computes and what the reference's text computes are the same value, for every argument. No condition. -/
import Derived.Test.YtjenbljkjmkbfaaPFnExactCrossingPairsx8
namespace Go.Proofs.Ytjenbljkjmkbfaa.Pure
open Go.RowKit Go.Proofs.Ytjenbljkjmkbfaa.PFnExactCrossingPairs Go.Proofs.YtjenbljkjmkbfaaW.PrintWords Go.Proofs.YtjenbljkjmkbfaaW.PrintLast
set_option linter.unusedVariables false
set_option linter.unusedSimpArgs false

theorem ev_succ {α : Type} {g : Nat → Option α} {r : α} (h : Ev (fun k => g (k + 1)) r) : Ev g r := Ev.step (fun _ => rfl) h
theorem ev_pure {α : Type} {x : Option α} {r : α} (h : x = some r) : Ev (fun _ => x) r := ⟨0, fun _ _ => h⟩
theorem ev_eq {α : Type} {g : Nat → Option α} {r r' : α} (h : Ev g r) (e : r = r') : Ev g r' := e ▸ h
theorem ev_ite {α : Type} {c : Prop} [Decidable c] {g f : Nat → Option α} {r : α} (h1 : c → Ev g r) (h2 : ¬ c → Ev f r) : Ev (fun k => if c then g k else f k) r := by
  by_cases h : c
  · simp only [h, if_true]; exact h1 h
  · simp only [h, if_false]; exact h2 h
theorem w64 {x : Int} (h : -9223372036854775808 ≤ x) (h' : x ≤ 9223372036854775807) : wrap64 x = x := by unfold wrap64; omega
theorem w64_zero : wrap64 0 = 0 := w64 (by omega) (by omega)
theorem w64_idem (x : Int) : wrap64 (wrap64 x) = wrap64 x := by unfold wrap64; omega
theorem w64_add_l (x y : Int) : wrap64 (wrap64 x + y) = wrap64 (x + y) := by unfold wrap64; omega
theorem w64_add_r (x y : Int) : wrap64 (x + wrap64 y) = wrap64 (x + y) := by unfold wrap64; omega
theorem w64_sub_l (x y : Int) : wrap64 (wrap64 x - y) = wrap64 (x - y) := by unfold wrap64; omega
theorem w64_sub_r (x y : Int) : wrap64 (x - wrap64 y) = wrap64 (x - y) := by unfold wrap64; omega
theorem w64_shift (x k : Int) : wrap64 (x + 18446744073709551616 * k) = wrap64 x := by unfold wrap64; omega
theorem w64_ex (x : Int) : ∃ k, wrap64 x = x + 18446744073709551616 * k := by
  unfold wrap64
  exact ⟨-((x + 9223372036854775808) / 18446744073709551616), by omega⟩
theorem w64_mul_l (x y : Int) : wrap64 (wrap64 x * y) = wrap64 (x * y) := by
  obtain ⟨k, hk⟩ := w64_ex x
  rw [hk, Int.add_mul, Int.mul_assoc, w64_shift]
theorem w64_mul_r (x y : Int) : wrap64 (x * wrap64 y) = wrap64 (x * y) := by
  rw [Int.mul_comm, w64_mul_l, Int.mul_comm]
theorem w64_neg (x : Int) : wrap64 (-wrap64 x) = wrap64 (-x) := by unfold wrap64; omega
theorem w64_range (x : Int) : -9223372036854775808 ≤ wrap64 x ∧ wrap64 x ≤ 9223372036854775807 := by unfold wrap64; omega
theorem w64_nat {i n : Nat} (h : i < n) (hn : n ≤ 9223372036854775807) : wrap64 ((i : Int) + 1) = ((i + 1 : Nat) : Int) := by rw [w64 (by omega) (by omega)]; rfl
theorem wf_range {x : Int} (h : (Lit.int .i64 x).wf = true) : -9223372036854775808 ≤ x ∧ x ≤ 9223372036854775807 := by
  simp [Lit.wf, IntKind.min, IntKind.max, IntKind.signed, IntKind.bits] at h
  omega
theorem rd_nat {l : List Int} {i : Nat} (h : i < l.length) : rd l (i : Int) = l[i] := by
  unfold rd
  simp [List.getD_eq_getElem?_getD, h]
def allB (l : List Int) (a b : Int) : Bool := l.all fun x => decide (a ≤ x ∧ x ≤ b)
def inB (x a b : Int) : Bool := decide (a ≤ x ∧ x ≤ b)
theorem allB_mem {l : List Int} {a b : Int} (h : allB l a b = true) : ∀ x ∈ l, a ≤ x ∧ x ≤ b := by
  intro x hx
  have := List.all_eq_true.1 h x hx
  simpa using this
theorem inB_iff {x a b : Int} : inB x a b = true ↔ a ≤ x ∧ x ≤ b := by unfold inB; simp
theorem sum_le {l : List Int} {b : Int} (hb : ∀ x ∈ l, x ≤ b) : l.sum ≤ l.length * b := by
  induction l with
  | nil => simp
  | cons x l ih =>
    have h1 := hb x (by simp)
    have h2 := ih (fun y hy => hb y (by simp [hy]))
    rw [List.sum_cons, List.length_cons]
    have : ((l.length + 1 : Nat) : Int) * b = l.length * b + b := by rw [Int.natCast_add, Int.add_mul]; simp
    rw [this]; omega
theorem le_sum {l : List Int} {b : Int} (hb : ∀ x ∈ l, b ≤ x) : l.length * b ≤ l.sum := by
  induction l with
  | nil => simp
  | cons x l ih =>
    have h1 := hb x (by simp)
    have h2 := ih (fun y hy => hb y (by simp [hy]))
    rw [List.sum_cons, List.length_cons]
    have : ((l.length + 1 : Nat) : Int) * b = l.length * b + b := by rw [Int.natCast_add, Int.add_mul]; simp
    rw [this]; omega
theorem drop_cons {α : Type} {l : List α} {i : Nat} (h : i < l.length) : l.drop i = l[i] :: l.drop (i + 1) := List.drop_eq_getElem_cons h

theorem laws_szParcelS_le (l : List S87) (hl : l.length ≤ 1048576) : laws_szParcelS.f l 1048576 = some (1048576 - (l.length : Int)) := by
  unfold laws_szParcelS.f
  rw [w64 (by omega) (by omega), if_neg (by omega)]
theorem laws_szParcelS_gt (l : List S87) (h : l.length ≤ 9223372036854775807) (hl : 1048576 < l.length) : laws_szParcelS.f l 1048576 = some (-1) := by
  unfold laws_szParcelS.f
  rw [w64 (by omega) (by omega), if_pos (by omega)]

def toP (x : S87) : S85 := ⟨x.f0, x.f1, x.f2⟩
theorem rdLP_nat {l : List S87} {i : Nat} (h : i < l.length) : rd_T87 l (i : Int) = l[i] := by
  unfold rd_T87
  simp [List.getD_eq_getElem?_getD, h]
theorem ev_laws_toParcelS_l0 (l : List S87) (hl : l.length ≤ 9223372036854775807) (d : Nat) : ∀ (i : Nat) (o : List S85), i + d = l.length → o.length = l.length → Ev (fun k => laws_toParcelS.l0 k l o (i : Int)) (o.take i ++ (l.drop i).map toP) := by
  induction d with
  | zero =>
    intro i o hi ho
    refine ev_succ ?_
    have h1 : ¬ (i : Int) < (l.length : Int) := by omega
    simp only [laws_toParcelS.l0, h1, ↓reduceIte]
    rw [List.drop_eq_nil_of_le (by omega), List.take_of_length_le (by omega), List.map_nil, List.append_nil]
    exact Ev.now _
  | succ d ih =>
    intro i o hi ho
    refine ev_succ ?_
    have h1 : (i : Int) < (l.length : Int) := by omega
    have h2 : (i : Int) < (o.length : Int) := by omega
    have h0 : (0 : Int) ≤ (i : Int) := by omega
    have hi' : i < l.length := by omega
    simp only [laws_toParcelS.l0, laws_toParcel.f, Option.bind_some, h1, h2, h0, ↓reduceIte, rdLP_nat hi', w64_nat hi' hl, Int.toNat_natCast]
    refine ev_eq (ih (i + 1) _ (by omega) (by simp [ho])) ?_
    rw [drop_cons hi', List.take_add_one, List.map_cons]
    simp [ho, hi', List.take_set_of_le (Nat.le_refl i), toP]
theorem ev_laws_toParcelS (l : List S87) (hl : l.length ≤ 1048576) : Ev (fun k => laws_toParcelS.f k l) (l.map toP) := by
  unfold laws_toParcelS.f
  have h0 : (0 : Int) ≤ (l.length : Int) := by omega
  have h1 : ((l.length : Int) : Int).toNat ≤ 11728124029610 := by omega
  simp only [h0, h1, ↓reduceIte]
  simpa using ev_laws_toParcelS_l0 l (by omega) l.length 0 (List.replicate ((l.length : Int) : Int).toNat z85) (by omega) (by simp)

theorem rdEParcel_nat {l : List S85} {i : Nat} (h : i < l.length) : rd_T85 l (i : Int) = l[i] := by
  unfold rd_T85
  simp [List.getD_eq_getElem?_getD, h]
theorem ev_laws_eqParcelS_self_l0 (l : List S85) (hl : l.length ≤ 9223372036854775807) (d : Nat) : ∀ (i : Nat), i + d = l.length → Ev (fun k => laws_eqParcelS.l0 k l l (i : Int)) true := by
  induction d with
  | zero =>
    intro i hi
    refine ev_succ ?_
    have h1 : ¬ (i : Int) < (l.length : Int) := by omega
    simp only [laws_eqParcelS.l0, h1, ↓reduceIte]
    exact Ev.now _
  | succ d ih =>
    intro i hi
    refine ev_succ ?_
    have h1 : (i : Int) < (l.length : Int) := by omega
    have h0 : (0 : Int) ≤ (i : Int) := by omega
    have hi' : i < l.length := by omega
    simp only [laws_eqParcelS.l0, laws_eqParcel.f, h1, h0, ↓reduceIte, w64_nat hi' hl, Option.bind_some]
    exact ih (i + 1) (by omega)
theorem ev_laws_eqParcelS_self (l : List S85) (hl : l.length ≤ 9223372036854775807) : Ev (fun k => laws_eqParcelS.f k l l) true := by
  unfold laws_eqParcelS.f
  simp only [if_true]
  exact ev_laws_eqParcelS_self_l0 l hl l.length 0 (by omega)

def markedParcel (m : Int) : Nat → List S85
  | 0 => []
  | n + 1 => ⟨m, m + 1, m + 2⟩ :: markedParcel (m + 3) n
theorem markedParcel_length (m : Int) (n : Nat) : (markedParcel m n).length = n := by
  induction n generalizing m with
  | zero => rfl
  | succ n ih => simp [markedParcel, ih]
theorem markedParcel_get (m : Int) (n i : Nat) (h : i < (markedParcel m n).length) : (markedParcel m n)[i] = ⟨m + 3 * i, m + 3 * i + 1, m + 3 * i + 2⟩ := by
  induction n generalizing m i with
  | zero => simp [markedParcel] at h
  | succ n ih =>
    cases i with
    | zero => simp [markedParcel]
    | succ i =>
      simp only [markedParcel, List.getElem_cons_succ]
      rw [ih]
      simp only [Int.natCast_add, Int.cast_ofNat_Int, Int.mul_add]
      congr 1 <;> omega
theorem rdKParcel_nat {l : List S85} {i : Nat} (h : i < l.length) : rd_T85 l (i : Int) = l[i] := by
  unfold rd_T85
  simp [List.getD_eq_getElem?_getD, h]
theorem ev_laws_markParcelS_l0 (n0 : Nat) (hl : n0 ≤ 1000000000000) (m0 : Int) (h0 : 0 ≤ m0) (h1 : m0 ≤ 1000000000) (d : Nat) : ∀ (i : Nat) (l : List S85), i + d = l.length → l.length = n0 → Ev (fun k => laws_markParcelS.l0 k l (m0 + 3 * (i : Int)) (i : Int)) (m0 + 3 * (l.length : Int), l.take i ++ markedParcel (m0 + 3 * i) d) := by
  induction d with
  | zero =>
    intro i l hi hle
    refine ev_succ ?_
    have h1 : ¬ (i : Int) < (l.length : Int) := by omega
    simp only [laws_markParcelS.l0, h1, ↓reduceIte]
    rw [List.take_of_length_le (by omega)]
    have : i = l.length := by omega
    subst this
    simp only [markedParcel, List.append_nil]
    exact Ev.now _
  | succ d ih =>
    intro i l hi hle
    refine ev_succ ?_
    have h1' : (i : Int) < (l.length : Int) := by omega
    have h0' : (0 : Int) ≤ (i : Int) := by omega
    have hi' : i < l.length := by omega
    have e1 : wrap64 (m0 + 3 * (i : Int) + 1) = m0 + 3 * (i : Int) + 1 := w64 (by omega) (by omega)
    have e2 : wrap64 (m0 + 3 * (i : Int) + 1 + 1) = m0 + 3 * (i : Int) + 2 := by rw [w64 (by omega) (by omega)]; omega
    have e3 : wrap64 (m0 + 3 * (i : Int) + 2 + 1) = m0 + 3 * ((i + 1 : Nat) : Int) := by rw [w64 (by omega) (by omega)]; omega
    simp only [laws_markParcelS.l0, h1', h0', ↓reduceIte, w64_nat hi' (by omega : l.length ≤ 9223372036854775807), Int.toNat_natCast, Option.bind_some, e1, e2, e3]
    have r1 : ∀ x, rd_T85 (l.set i x) (i : Int) = x := fun x => by rw [rdKParcel_nat (by simpa using hi')]; simp
    have r2 : ∀ x y, rd_T85 ((l.set i x).set i y) (i : Int) = y := fun x y => by rw [rdKParcel_nat (by simpa using hi')]; simp
    simp only [r1, r2, List.set_set]
    refine ev_eq (ih (i + 1) (l.set i _) (by simp; omega) (by simp [hle])) ?_
    rw [List.length_set]
    congr 1
    rw [List.take_add_one]
    simp only [List.getElem?_set_self hi', List.take_set_of_le (Nat.le_refl i)]
    simp only [Option.toList_some, List.append_assoc, List.singleton_append, markedParcel]
    congr 3
    omega
theorem ev_laws_markParcelS (l : List S85) (m : Int) (hl : l.length ≤ 1000000000000) (h0 : 0 ≤ m) (h1 : m ≤ 1000000000) : Ev (fun k => laws_markParcelS.f k l m) (m + 3 * (l.length : Int), markedParcel m l.length) := by
  unfold laws_markParcelS.f
  simpa using ev_laws_markParcelS_l0 l.length hl m h0 h1 l.length 0 l (by omega) rfl

theorem spec_l1In_f (a b c : Int) : spec_l1In.f a b c = some (inB a b c) := by
  unfold spec_l1In.f inB
  by_cases h : a ≥ b
  · rw [if_pos h]; congr 1; rw [decide_eq_decide]; omega
  · rw [if_neg h]; congr 1; symm; rw [decide_eq_false_iff_not]; omega

def parcOk (l : List S85) : Nat → Nat → Bool
  | 0, _ => decide ((l.length : Int) ≤ 12)
  | d + 1, i => inB (rd_T85 l (i : Int)).f0 1 20 && (inB (rd_T85 l (i : Int)).f1 1 40 && (inB (rd_T85 l (i : Int)).f2 0 4 && ((if 0 < i then decide ((rd_T85 l ((i - 1 : Nat) : Int)).f0 ≤ (rd_T85 l (i : Int)).f0) else true) && parcOk l d (i + 1))))
def parcelsB (l : List S85) : Bool := parcOk l l.length 0
theorem rdP_nat {l : List S85} {i : Nat} (h : i < l.length) : rd_T85 l (i : Int) = l[i] := by
  unfold rd_T85
  simp [List.getD_eq_getElem?_getD, h]
theorem parcOk_mem (l : List S85) (d : Nat) : ∀ i : Nat, i + d = l.length → parcOk l d i = true → (l.length : Int) ≤ 12 ∧ ∀ j, i ≤ j → (hj : j < l.length) → (1 ≤ l[j].f0 ∧ l[j].f0 ≤ 20) ∧ (1 ≤ l[j].f1 ∧ l[j].f1 ≤ 40) ∧ (0 ≤ l[j].f2 ∧ l[j].f2 ≤ 4) ∧ ∀ hj0 : 0 < j, l[j - 1].f0 ≤ l[j].f0 := by
  induction d with
  | zero =>
    intro i hi h
    exact ⟨by simpa [parcOk] using h, fun j h1 h2 => by omega⟩
  | succ d ih =>
    intro i hi h
    have hi' : i < l.length := by omega
    unfold parcOk at h
    simp only [Bool.and_eq_true, inB_iff] at h
    obtain ⟨h1, h2, h3, h4, h5⟩ := h
    obtain ⟨hl, hall⟩ := ih (i + 1) (by omega) h5
    refine ⟨hl, fun j hj hjl => ?_⟩
    by_cases he : j = i
    · subst he
      rw [rdP_nat hi'] at h1 h2 h3
      refine ⟨h1, h2, h3, fun hj0 => ?_⟩
      rw [if_pos hj0, rdP_nat (by omega), rdP_nat hi'] at h4
      simpa using h4
    · exact hall j (by omega) hjl
theorem parcelsB_mem {l : List S85} (h : parcelsB l = true) : l.length ≤ 12 ∧ ∀ j (hj : j < l.length), (1 ≤ l[j].f0 ∧ l[j].f0 ≤ 20) ∧ (1 ≤ l[j].f1 ∧ l[j].f1 ≤ 40) ∧ (0 ≤ l[j].f2 ∧ l[j].f2 ≤ 4) ∧ ∀ hj0 : 0 < j, l[j - 1].f0 ≤ l[j].f0 := by
  obtain ⟨h1, h2⟩ := parcOk_mem l l.length 0 (by omega) h
  exact ⟨by omega, fun j hj => h2 j (by omega) hj⟩
def arrFrom (l : List S85) : Nat → Nat → List Int → List Int
  | 0, _, o => o
  | d + 1, i, o => arrFrom l d (i + 1) (o.set ((rd_T85 l (i : Int)).f0 + (rd_T85 l (i : Int)).f2 - 1).toNat (wrap64 (rd o ((rd_T85 l (i : Int)).f0 + (rd_T85 l (i : Int)).f2 - 1) + (rd_T85 l (i : Int)).f1)))
def arrV (l : List S85) : List Int := arrFrom l l.length 0 (List.replicate 24 0)
theorem arrFrom_length (l : List S85) (d : Nat) : ∀ (i : Nat) (o : List Int), (arrFrom l d i o).length = o.length := by
  induction d with
  | zero => intro i o; rfl
  | succ d ih => intro i o; rw [arrFrom, ih]; simp
theorem arrV_length (l : List S85) : (arrV l).length = 24 := by rw [arrV, arrFrom_length]; simp

theorem ev_spec_l11Parcels_l0 (l : List S85) (hl : l.length ≤ 9223372036854775807) (d : Nat) : ∀ i : Nat, i + d = l.length → Ev (fun k => spec_l11Parcels.l0 k l (i : Int)) (parcOk l d i) := by
  induction d with
  | zero =>
    intro i hi
    refine ev_succ ?_
    have h1 : ¬ (i : Int) < (l.length : Int) := by omega
    simp only [spec_l11Parcels.l0, h1, ↓reduceIte]
    exact Ev.now _
  | succ d ih =>
    intro i hi
    refine ev_succ ?_
    have h1 : (i : Int) < (l.length : Int) := by omega
    have h0 : (0 : Int) ≤ (i : Int) := by omega
    have hi' : i < l.length := by omega
    simp only [spec_l11Parcels.l0, h1, h0, ↓reduceIte, spec_l1In_f, Option.bind_some, w64_nat hi' hl]
    unfold parcOk
    refine ev_ite (fun c1 => ?_) (fun c1 => ?_)
    · refine ev_ite (fun c2 => ?_) (fun c2 => ?_)
      · refine ev_ite (fun c3 => ?_) (fun c3 => ?_)
        · rw [c1, c2, c3]
          simp only [Bool.true_and]
          by_cases hp : 0 < i
          · have hp' : (i : Int) > 0 := by omega
            have e : wrap64 ((i : Int) - 1) = ((i - 1 : Nat) : Int) := by rw [w64 (by omega) (by omega)]; omega
            have h2 : (0 : Int) ≤ ((i - 1 : Nat) : Int) := by omega
            have h3 : ((i - 1 : Nat) : Int) < (l.length : Int) := by omega
            simp only [hp, hp', e, h2, h3, ↓reduceIte]
            refine ev_ite (fun c4 => ?_) (fun c4 => ?_)
            · exact ev_eq (Ev.now _) (by rw [decide_eq_false (by omega)]; rfl)
            · exact ev_eq (ih (i + 1) (by omega)) (by rw [decide_eq_true (by omega)]; rfl)
          · have hp' : ¬ (i : Int) > 0 := by omega
            simp only [hp, hp', ↓reduceIte, Bool.true_and]
            exact ih (i + 1) (by omega)
        · exact ev_eq (Ev.now _) (by simp [c3])
      · exact ev_eq (Ev.now _) (by simp [c2])
    · exact ev_eq (Ev.now _) (by simp [c1])
theorem ev_spec_l11Parcels (l : List S85) (hl : l.length ≤ 9223372036854775807) : Ev (fun k => spec_l11Parcels.f k l) (parcelsB l) := by
  unfold spec_l11Parcels.f
  exact ev_spec_l11Parcels_l0 l hl l.length 0 (by omega)

theorem rdA2_nat {l : List S93} {i : Nat} (h : i < l.length) : rd_T93 l (i : Int) = l[i] := by
  unfold rd_T93
  simp [List.getD_eq_getElem?_getD, h]

def crossB (l : List S85) (i k : Nat) : Bool := decide ((rd_T85 l (i : Int)).f0 < (rd_T85 l (k : Int)).f0) && decide (wrap64 ((rd_T85 l (k : Int)).f0 + (rd_T85 l (k : Int)).f2) < wrap64 ((rd_T85 l (i : Int)).f0 + (rd_T85 l (i : Int)).f2))
def crossRow (l : List S85) (i : Nat) : Nat → Nat → List S93
  | 0, _ => []
  | d + 1, k => (if crossB l i k = true then [⟨(i : Int), (k : Int)⟩] else []) ++ crossRow l i d (k + 1)
def crossAll (l : List S85) : Nat → Nat → List S93
  | 0, _ => []
  | d + 1, i => crossRow l i d (i + 1) ++ crossAll l d (i + 1)
theorem crossRow_length (l : List S85) (i d : Nat) : ∀ k, (crossRow l i d k).length ≤ d := by
  induction d with
  | zero => intro k; simp [crossRow]
  | succ d ih =>
    intro k
    have := ih (k + 1)
    simp only [crossRow, List.length_append]
    split <;> simp <;> omega
theorem crossAll_length (l : List S85) (d : Nat) : ∀ i, (crossAll l d i).length ≤ d * d := by
  induction d with
  | zero => intro i; simp [crossAll]
  | succ d ih =>
    intro i
    have h1 := ih (i + 1)
    have h2 := crossRow_length l i d (i + 1)
    simp only [crossAll, List.length_append]
    have : (d + 1) * (d + 1) = d * d + 2 * d + 1 := by rw [Nat.add_mul, Nat.mul_add]; omega
    omega
def crossV (l : List S85) : List S93 × Bool := if parcelsB l = true then (crossAll l l.length 0, true) else ([], false)
theorem crossV_length (l : List S85) : (crossV l).1.length ≤ 144 := by
  unfold crossV
  by_cases h : parcelsB l = true
  · rw [if_pos h]
    have h1 := (parcelsB_mem h).1
    have h2 := crossAll_length l l.length 0
    have : l.length * l.length ≤ 12 * 12 := Nat.mul_le_mul h1 h1
    simp only
    omega
  · rw [if_neg h]; simp

theorem ev_spec_CrossingPairs_l0 (l : List S85) (hl : l.length ≤ 12) (d : Nat) : ∀ (i : Nat) (o : List S93), i + d = l.length → o.length + d * d ≤ 1000 → Ev (fun k => spec_CrossingPairs.l0 k l o (i : Int)) (o ++ crossAll l d i, true) := by
  induction d with
  | zero =>
    intro i o hi ho
    refine ev_succ ?_
    have h1 : ¬ (i : Int) < (l.length : Int) := by omega
    simp only [spec_CrossingPairs.l0, h1, ↓reduceIte, crossAll, List.append_nil]
    exact Ev.now _
  | succ d ih =>
    intro i o hi ho
    have hi' : i < l.length := by omega
    have hq : (d + 1) * (d + 1) = d * d + 2 * d + 1 := by rw [Nat.add_mul, Nat.mul_add]; omega
    have h1 : (i : Int) < (l.length : Int) := by omega
    have h0 : (0 : Int) ≤ (i : Int) := by omega
    have hin : ∀ dd : Nat, ∀ (j : Nat) (q : List S93), j + dd = l.length → q.length + dd + d * d ≤ 1000 → Ev (fun k => spec_CrossingPairs.l1 k l q (i : Int) (j : Int)) (q ++ crossRow l i dd j ++ crossAll l d (i + 1), true) := by
      intro dd
      induction dd with
      | zero =>
        intro j q hj hq
        refine ev_succ ?_
        have h2 : ¬ (j : Int) < (l.length : Int) := by omega
        simp only [spec_CrossingPairs.l1, h2, ↓reduceIte, w64_nat hi' (by omega : l.length ≤ 9223372036854775807), crossRow, List.append_nil]
        exact ih (i + 1) q (by omega) (by omega)
      | succ dd ihd =>
        intro j q hj hq
        refine ev_succ ?_
        have hj' : j < l.length := by omega
        have h2 : (j : Int) < (l.length : Int) := by omega
        have h3 : (0 : Int) ≤ (j : Int) := by omega
        have h4 : q.length < 8796093022208 := by omega
        simp only [spec_CrossingPairs.l1, h0, h1, h2, h3, h4, gt_iff_lt, ↓reduceIte, w64_nat hj' (by omega : l.length ≤ 9223372036854775807), crossRow, crossB]
        by_cases c1 : (rd_T85 l (i : Int)).f0 < (rd_T85 l (j : Int)).f0
        · by_cases c2 : wrap64 ((rd_T85 l (j : Int)).f0 + (rd_T85 l (j : Int)).f2) < wrap64 ((rd_T85 l (i : Int)).f0 + (rd_T85 l (i : Int)).f2)
          · simp only [c1, c2, ↓reduceIte, decide_true, Bool.and_self]
            refine ev_eq (ihd (j + 1) _ (by omega) (by simp; omega)) ?_
            simp only [List.append_assoc]
          · simp only [c1, c2, ↓reduceIte, decide_true, decide_false, Bool.and_false, Bool.false_eq_true, List.nil_append]
            exact ihd (j + 1) _ (by omega) (by omega)
        · simp only [c1, ↓reduceIte, decide_false, Bool.false_and, Bool.false_eq_true, List.nil_append]
          exact ihd (j + 1) _ (by omega) (by omega)
    refine ev_succ ?_
    simp only [spec_CrossingPairs.l0, h1, h0, ↓reduceIte, crossAll, w64_nat hi' (by omega : l.length ≤ 9223372036854775807)]
    refine ev_eq (hin d (i + 1) o (by omega) (by omega)) ?_
    rw [List.append_assoc]
theorem ev_spec_CrossingPairs (l : List S85) (hl : l.length ≤ 9223372036854775807) : Ev (fun k => spec_CrossingPairs.f k l) (crossV l) := by
  unfold spec_CrossingPairs.f crossV
  simp only [Option.bind_some]
  refine Ev.bind (ev_spec_l11Parcels l hl) ?_
  refine ev_ite (fun h => ?_) (fun h => ?_)
  · rw [if_pos h]
    have h1 := (parcelsB_mem h).1
    have h2 : l.length * l.length ≤ 12 * 12 := Nat.mul_le_mul h1 h1
    exact ev_spec_CrossingPairs_l0 l h1 l.length 0 [] (by omega) (by simp; omega)
  · rw [if_neg h]; exact Ev.now _

theorem impl_within_f (a b c : Int) : impl_within.f a b c = some (inB a b c) := by
  unfold impl_within.f inB
  by_cases h : a ≥ b
  · rw [if_pos h]; congr 1; rw [decide_eq_decide]; omega
  · rw [if_neg h]; congr 1; symm; rw [decide_eq_false_iff_not]; omega

theorem ev_impl_areParcels_l0 (l : List S85) (hl : l.length ≤ 9223372036854775807) (d : Nat) : ∀ i : Nat, i + d = l.length → Ev (fun k => impl_areParcels.l0 k l l (l.length : Int) (i : Int)) (parcOk l d i) := by
  induction d with
  | zero =>
    intro i hi
    refine ev_succ ?_
    have h1 : ¬ (i : Int) < (l.length : Int) := by omega
    simp only [impl_areParcels.l0, h1, ↓reduceIte]
    exact Ev.now _
  | succ d ih =>
    intro i hi
    refine ev_succ ?_
    have h1 : (i : Int) < (l.length : Int) := by omega
    have h0 : (0 : Int) ≤ (i : Int) := by omega
    have hi' : i < l.length := by omega
    simp only [impl_areParcels.l0, h1, h0, ↓reduceIte, impl_within_f, Option.bind_some, w64_nat hi' hl]
    unfold parcOk
    refine ev_ite (fun c1 => ?_) (fun c1 => ?_)
    · refine ev_ite (fun c2 => ?_) (fun c2 => ?_)
      · refine ev_ite (fun c3 => ?_) (fun c3 => ?_)
        · rw [c1, c2, c3]
          simp only [Bool.true_and]
          by_cases hp : 0 < i
          · have hp' : (i : Int) > 0 := by omega
            have e : wrap64 ((i : Int) - 1) = ((i - 1 : Nat) : Int) := by rw [w64 (by omega) (by omega)]; omega
            have h2 : (0 : Int) ≤ ((i - 1 : Nat) : Int) := by omega
            have h3 : ((i - 1 : Nat) : Int) < (l.length : Int) := by omega
            simp only [hp, hp', e, h2, h3, ↓reduceIte]
            refine ev_ite (fun c4 => ?_) (fun c4 => ?_)
            · exact ev_eq (Ev.now _) (by rw [decide_eq_false (by omega)]; rfl)
            · exact ev_eq (ih (i + 1) (by omega)) (by rw [decide_eq_true (by omega)]; rfl)
          · have hp' : ¬ (i : Int) > 0 := by omega
            simp only [hp, hp', ↓reduceIte, Bool.true_and]
            exact ih (i + 1) (by omega)
        · exact ev_eq (Ev.now _) (by simp [c3])
      · exact ev_eq (Ev.now _) (by simp [c2])
    · exact ev_eq (Ev.now _) (by simp [c1])
theorem ev_impl_areParcels (l : List S85) (hl : l.length ≤ 9223372036854775807) : Ev (fun k => impl_areParcels.f k l) (parcelsB l) := by
  unfold impl_areParcels.f
  exact ev_impl_areParcels_l0 l hl l.length 0 (by omega)

theorem ev_impl_CrossingPairs_l0 (l : List S85) (hl : l.length ≤ 12) (d : Nat) : ∀ (i : Nat) (o : List S93), i + d = l.length → o.length + d * d ≤ 1000 → Ev (fun k => impl_CrossingPairs.l0 k l o l (l.length : Int) (i : Int)) (o ++ crossAll l d i, true) := by
  induction d with
  | zero =>
    intro i o hi ho
    refine ev_succ ?_
    have h1 : ¬ (i : Int) < (l.length : Int) := by omega
    simp only [impl_CrossingPairs.l0, h1, ↓reduceIte, crossAll, List.append_nil]
    exact Ev.now _
  | succ d ih =>
    intro i o hi ho
    have hi' : i < l.length := by omega
    have hq : (d + 1) * (d + 1) = d * d + 2 * d + 1 := by rw [Nat.add_mul, Nat.mul_add]; omega
    have h1 : (i : Int) < (l.length : Int) := by omega
    have h0 : (0 : Int) ≤ (i : Int) := by omega
    have hin : ∀ dd : Nat, ∀ (j : Nat) (q : List S93), j + dd = l.length → q.length + dd + d * d ≤ 1000 → Ev (fun k => impl_CrossingPairs.l1 k l q (i : Int) (j : Int) l (l.length : Int) (i : Int) (rd_T85 l (i : Int)).f0 (rd_T85 l (i : Int)).f1 (rd_T85 l (i : Int)).f2) (q ++ crossRow l i dd j ++ crossAll l d (i + 1), true) := by
      intro dd
      induction dd with
      | zero =>
        intro j q hj hq
        refine ev_succ ?_
        have h2 : ¬ (j : Int) < (l.length : Int) := by omega
        simp only [impl_CrossingPairs.l1, h2, ↓reduceIte, w64_nat hi' (by omega : l.length ≤ 9223372036854775807), crossRow, List.append_nil]
        exact ih (i + 1) q (by omega) (by omega)
      | succ dd ihd =>
        intro j q hj hq
        refine ev_succ ?_
        have hj' : j < l.length := by omega
        have h2 : (j : Int) < (l.length : Int) := by omega
        have h3 : (0 : Int) ≤ (j : Int) := by omega
        have h4 : q.length < 8796093022208 := by omega
        simp only [impl_CrossingPairs.l1, h0, h1, h2, h3, h4, ↓reduceIte, w64_nat hj' (by omega : l.length ≤ 9223372036854775807), crossRow, crossB]
        by_cases c1 : (rd_T85 l (i : Int)).f0 < (rd_T85 l (j : Int)).f0
        · by_cases c2 : wrap64 ((rd_T85 l (j : Int)).f0 + (rd_T85 l (j : Int)).f2) < wrap64 ((rd_T85 l (i : Int)).f0 + (rd_T85 l (i : Int)).f2)
          · simp only [c1, c2, ↓reduceIte, decide_true, Bool.and_self]
            refine ev_eq (ihd (j + 1) _ (by omega) (by simp; omega)) ?_
            simp only [List.append_assoc]
          · simp only [c1, c2, ↓reduceIte, decide_true, decide_false, Bool.and_false, Bool.false_eq_true, List.nil_append]
            exact ihd (j + 1) _ (by omega) (by omega)
        · simp only [c1, ↓reduceIte, decide_false, Bool.false_and, Bool.false_eq_true, List.nil_append]
          exact ihd (j + 1) _ (by omega) (by omega)
    refine ev_succ ?_
    simp only [impl_CrossingPairs.l0, h1, h0, ↓reduceIte, crossAll, w64_nat hi' (by omega : l.length ≤ 9223372036854775807)]
    refine ev_eq (hin d (i + 1) o (by omega) (by omega)) ?_
    rw [List.append_assoc]
theorem ev_impl_CrossingPairs (l : List S85) (hl : l.length ≤ 9223372036854775807) : Ev (fun k => impl_CrossingPairs.f k l) (crossV l) := by
  unfold impl_CrossingPairs.f crossV
  refine Ev.bind (ev_impl_areParcels l hl) ?_
  refine ev_ite (fun h => ?_) (fun h => ?_)
  · rw [if_pos h]
    have h1 := (parcelsB_mem h).1
    have h2 : l.length * l.length ≤ 12 * 12 := Nat.mul_le_mul h1 h1
    exact ev_impl_CrossingPairs_l0 l h1 l.length 0 [] (by omega) (by simp; omega)
  · rw [if_neg h]; exact Ev.now _

theorem ev_laws_eqIntA2_self (x y : Int) : Ev (fun k => laws_eqIntA2.f k x y x y) true := by
  unfold laws_eqIntA2.f
  refine ev_succ (ev_succ (ev_succ ?_))
  have e1 : wrap64 1 = 1 := w64 (by omega) (by omega)
  have e2 : wrap64 2 = 2 := w64 (by omega) (by omega)
  simp only [laws_eqIntA2.l0, Int.reduceLT, Int.reduceEq, Int.reduceAdd, e1, e2, ↓reduceIte]
  exact Ev.now _

theorem ev_laws_eqIntA2S_self_l0 (l : List S93) (hl : l.length ≤ 9223372036854775807) (d : Nat) : ∀ (i : Nat), i + d = l.length → Ev (fun k => laws_eqIntA2S.l0 k l l (i : Int)) true := by
  induction d with
  | zero =>
    intro i hi
    refine ev_succ ?_
    have h1 : ¬ (i : Int) < (l.length : Int) := by omega
    simp only [laws_eqIntA2S.l0, h1, ↓reduceIte]
    exact Ev.now _
  | succ d ih =>
    intro i hi
    refine ev_succ ?_
    have h1 : (i : Int) < (l.length : Int) := by omega
    have h0 : (0 : Int) ≤ (i : Int) := by omega
    have hi' : i < l.length := by omega
    simp only [laws_eqIntA2S.l0, h1, h0, ↓reduceIte, w64_nat hi' hl]
    refine Ev.bind (ev_laws_eqIntA2_self _ _) ?_
    simp only [↓reduceIte]
    exact ih (i + 1) (by omega)
theorem ev_laws_eqIntA2S_self (l : List S93) (hl : l.length ≤ 9223372036854775807) : Ev (fun k => laws_eqIntA2S.f k l l) true := by
  unfold laws_eqIntA2S.f
  simp only [↓reduceIte]
  exact ev_laws_eqIntA2S_self_l0 l hl l.length 0 (by omega)

def markedA2 (m : Int) : Nat → List S93
  | 0 => []
  | n + 1 => ⟨m, m + 1⟩ :: markedA2 (m + 2) n
theorem markedA2_length (m : Int) (n : Nat) : (markedA2 m n).length = n := by
  induction n generalizing m with
  | zero => rfl
  | succ n ih => simp [markedA2, ih]
theorem markedA2_get (m : Int) (n i : Nat) (h : i < (markedA2 m n).length) : (markedA2 m n)[i] = ⟨m + 2 * i, m + 2 * i + 1⟩ := by
  induction n generalizing m i with
  | zero => simp [markedA2] at h
  | succ n ih =>
    cases i with
    | zero => simp [markedA2]
    | succ i =>
      simp only [markedA2, List.getElem_cons_succ]
      rw [ih]
      simp only [Int.natCast_add, Int.cast_ofNat_Int, Int.mul_add]
      congr 1 <;> omega
theorem ev_laws_markIntA2S_l0 (n0 : Nat) (hl : n0 ≤ 1000000000000) (m0 : Int) (h0 : 0 ≤ m0) (h1 : m0 ≤ 1000000000) (d : Nat) : ∀ (i : Nat) (l : List S93), i + d = l.length → l.length = n0 → Ev (fun k => laws_markIntA2S.l0 k l (m0 + 2 * (i : Int)) (i : Int)) (m0 + 2 * (l.length : Int), l.take i ++ markedA2 (m0 + 2 * i) d) := by
  induction d with
  | zero =>
    intro i l hi hle
    refine ev_succ ?_
    have h1 : ¬ (i : Int) < (l.length : Int) := by omega
    simp only [laws_markIntA2S.l0, h1, ↓reduceIte]
    rw [List.take_of_length_le (by omega)]
    have : i = l.length := by omega
    subst this
    simp only [markedA2, List.append_nil]
    exact Ev.now _
  | succ d ih =>
    intro i l hi hle
    refine ev_succ (ev_succ (ev_succ (ev_succ ?_)))
    have h1' : (i : Int) < (l.length : Int) := by omega
    have h0' : (0 : Int) ≤ (i : Int) := by omega
    have hi' : i < l.length := by omega
    have c1 : wrap64 1 = 1 := w64 (by omega) (by omega)
    have c2 : wrap64 2 = 2 := w64 (by omega) (by omega)
    have e1 : wrap64 (m0 + 2 * (i : Int) + 1) = m0 + 2 * (i : Int) + 1 := w64 (by omega) (by omega)
    have e2 : wrap64 (m0 + 2 * (i : Int) + 1 + 1) = m0 + 2 * ((i + 1 : Nat) : Int) := by rw [w64 (by omega) (by omega)]; omega
    have r1 : ∀ x, rd_T93 (l.set i x) (i : Int) = x := fun x => by rw [rdA2_nat (by simpa using hi')]; simp
    simp only [laws_markIntA2S.l0, laws_markIntA2S.l1, h1', h0', Int.reduceLT, Int.reduceEq, Int.reduceAdd, c1, c2, ↓reduceIte, w64_nat hi' (by omega : l.length ≤ 9223372036854775807), Int.toNat_natCast, List.length_set, e1, e2, r1, List.set_set]
    refine ev_eq (ih (i + 1) (l.set i _) (by simp; omega) (by simp [hle])) ?_
    rw [List.length_set]
    congr 1
    rw [List.take_add_one]
    simp only [List.getElem?_set_self hi', List.take_set_of_le (Nat.le_refl i)]
    simp only [Option.toList_some, List.append_assoc, List.singleton_append, markedA2]
    congr 3
    omega
theorem ev_laws_markIntA2S (l : List S93) (m : Int) (hl : l.length ≤ 1000000000000) (h0 : 0 ≤ m) (h1 : m ≤ 1000000000) : Ev (fun k => laws_markIntA2S.f k l m) (m + 2 * (l.length : Int), markedA2 m l.length) := by
  unfold laws_markIntA2S.f
  simpa using ev_laws_markIntA2S_l0 l.length hl m h0 h1 l.length 0 l (by omega) rfl

theorem ev_laws_heldIntA2S_l0 (m0 : Int) (n : Nat) (hn : n ≤ 1000000000000) (h0 : 0 ≤ m0) (h1 : m0 ≤ 1000000000) (d : Nat) : ∀ (i : Nat), i + d = n → Ev (fun k => laws_heldIntA2S.l0 k (markedA2 m0 n) (m0 + 2 * (i : Int)) (i : Int)) (m0 + 2 * (n : Int)) := by
  induction d with
  | zero =>
    intro i hi
    refine ev_succ ?_
    have h1 : ¬ (i : Int) < ((markedA2 m0 n).length : Int) := by rw [markedA2_length]; omega
    simp only [laws_heldIntA2S.l0, h1, ↓reduceIte]
    have : i = n := by omega
    subst this
    exact Ev.now _
  | succ d ih =>
    intro i hi
    refine ev_succ (ev_succ (ev_succ (ev_succ ?_)))
    have h1' : (i : Int) < ((markedA2 m0 n).length : Int) := by rw [markedA2_length]; omega
    have h0' : (0 : Int) ≤ (i : Int) := by omega
    have hi' : i < (markedA2 m0 n).length := by rw [markedA2_length]; omega
    have c1 : wrap64 1 = 1 := w64 (by omega) (by omega)
    have c2 : wrap64 2 = 2 := w64 (by omega) (by omega)
    have e1 : wrap64 (m0 + 2 * (i : Int) + 1) = m0 + 2 * (i : Int) + 1 := w64 (by omega) (by omega)
    have e2 : wrap64 (m0 + 2 * (i : Int) + 1 + 1) = m0 + 2 * ((i + 1 : Nat) : Int) := by rw [w64 (by omega) (by omega)]; omega
    have e4 : wrap64 ((i : Int) + 1) = ((i + 1 : Nat) : Int) := w64_nat (n := n) (by omega) (by omega)
    simp only [laws_heldIntA2S.l0, laws_heldIntA2S.l1, h1', h0', Int.reduceLT, Int.reduceEq, Int.reduceAdd, c1, c2, ↓reduceIte, rdA2_nat hi', markedA2_get, e1, e2, e4]
    exact ih (i + 1) (by omega)
theorem ev_laws_heldIntA2S (m : Int) (n : Nat) (hn : n ≤ 1000000000000) (h0 : 0 ≤ m) (h1 : m ≤ 1000000000) : Ev (fun k => laws_heldIntA2S.f k (markedA2 m n) m) (m + 2 * (n : Int)) := by
  unfold laws_heldIntA2S.f
  simpa using ev_laws_heldIntA2S_l0 m n hn h0 h1 n 0 (by omega)

theorem FnExactCrossingPairs (l0 : List (S87)) (h0 : l0.length ≤ 9223372036854775807) (w0 : ∀ y ∈ l0, ((Lit.int .i64 y.f0).wf = true ∧ (Lit.int .i64 y.f1).wf = true ∧ (Lit.int .i64 y.f2).wf = true)) : ∃ k, laws_FnExactCrossingPairs.f k l0 = some true := by
  refine Ev.rounds ?_
  unfold laws_FnExactCrossingPairs.f
  by_cases hn : l0.length ≤ 1048576
  · have ht := ev_laws_toParcelS l0 hn
    have hlm : (l0.map toP).length = l0.length := by simp
    generalize l0.map toP = ll at ht hlm
    have hs := ev_spec_CrossingPairs ll (by omega)
    have hi := ev_impl_CrossingPairs ll (by omega)
    have hv := crossV_length ll
    generalize crossV ll = v at hs hi hv
    obtain ⟨v, b⟩ := v
    dsimp only at hv
    simp only [laws_szParcelS_le l0 hn, Option.bind_some]
    repeat first
      | exact Ev.now _
      | (refine Ev.bind ht ?_; try dsimp only)
      | (refine Ev.bind hs ?_; try dsimp only)
      | (refine Ev.bind hi ?_; try dsimp only)
      | (refine Ev.bind (ev_laws_toParcel _ _ _ (by first | assumption | omega)) ?_; try dsimp only)
      | (refine Ev.bind (ev_laws_toParcelS _ (by first | assumption | omega)) ?_; try dsimp only)
      | (refine Ev.bind (ev_laws_eqParcel_self _ _ _ (by first | assumption | omega)) ?_; try dsimp only)
      | (refine Ev.bind (ev_laws_eqParcelS_self _ (by first | assumption | omega)) ?_; try dsimp only)
      | (refine Ev.bind (ev_laws_markParcelS _ _ (by first | assumption | omega) (by first | assumption | omega) (by first | assumption | omega)) ?_; try dsimp only)
      | (refine Ev.bind (ev_laws_eqIntA2_self _ _ (by first | assumption | omega)) ?_; try dsimp only)
      | (refine Ev.bind (ev_laws_eqIntA2S_self _ (by first | assumption | omega)) ?_; try dsimp only)
      | (refine Ev.bind (ev_laws_markIntA2S _ _ (by first | assumption | omega) (by first | assumption | omega) (by first | assumption | omega)) ?_; try dsimp only)
      | (refine Ev.bind (ev_laws_heldIntA2S _ _ (by first | assumption | omega) (by first | assumption | omega) (by first | assumption | omega)) ?_; try dsimp only)
      | (refine ev_ite (fun h => absurd h (by omega)) (fun _ => ?_))
      | (refine ev_ite (fun _ => ?_) (fun h => absurd (by omega) h))
      | (simp only [bne_self_eq_false, Bool.false_eq_true, ↓reduceIte])
      | (refine ev_succ ?_; simp only [laws_FnExactCrossingPairs.j0])
      | (refine ev_succ ?_; simp only [laws_FnExactCrossingPairs.j1])
      | (refine ev_succ ?_; simp only [laws_FnExactCrossingPairs.j2])
  · simp only [laws_szParcelS_gt l0 h0 (by omega), Option.bind_some]
    exact Ev.now _

end Go.Proofs.Ytjenbljkjmkbfaa.Pure
