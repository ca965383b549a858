/- The pure side of FnDays: what the program's text computes and what the reference's text computes are the same value, for every argument. No condition. -/
import Derived.Test.YtfgclhojgaaepaaPFnDaysx8
namespace Go.Proofs.Ytfgclhojgaaepaa.Pure
open Go.RowKit Go.Proofs.Ytfgclhojgaaepaa.PFnDays Go.Proofs.YtfgclhojgaaepaaW.PrintWords Go.Proofs.YtfgclhojgaaepaaW.PrintLast
set_option linter.unusedVariables false
set_option linter.unusedSimpArgs false

theorem ev_succ {α : Type} {g : Nat → Option α} {r : α} (h : Ev (fun k => g (k + 1)) r) : Ev g r := Ev.step (fun _ => rfl) h
theorem ev_pure {α : Type} {x : Option α} {r : α} (h : x = some r) : Ev (fun _ => x) r := ⟨0, fun _ _ => h⟩
theorem ev_eq {α : Type} {g : Nat → Option α} {r r' : α} (h : Ev g r) (e : r = r') : Ev g r' := e ▸ h
theorem ev_ite {α : Type} {c : Prop} [Decidable c] {g f : Nat → Option α} {r : α} (h1 : c → Ev g r) (h2 : ¬ c → Ev f r) : Ev (fun k => if c then g k else f k) r := by
  by_cases h : c
  · simp only [h, if_true]; exact h1 h
  · simp only [h, if_false]; exact h2 h
theorem w64 {x : Int} (h : -9223372036854775808 ≤ x) (h' : x ≤ 9223372036854775807) : wrap64 x = x := by unfold wrap64; omega
theorem w64_zero : wrap64 0 = 0 := w64 (by omega) (by omega)
theorem w64_idem (x : Int) : wrap64 (wrap64 x) = wrap64 x := by unfold wrap64; omega
theorem w64_add_l (x y : Int) : wrap64 (wrap64 x + y) = wrap64 (x + y) := by unfold wrap64; omega
theorem w64_add_r (x y : Int) : wrap64 (x + wrap64 y) = wrap64 (x + y) := by unfold wrap64; omega
theorem w64_sub_l (x y : Int) : wrap64 (wrap64 x - y) = wrap64 (x - y) := by unfold wrap64; omega
theorem w64_sub_r (x y : Int) : wrap64 (x - wrap64 y) = wrap64 (x - y) := by unfold wrap64; omega
theorem w64_shift (x k : Int) : wrap64 (x + 18446744073709551616 * k) = wrap64 x := by unfold wrap64; omega
theorem w64_ex (x : Int) : ∃ k, wrap64 x = x + 18446744073709551616 * k := by
  unfold wrap64
  exact ⟨-((x + 9223372036854775808) / 18446744073709551616), by omega⟩
theorem w64_mul_l (x y : Int) : wrap64 (wrap64 x * y) = wrap64 (x * y) := by
  obtain ⟨k, hk⟩ := w64_ex x
  rw [hk, Int.add_mul, Int.mul_assoc, w64_shift]
theorem w64_mul_r (x y : Int) : wrap64 (x * wrap64 y) = wrap64 (x * y) := by
  rw [Int.mul_comm, w64_mul_l, Int.mul_comm]
theorem w64_neg (x : Int) : wrap64 (-wrap64 x) = wrap64 (-x) := by unfold wrap64; omega
theorem w64_range (x : Int) : -9223372036854775808 ≤ wrap64 x ∧ wrap64 x ≤ 9223372036854775807 := by unfold wrap64; omega
theorem w64_nat {i n : Nat} (h : i < n) (hn : n ≤ 9223372036854775807) : wrap64 ((i : Int) + 1) = ((i + 1 : Nat) : Int) := by rw [w64 (by omega) (by omega)]; rfl
theorem wf_range {x : Int} (h : (Lit.int .i64 x).wf = true) : -9223372036854775808 ≤ x ∧ x ≤ 9223372036854775807 := by
  simp [Lit.wf, IntKind.min, IntKind.max, IntKind.signed, IntKind.bits] at h
  omega
theorem rd_nat {l : List Int} {i : Nat} (h : i < l.length) : rd l (i : Int) = l[i] := by
  unfold rd
  simp [List.getD_eq_getElem?_getD, h]
def allB (l : List Int) (a b : Int) : Bool := l.all fun x => decide (a ≤ x ∧ x ≤ b)
def inB (x a b : Int) : Bool := decide (a ≤ x ∧ x ≤ b)
theorem allB_mem {l : List Int} {a b : Int} (h : allB l a b = true) : ∀ x ∈ l, a ≤ x ∧ x ≤ b := by
  intro x hx
  have := List.all_eq_true.1 h x hx
  simpa using this
theorem inB_iff {x a b : Int} : inB x a b = true ↔ a ≤ x ∧ x ≤ b := by unfold inB; simp
theorem sum_le {l : List Int} {b : Int} (hb : ∀ x ∈ l, x ≤ b) : l.sum ≤ l.length * b := by
  induction l with
  | nil => simp
  | cons x l ih =>
    have h1 := hb x (by simp)
    have h2 := ih (fun y hy => hb y (by simp [hy]))
    rw [List.sum_cons, List.length_cons]
    have : ((l.length + 1 : Nat) : Int) * b = l.length * b + b := by rw [Int.natCast_add, Int.add_mul]; simp
    rw [this]; omega
theorem le_sum {l : List Int} {b : Int} (hb : ∀ x ∈ l, b ≤ x) : l.length * b ≤ l.sum := by
  induction l with
  | nil => simp
  | cons x l ih =>
    have h1 := hb x (by simp)
    have h2 := ih (fun y hy => hb y (by simp [hy]))
    rw [List.sum_cons, List.length_cons]
    have : ((l.length + 1 : Nat) : Int) * b = l.length * b + b := by rw [Int.natCast_add, Int.add_mul]; simp
    rw [this]; omega
theorem drop_cons {α : Type} {l : List α} {i : Nat} (h : i < l.length) : l.drop i = l[i] :: l.drop (i + 1) := List.drop_eq_getElem_cons h
theorem ev_yes {α : Type} {c : Prop} [Decidable c] {g f : Nat → Option α} {r : α} (h : c) (hg : Ev g r) : Ev (fun k => if c then g k else f k) r := ev_ite (fun _ => hg) (fun hn => absurd h hn)
theorem ev_no {α : Type} {c : Prop} [Decidable c] {g f : Nat → Option α} {r : α} (h : ¬ c) (hf : Ev f r) : Ev (fun k => if c then g k else f k) r := ev_ite (fun hn => absurd hn h) (fun _ => hf)

theorem and255 (x : Int) : 0 ≤ Go.bits .and .u64 x 255 ∧ Go.bits .and .u64 x 255 ≤ 255 := by
  have h : (BitVec.ofInt 64 x &&& BitVec.ofInt 64 255).toNat ≤ 255 := by
    rw [BitVec.toNat_and]
    exact Nat.le_trans Nat.and_le_right (by decide)
  show 0 ≤ IntKind.u64.wrap ((BitVec.ofInt 64 x &&& BitVec.ofInt 64 255).toNat : Int) ∧ IntKind.u64.wrap ((BitVec.ofInt 64 x &&& BitVec.ofInt 64 255).toNat : Int) ≤ 255
  rw [IntKind.wrap_u64]
  omega
def codeOk (l : List Int) : Prop := ∀ x ∈ l, 0 ≤ x ∧ x ≤ 255
def atOk (a : Int) : Prop := 0 ≤ a ∧ a ≤ 1000000000000
theorem atOk_more {a a' : Int} {n : Int} (h : 0 ≤ a ∧ a ≤ 100000000) (h2 : a ≤ a' ∧ a' ≤ a + n) (hn : n ≤ 1000000) : atOk a' := by unfold atOk; omega

theorem spec_l1Cur_next_ok (l : List Int) (a sd : Int) (hl : codeOk l) (ha : atOk a) : ∃ b s', spec_l1Cur_next.f l a sd = some (b, a + 1, s') ∧ 0 ≤ b ∧ b ≤ 255 := by
  unfold atOk at ha
  have e : wrap64 (a + 1) = a + 1 := w64 (by omega) (by omega)
  unfold spec_l1Cur_next.f
  rw [e]
  by_cases h : a < (l.length : Int)
  · have hr : 0 ≤ rd l a ∧ rd l a ≤ 255 := by
      obtain ⟨i, hi⟩ : ∃ i : Nat, a = (i : Int) := ⟨a.toNat, by omega⟩
      subst hi
      rw [rd_nat (by omega)]
      exact hl _ (List.getElem_mem _)
    rw [if_pos h, if_pos ha.1]
    by_cases h2 : a + 1 ≤ (l.length : Int)
    · rw [if_pos h2]
      exact ⟨_, _, rfl, by rw [w64 (by omega) (by omega)]; omega, by rw [w64 (by omega) (by omega)]; omega⟩
    · omega
  · rw [if_neg h]
    by_cases h2 : a + 1 ≤ (l.length : Int)
    · omega
    · rw [if_neg h2]
      generalize hx : (_ : Int) / 1099511627776 = x
      have := and255 x
      refine ⟨_, _, rfl, ?_, ?_⟩ <;> (rw [w64 (by omega) (by omega)]; omega)

theorem spec_l1Cur_pick_ok (l : List Int) (a sd n : Int) (hl : codeOk l) (ha : 0 ≤ a ∧ a ≤ 1000000000) (hn : 1 ≤ n ∧ n ≤ 1000000) : ∃ r a' s', spec_l1Cur_pick.f l a sd n = some (r, a', s') ∧ (0 ≤ r ∧ r < n) ∧ (a ≤ a' ∧ a' ≤ a + 2) := by
  unfold spec_l1Cur_pick.f
  by_cases h1 : n ≤ 1
  · rw [if_pos h1]
    exact ⟨_, _, _, rfl, ⟨by omega, by omega⟩, by omega, by omega⟩
  · rw [if_neg h1]
    obtain ⟨b, s1, e1, hb1, hb2⟩ := spec_l1Cur_next_ok l a sd hl (by unfold atOk; omega)
    rw [e1, Option.bind_some]
    by_cases h2 : n > 200
    · rw [if_pos h2]
      obtain ⟨b2, s2, e2, hc1, hc2⟩ := spec_l1Cur_next_ok l (a + 1) s1 hl (by unfold atOk; omega)
      dsimp only
      rw [e2, Option.bind_some, if_neg (by omega)]
      dsimp only
      rw [w64 (x := b * 256) (by omega) (by omega), w64 (x := b * 256 + b2) (by omega) (by omega)]
      exact ⟨_, _, _, rfl, ⟨Int.tmod_nonneg _ (by omega), Int.tmod_lt_of_pos _ (by omega)⟩, by omega, by omega⟩
    · rw [if_neg h2, if_neg (by omega)]
      exact ⟨_, _, _, rfl, ⟨Int.tmod_nonneg _ hb1, Int.tmod_lt_of_pos _ (by omega)⟩, by dsimp only; omega, by dsimp only; omega⟩

theorem spec_l1Cur_among_ok (l : List Int) (a sd : Int) (L : List Int) (hl : codeOk l) (ha : 0 ≤ a ∧ a ≤ 1000000000) (hL : 1 ≤ L.length ∧ L.length ≤ 1000) : ∃ v a' s', spec_l1Cur_among.f l a sd L = some (v, a', s') ∧ v ∈ L ∧ (a ≤ a' ∧ a' ≤ a + 2) := by
  obtain ⟨r, a', s', e, hr, ha2⟩ := spec_l1Cur_pick_ok l a sd (L.length : Int) hl ha (by omega)
  unfold spec_l1Cur_among.f
  rw [e, Option.bind_some]
  dsimp only
  rw [if_pos hr.1, if_pos hr.2]
  obtain ⟨i, hi⟩ : ∃ i : Nat, r = (i : Int) := ⟨r.toNat, by omega⟩
  subst hi
  exact ⟨_, _, _, rfl, by rw [rd_nat (by omega)]; exact List.getElem_mem _, ha2⟩

theorem ev_spec_l1Cur_stream_l1 (l : List Int) (a sd st : Int) (d : Nat) : ∀ U : List Int, U.length ≤ 100 → 5 ≤ U.length + d → ∃ V, Ev (fun k => spec_l1Cur_stream.l1 k l a sd st U) (st, V, a, sd) ∧ (V.length ≤ U.length ∨ V.length ≤ 5) := by
  induction d with
  | zero =>
    intro U hU hd
    refine ⟨U, ev_succ ?_, by omega⟩
    have h1 : ¬ (U.length : Int) < 5 := by omega
    simp only [spec_l1Cur_stream.l1, h1, ↓reduceIte]
    exact Ev.now _
  | succ d ih =>
    intro U hU hd
    by_cases h1 : (U.length : Int) < 5
    · obtain ⟨V, h2, h3⟩ := ih (U ++ [1]) (by simp; omega) (by simp; omega)
      refine ⟨V, ev_succ ?_, ?_⟩
      · simp only [spec_l1Cur_stream.l1, h1, ↓reduceIte]
        exact ev_yes (by omega) h2
      · simp only [List.length_append, List.length_singleton] at h3
        omega
    · refine ⟨U, ev_succ ?_, by omega⟩
      simp only [spec_l1Cur_stream.l1, h1, ↓reduceIte]
      exact Ev.now _
theorem ev_spec_l1Cur_stream_l0 (l : List Int) (hl : codeOk l) (st : Int) (d : Nat) : ∀ (n a sd : Int) (U : List Int), n ≤ d → U.length ≤ 60 → U.length + d ≤ 60 → 0 ≤ a → a + 2 * (d : Int) ≤ 100000000 → ∃ s2 V a' s', Ev (fun k => spec_l1Cur_stream.l0 k n l a sd st U) (s2, V, a', s') ∧ V.length ≤ U.length + d + 6 ∧ (a ≤ a' ∧ a' ≤ a + 2 * (d : Int) + 4) := by
  have fin : ∀ (a sd : Int) (U : List Int), U.length ≤ 60 → 0 ≤ a → a ≤ 100000000 → ∃ s2 V a' s', Ev (fun k => (spec_l1Cur_pick.f l a sd 40).bind fun bt135 => (if bt135.1 = 0 then ((spec_l1Cur_among.f l bt135.2.1 bt135.2.2 (([200, (-200), 201, (-201), 4611686018427387904] : List Int))).bind fun bt141 => (some (bt141.1, U, bt141.2.1, bt141.2.2))) else (if bt135.1 = 1 then (spec_l1Cur_stream.l1 k l bt135.2.1 bt135.2.2 st U) else (if bt135.1 = 2 then (if (U.length : Int) > 0 then ((spec_l1Cur_among.f l bt135.2.1 bt135.2.2 (([(-1), 40, 41] : List Int))).bind fun bt150 => (if 0 < (U.length : Int) then (some (st, (U.set (0 : Int).toNat bt150.1), bt150.2.1, bt150.2.2)) else (none))) else (some (st, U, bt135.2.1, bt135.2.2))) else (some (st, U, bt135.2.1, bt135.2.2)))))) (s2, V, a', s') ∧ V.length ≤ U.length + 6 ∧ (a ≤ a' ∧ a' ≤ a + 4) := by
    intro a sd U hU ha0 ha1
    obtain ⟨r, a1, s1, e1, hr, ha2⟩ := spec_l1Cur_pick_ok l a sd 40 hl (by omega) (by omega)
    simp only [e1, Option.bind_some]
    by_cases c0 : r = 0
    · obtain ⟨v, a2, s2, e2, hv, ha3⟩ := spec_l1Cur_among_ok l a1 s1 [200, (-200), 201, (-201), 4611686018427387904] hl (by omega) (by simp)
      simp only [c0, if_true, e2, Option.bind_some]
      exact ⟨_, _, _, _, Ev.now _, by omega, by omega, by omega⟩
    · by_cases c1 : r = 1
      · obtain ⟨V, h2, h3⟩ := ev_spec_l1Cur_stream_l1 l a1 s1 st 5 U (by omega) (by omega)
        simp only [c0, c1, if_false, if_true]
        exact ⟨_, V, _, _, h2, by omega, by omega, by omega⟩
      · by_cases c2 : r = 2
        · simp only [c0, c1, c2, if_false, if_true]
          by_cases c3 : (U.length : Int) > 0
          · obtain ⟨v, a2, s2, e2, hv, ha3⟩ := spec_l1Cur_among_ok l a1 s1 [(-1), 40, 41] hl (by omega) (by simp)
            have c4 : 0 < (U.length : Int) := by omega
            simp only [c3, c4, if_true, e2, Option.bind_some]
            exact ⟨_, _, _, _, Ev.now _, by rw [List.length_set]; omega, by omega, by omega⟩
          · simp only [c3, if_false]
            exact ⟨_, _, _, _, Ev.now _, by omega, by omega, by omega⟩
        · simp only [c0, c1, c2, if_false]
          exact ⟨_, _, _, _, Ev.now _, by omega, by omega, by omega⟩
  induction d with
  | zero =>
    intro n a sd U hn hU hd ha hb
    obtain ⟨s2, V, a', s', h1, h2, h3⟩ := fin a sd U (by omega) ha (by omega)
    refine ⟨s2, V, a', s', ev_succ ?_, by omega, by omega, by omega⟩
    have c : ¬ n > 0 := by omega
    simp only [spec_l1Cur_stream.l0, c, ↓reduceIte]
    exact h1
  | succ d ih =>
    intro n a sd U hn hU hd ha hb
    by_cases c : n > 0
    · obtain ⟨v, a1, s1, e1, hv, ha2⟩ := spec_l1Cur_among_ok l a sd [0, 0, 2, 5, 9] hl (by omega) (by simp)
      by_cases hU2 : U.length + 1 ≤ 60
      · obtain ⟨s2, V, a', s', h1, h2, h3⟩ := ih (n - 1) a1 s1 (U ++ [v]) (by omega) (by simp; omega) (by simp; omega) (by omega) (by omega)
        rw [List.length_append, List.length_singleton] at h2
        refine ⟨s2, V, a', s', ev_succ ?_, by omega, by omega, by omega⟩
        by_cases hbig : n ≤ 9223372036854775807
        · have e2 : wrap64 (n - 1) = n - 1 := w64 (by omega) (by omega)
          simp only [spec_l1Cur_stream.l0, c, e1, e2, ↓reduceIte, Option.bind_some]
          exact ev_yes (by omega) h1
        · omega
      · exfalso; omega
    · obtain ⟨s2, V, a', s', h1, h2, h3⟩ := fin a sd U (by omega) ha (by omega)
      refine ⟨s2, V, a', s', ev_succ ?_, by omega, by omega, by omega⟩
      simp only [spec_l1Cur_stream.l0, c, ↓reduceIte]
      exact h1
theorem ev_spec_l1Cur_stream (l : List Int) (a sd : Int) (hl : codeOk l) (ha : 0 ≤ a ∧ a ≤ 1000000) : ∃ st U a' s', Ev (fun k => spec_l1Cur_stream.f k l a sd) (st, U, a', s') ∧ U.length ≤ 20 ∧ (a ≤ a' ∧ a' ≤ a + 30) := by
  unfold spec_l1Cur_stream.f
  obtain ⟨v, a1, s1, e1, hv, ha1⟩ := spec_l1Cur_among_ok l a sd [0, 3, 8, 15, (-4), 40] hl (by omega) (by simp)
  obtain ⟨n, a2, s2, e2, hn, ha2⟩ := spec_l1Cur_among_ok l a1 s1 [2, 1, 3, 0, 4] hl (by omega) (by simp)
  have hn4 : n ≤ 4 := by simp at hn; omega
  obtain ⟨s3, V, a', s', h1, h2, h3⟩ := ev_spec_l1Cur_stream_l0 l hl v 4 n a2 s2 [] (by omega) (by simp) (by simp) (by omega) (by omega)
  simp only [e1, e2, Option.bind_some]
  simp only [List.length_nil] at h2
  exact ⟨s3, V, a', s', h1, by omega, by omega, by omega⟩

theorem ev_spec_DrawDayOf (l : List Int) (hl : codeOk l) : ∃ st U o q, Ev (fun k => spec_DrawDayOf.f k l) (st, U, o, q) ∧ U.length ≤ 20 := by
  unfold spec_DrawDayOf.f
  obtain ⟨st, U, a1, s1, h1, h2, h3⟩ := ev_spec_l1Cur_stream l 0 0 hl (by omega)
  obtain ⟨o, a2, s2, e2, _, ha2⟩ := spec_l1Cur_among_ok l a1 s1 [0, 1, 5, 10, 40, 41, (-1), 3] hl (by omega) (by simp)
  obtain ⟨q, a3, s3, e3, _, ha3⟩ := spec_l1Cur_among_ok l a2 s2 [0, 1, 4, 8, 20, 21, (-1), 2] hl (by omega) (by simp)
  refine ⟨st, U, o, q, Ev.bind h1 ?_, h2⟩
  simp only [e2, e3, Option.bind_some]
  exact Ev.now _

theorem impl_within_f (a b c : Int) : impl_within.f a b c = some (inB a b c) := by
  unfold impl_within.f inB
  by_cases h : a ≥ b
  · rw [if_pos h]; congr 1; rw [decide_eq_decide]; omega
  · rw [if_neg h]; congr 1; symm; rw [decide_eq_false_iff_not]; omega

theorem impl_isStock_f (a : Int) : impl_isStock.f a = some (inB a (-200) 200) := by
  unfold impl_isStock.f
  rw [impl_within_f, Option.bind_some]

theorem ev_impl_allWithin_l0 (a b : Int) (l : List Int) (hl : l.length ≤ 9223372036854775807) (d : Nat) : ∀ i : Nat, i + d = l.length → Ev (fun k => impl_allWithin.l0 k a b l (l.length : Int) (i : Int)) (allB (l.drop i) a b) := by
  induction d with
  | zero =>
    intro i hi
    refine ev_succ ?_
    have h1 : ¬ (i : Int) < (l.length : Int) := by omega
    simp only [impl_allWithin.l0, h1, ↓reduceIte]
    rw [List.drop_eq_nil_of_le (by omega)]
    exact Ev.now _
  | succ d ih =>
    intro i hi
    refine ev_succ ?_
    have h1 : (i : Int) < (l.length : Int) := by omega
    have h0 : (0 : Int) ≤ (i : Int) := by omega
    have hi' : i < l.length := by omega
    simp only [impl_allWithin.l0, h1, h0, ↓reduceIte, impl_within_f, Option.bind_some, rd_nat hi', w64_nat hi' hl]
    rw [drop_cons hi']
    show Ev _ (inB l[i] a b && allB (l.drop (i + 1)) a b)
    cases inB l[i] a b with
    | true => simpa using ih (i + 1) (by omega)
    | false => simpa using Ev.now false
theorem ev_impl_allWithin (l : List Int) (a b : Int) (hl : l.length ≤ 9223372036854775807) : Ev (fun k => impl_allWithin.f k l a b) (allB l a b) := by
  unfold impl_allWithin.f
  simpa using ev_impl_allWithin_l0 a b l hl l.length 0 (by omega)

def flowB (a : Int) (l : List Int) : Bool := inB a (-200) 200 && (decide ((l.length : Int) ≤ 4) && allB l 0 40)
theorem flowB_mem {a : Int} {l : List Int} (h : flowB a l = true) : (-200 ≤ a ∧ a ≤ 200) ∧ l.length ≤ 4 ∧ ∀ x ∈ l, 0 ≤ x ∧ x ≤ 40 := by
  unfold flowB at h
  simp only [Bool.and_eq_true, decide_eq_true_eq] at h
  exact ⟨inB_iff.1 h.1, by omega, allB_mem h.2.2⟩

theorem ev_impl_IsFlow (a : Int) (l : List Int) (hl : l.length ≤ 9223372036854775807) : Ev (fun k => impl_IsFlow.f k a l) (flowB a l) := by
  unfold impl_IsFlow.f flowB
  simp only [impl_isStock_f, Option.bind_some]
  refine ev_ite (fun h => ?_) (fun h => ?_)
  · refine ev_ite (fun h2 => ?_) (fun h2 => ?_)
    · refine Ev.bind (ev_impl_allWithin l 0 40 hl) ?_
      refine ev_eq (Ev.now _) ?_
      simp [h, h2]
    · refine ev_eq (Ev.now _) ?_
      simp [h, h2]
  · refine ev_eq (Ev.now _) ?_
    simp [h]

theorem impl_copied_f (l : List Int) (hl : l.length ≤ 1000000000) : impl_copied.f l = some l := by
  unfold impl_copied.f
  simp only [Option.bind_some, List.length_nil, List.nil_append]
  rw [if_pos (by omega)]

/-- The flow behind a day: its stock, and what is under way. -/
def dayStock (a : Int) (l : List Int) (o q : Int) : Int := wrap64 (wrap64 (a + rd (l ++ [o]) 0) - q)
def dayUnder (l : List Int) (o : Int) : List Int := (l ++ [o]).drop 1
def dayBefore (a : Int) (l : List Int) (o : Int) : Int := wrap64 (a + rd (l ++ [o]) 0)
theorem dayUnder_length (l : List Int) (o : Int) : (dayUnder l o).length = l.length := by simp [dayUnder]
def dayV (a : Int) (l : List Int) (o q : Int) : Int × List Int × Bool :=
  if (flowB a l && (inB o 0 40 && inB q 0 20) && flowB (dayStock a l o q) (dayUnder l o)) = true then (dayStock a l o q, dayUnder l o, true) else (0, [], false)
theorem dayV_length {a : Int} {l : List Int} {o q : Int} (hl : l.length ≤ 9223372036854775807) : (dayV a l o q).2.1.length ≤ 4 := by
  unfold dayV
  split
  · rename_i h
    simp only [Bool.and_eq_true] at h
    have := flowB_mem h.2
    exact this.2.1
  · simp

theorem ev_impl_Flow_day_no (a : Int) (l : List Int) (o q : Int) : Ev (fun k => impl_Flow_day.j0 k o q true a l) (0, [], 0, false) := by
  refine ev_succ ?_
  simp only [impl_Flow_day.j0, ↓reduceIte]
  exact Ev.now _
def fdayV (a : Int) (l : List Int) (o q : Int) : Int × List Int × Int × Bool :=
  if (inB o 0 40 && inB q 0 20) = true then (dayStock a l o q, dayUnder l o, mx 0 (mn q (dayBefore a l o)), flowB (dayStock a l o q) (dayUnder l o)) else (0, [], 0, false)
theorem ev_impl_Flow_day (a : Int) (l : List Int) (o q : Int) (hl : l.length ≤ 100000000) : Ev (fun k => impl_Flow_day.f k a l o q) (fdayV a l o q) := by
  unfold impl_Flow_day.f fdayV
  simp only [impl_within_f, Option.bind_some]
  cases h2 : inB o 0 40 with
  | false => exact ev_eq (ev_impl_Flow_day_no a l o q) (by simp)
  | true =>
    cases h3 : inB q 0 20 with
    | false => exact ev_eq (ev_impl_Flow_day_no a l o q) (by simp)
    | true =>
      simp only [Bool.not_true, Bool.false_eq_true, ↓reduceIte]
      refine ev_succ ?_
      have h1 : (0 : Int) < ((l ++ [o]).length : Int) := by rw [List.length_append]; simp only [List.length_cons, List.length_nil]; omega
      have h4 : (1 : Int) ≤ ((l ++ [o]).length : Int) := by rw [List.length_append]; simp only [List.length_cons, List.length_nil]; omega
      have h5 : l.length < 17592186044416 := by omega
      simp only [impl_Flow_day.j0, Bool.false_eq_true, ↓reduceIte, impl_copied_f l (by omega), Option.bind_some, h1, h4, h5]
      refine Ev.bind (ev_impl_IsFlow _ _ (by simp; omega)) ?_
      exact Ev.now _

theorem ev_impl_DayOf (a : Int) (l : List Int) (o q : Int) (hl : l.length ≤ 9223372036854775807) : Ev (fun k => impl_DayOf.f k a l o q) (dayV a l o q) := by
  unfold impl_DayOf.f dayV
  refine Ev.bind (ev_impl_IsFlow a l hl) ?_
  refine ev_ite (fun h1 => ?_) (fun h1 => ?_)
  · have hm := flowB_mem h1
    refine Ev.bind (ev_impl_Flow_day a l o q (by omega)) ?_
    unfold fdayV
    cases h2 : (inB o 0 40 && inB q 0 20) with
    | false => exact ev_eq (Ev.now _) (by simp)
    | true =>
      simp only [↓reduceIte]
      refine ev_ite (fun h4 => ?_) (fun h4 => ?_)
      · exact ev_eq (Ev.now _) (by rw [h1, h4]; rfl)
      · exact ev_eq (Ev.now _) (by simp [h4])
  · exact ev_eq (Ev.now _) (by simp [h1])

theorem spec_l1In_f (a b c : Int) : spec_l1In.f a b c = some (inB a b c) := by
  unfold spec_l1In.f inB
  by_cases h : a ≥ b
  · rw [if_pos h]; congr 1; rw [decide_eq_decide]; omega
  · rw [if_neg h]; congr 1; symm; rw [decide_eq_false_iff_not]; omega

theorem ev_spec_l2Row_l0 (n b : Int) (l : List Int) (hl : l.length ≤ 9223372036854775807) (d : Nat) : ∀ i : Nat, i + d = l.length → Ev (fun k => spec_l2Row.l0 k l n b (i : Int)) (allB (l.drop i) 0 b && ((l.length : Int) == n)) := by
  induction d with
  | zero =>
    intro i hi
    refine ev_succ ?_
    have h1 : ¬ (i : Int) < (l.length : Int) := by omega
    simp only [spec_l2Row.l0, h1, ↓reduceIte]
    rw [List.drop_eq_nil_of_le (by omega)]
    exact Ev.now _
  | succ d ih =>
    intro i hi
    refine ev_succ ?_
    have h1 : (i : Int) < (l.length : Int) := by omega
    have h0 : (0 : Int) ≤ (i : Int) := by omega
    have hi' : i < l.length := by omega
    simp only [spec_l2Row.l0, h1, h0, ↓reduceIte, spec_l1In_f, Option.bind_some, rd_nat hi', w64_nat hi' hl]
    rw [drop_cons hi']
    show Ev _ ((inB l[i] 0 b && allB (l.drop (i + 1)) 0 b) && _)
    cases inB l[i] 0 b with
    | true => simpa using ih (i + 1) (by omega)
    | false => simpa using Ev.now false
theorem ev_spec_l2Row (l : List Int) (n b : Int) (hl : l.length ≤ 9223372036854775807) : Ev (fun k => spec_l2Row.f k l n b) (allB l 0 b && ((l.length : Int) == n)) := by
  unfold spec_l2Row.f
  simpa using ev_spec_l2Row_l0 n b l hl l.length 0 (by omega)

theorem ev_spec_l11Numbers (l : List Int) (n b : Int) (hl : l.length ≤ 9223372036854775807) : Ev (fun k => spec_l11Numbers.f k l n b) (decide ((l.length : Int) ≤ n) && allB l 0 b) := by
  unfold spec_l11Numbers.f
  refine ev_ite (fun h => ?_) (fun h => ?_)
  · refine Ev.bind (ev_spec_l2Row l _ b hl) ?_
    refine ev_eq (Ev.now _) ?_
    simp [h]
  · refine ev_eq (Ev.now _) ?_
    simp [h]

theorem ev_spec_l11Flow (a : Int) (l : List Int) (hl : l.length ≤ 9223372036854775807) : Ev (fun k => spec_l11Flow.f k a l) (flowB a l) := by
  unfold spec_l11Flow.f flowB
  simp only [spec_l1In_f, Option.bind_some]
  refine ev_ite (fun h => ?_) (fun h => ?_)
  · refine Ev.bind (ev_spec_l11Numbers l 4 40 hl) ?_
    refine ev_eq (Ev.now _) ?_
    simp [h]
  · refine ev_eq (Ev.now _) ?_
    simp [h]

theorem spec_l1Own_f (l : List Int) (hl : l.length ≤ 1000000000) : spec_l1Own.f l = some l := by
  unfold spec_l1Own.f
  simp only [Option.bind_some, List.length_nil, List.nil_append]
  rw [if_pos (by omega)]

theorem spec_l11Day_f (a : Int) (l : List Int) (o q : Int) (hl : l.length ≤ 100000000) : spec_l11Day.f a l o q = some (dayStock a l o q, dayUnder l o, dayBefore a l o) := by
  unfold spec_l11Day.f
  have h1 : (0 : Int) < ((l ++ [o]).length : Int) := by rw [List.length_append]; simp only [List.length_cons, List.length_nil]; omega
  have h2 : (1 : Int) ≤ ((l ++ [o]).length : Int) := by rw [List.length_append]; simp only [List.length_cons, List.length_nil]; omega
  have h3 : l.length < 17592186044416 := by omega
  simp only [spec_l1Own_f l (by omega), Option.bind_some, h1, h2, h3, ↓reduceIte]
  rw [spec_l1Own_f _ (by simp; omega), Option.bind_some]
  rfl

theorem ev_spec_DayOf_no (a : Int) (l : List Int) (o q : Int) : Ev (fun k => spec_DayOf.j0 k o q true a l) (0, [], false) := by
  refine ev_succ ?_
  simp only [spec_DayOf.j0, ↓reduceIte]
  exact Ev.now _
theorem ev_spec_DayOf (a : Int) (l : List Int) (o q : Int) (hl : l.length ≤ 9223372036854775807) : Ev (fun k => spec_DayOf.f k a l o q) (dayV a l o q) := by
  unfold spec_DayOf.f dayV
  simp only [spec_l1In_f, Option.bind_some]
  refine Ev.bind (ev_spec_l11Flow a l hl) ?_
  refine ev_ite (fun h1 => ?_) (fun h1 => ?_)
  · have hm := flowB_mem h1
    refine ev_ite (fun h2 => ?_) (fun h2 => ?_)
    · cases h3 : inB q 0 20 with
      | false => exact ev_eq (ev_spec_DayOf_no a l o q) (by simp)
      | true =>
        refine ev_succ ?_
        simp only [spec_DayOf.j0, Bool.not_true, Bool.false_eq_true, ↓reduceIte, spec_l11Day_f a l o q (by omega), Option.bind_some]
        refine Ev.bind (ev_spec_l11Flow _ _ (by rw [dayUnder_length]; omega)) ?_
        refine ev_ite (fun h4 => ?_) (fun h4 => ?_)
        · exact ev_eq (Ev.now _) (by rw [h1, h2, h4]; rfl)
        · exact ev_eq (Ev.now _) (by simp [h4])
    · exact ev_eq (ev_spec_DayOf_no a l o q) (by simp [h2])
  · exact ev_eq (ev_spec_DayOf_no a l o q) (by simp [h1])

theorem ev_laws_rInts_l0 (l : List Int) (hl : l.length ≤ 9223372036854775807) (d : Nat) : ∀ (i : Nat), i + d = l.length → Ev (fun k => laws_rInts.l0 k l l (i : Int)) true := by
  induction d with
  | zero =>
    intro i hi
    refine ev_succ ?_
    have h1 : ¬ (i : Int) < (l.length : Int) := by omega
    simp only [laws_rInts.l0, h1, ↓reduceIte]
    exact Ev.now _
  | succ d ih =>
    intro i hi
    refine ev_succ ?_
    have h1 : (i : Int) < (l.length : Int) := by omega
    have h0 : (0 : Int) ≤ (i : Int) := by omega
    have hi' : i < l.length := by omega
    simp only [laws_rInts.l0, h1, h0, ↓reduceIte, w64_nat hi' hl]
    exact ih (i + 1) (by omega)
theorem ev_laws_rInts_self (l : List Int) (hl : l.length ≤ 9223372036854775807) : Ev (fun k => laws_rInts.f k l l) true := by
  unfold laws_rInts.f
  simp only [if_true]
  exact ev_laws_rInts_l0 l hl l.length 0 (by omega)

theorem ev_impl_total_l0 (l : List Int) (hl : l.length ≤ 9223372036854775807) (d : Nat) : ∀ (i : Nat) (s : Int), i + d = l.length → wrap64 s = s → Ev (fun k => impl_total.l0 k s l (l.length : Int) (i : Int)) (wrap64 (s + (l.drop i).sum)) := by
  induction d with
  | zero =>
    intro i s hi hs
    refine ev_succ ?_
    have h1 : ¬ (i : Int) < (l.length : Int) := by omega
    simp only [impl_total.l0, h1, ↓reduceIte]
    rw [List.drop_eq_nil_of_le (by omega)]
    simp only [List.sum_nil, Int.add_zero, hs]
    exact Ev.now _
  | succ d ih =>
    intro i s hi hs
    refine ev_succ ?_
    have h1 : (i : Int) < (l.length : Int) := by omega
    have h0 : (0 : Int) ≤ (i : Int) := by omega
    have hi' : i < l.length := by omega
    simp only [impl_total.l0, h1, h0, ↓reduceIte, rd_nat hi', w64_nat hi' hl]
    refine ev_eq (ih (i + 1) _ (by omega) (w64_idem _)) ?_
    rw [drop_cons hi', List.sum_cons, w64_add_l, Int.add_assoc]
theorem ev_impl_total (l : List Int) (hl : l.length ≤ 9223372036854775807) : Ev (fun k => impl_total.f k l) (wrap64 l.sum) := by
  unfold impl_total.f
  simpa using ev_impl_total_l0 l hl l.length 0 0 (by omega) w64_zero

def posV (a : Int) (l : List Int) : Int × Bool := if flowB a l = true then (wrap64 (a + wrap64 l.sum), true) else (0, false)

theorem ev_impl_PositionOf (a : Int) (l : List Int) (hl : l.length ≤ 9223372036854775807) : Ev (fun k => impl_PositionOf.f k a l) (posV a l) := by
  unfold impl_PositionOf.f posV
  refine Ev.bind (ev_impl_IsFlow a l hl) ?_
  refine ev_ite (fun h => ?_) (fun h => ?_)
  · refine Ev.bind (ev_impl_total l hl) ?_
    refine ev_eq (Ev.now _) ?_
    simp [h]
  · refine ev_eq (Ev.now _) ?_
    simp [h]

theorem ev_spec_l2Sum_l0 (l : List Int) (hl : l.length ≤ 9223372036854775807) (d : Nat) : ∀ (i : Nat) (s : Int), i + d = l.length → wrap64 s = s → Ev (fun k => spec_l2Sum.l0 k l s (i : Int)) (wrap64 (s + (l.drop i).sum)) := by
  induction d with
  | zero =>
    intro i s hi hs
    refine ev_succ ?_
    have h1 : ¬ (i : Int) < (l.length : Int) := by omega
    simp only [spec_l2Sum.l0, h1, ↓reduceIte]
    rw [List.drop_eq_nil_of_le (by omega)]
    simp only [List.sum_nil, Int.add_zero, hs]
    exact Ev.now _
  | succ d ih =>
    intro i s hi hs
    refine ev_succ ?_
    have h1 : (i : Int) < (l.length : Int) := by omega
    have h0 : (0 : Int) ≤ (i : Int) := by omega
    have hi' : i < l.length := by omega
    simp only [spec_l2Sum.l0, h1, h0, ↓reduceIte, rd_nat hi', w64_nat hi' hl]
    refine ev_eq (ih (i + 1) _ (by omega) (w64_idem _)) ?_
    rw [drop_cons hi', List.sum_cons, w64_add_l, Int.add_assoc]
theorem ev_spec_l2Sum (l : List Int) (hl : l.length ≤ 9223372036854775807) : Ev (fun k => spec_l2Sum.f k l) (wrap64 l.sum) := by
  unfold spec_l2Sum.f
  simpa using ev_spec_l2Sum_l0 l hl l.length 0 0 (by omega) w64_zero

theorem ev_spec_l11Position (a : Int) (l : List Int) (hl : l.length ≤ 9223372036854775807) : Ev (fun k => spec_l11Position.f k a l) (wrap64 (a + wrap64 l.sum)) := by
  unfold spec_l11Position.f
  refine Ev.bind (ev_spec_l2Sum l hl) ?_
  exact Ev.now _

theorem ev_spec_PositionOf (a : Int) (l : List Int) (hl : l.length ≤ 9223372036854775807) : Ev (fun k => spec_PositionOf.f k a l) (posV a l) := by
  unfold spec_PositionOf.f posV
  refine Ev.bind (ev_spec_l11Flow a l hl) ?_
  refine ev_ite (fun h => ?_) (fun h => ?_)
  · refine Ev.bind (ev_spec_l11Position a l hl) ?_
    refine ev_eq (Ev.now _) ?_
    simp [h]
  · refine ev_eq (Ev.now _) ?_
    simp [h]

theorem ev_spec_l1Cur_calls_l1 (l : List Int) (a sd : Int) (d : Nat) : ∀ U : List Int, U.length ≤ 100 → 21 ≤ U.length + d → ∃ V, Ev (fun k => spec_l1Cur_calls.l1 k U l a sd) (V, a, sd) ∧ V.length ≤ U.length + d := by
  induction d with
  | zero =>
    intro U hU hd
    refine ⟨U, ev_succ ?_, by omega⟩
    have h1 : ¬ (U.length : Int) < 21 := by omega
    simp only [spec_l1Cur_calls.l1, h1, ↓reduceIte]
    exact Ev.now _
  | succ d ih =>
    intro U hU hd
    by_cases h1 : (U.length : Int) < 21
    · obtain ⟨V, h2, h3⟩ := ih (U ++ [1]) (by simp; omega) (by simp; omega)
      rw [List.length_append, List.length_singleton] at h3
      refine ⟨V, ev_succ ?_, by omega⟩
      simp only [spec_l1Cur_calls.l1, h1, ↓reduceIte]
      exact ev_yes (by omega) h2
    · refine ⟨U, ev_succ ?_, by omega⟩
      simp only [spec_l1Cur_calls.l1, h1, ↓reduceIte]
      exact Ev.now _
theorem ev_spec_l1Cur_calls_fin (l : List Int) (hl : codeOk l) (a sd : Int) (U : List Int) (hU : U.length ≤ 60) (ha0 : 0 ≤ a) (ha1 : a ≤ 100000000) : ∃ V a' s', Ev (fun k => (spec_l1Cur_pick.f l a sd 40).bind fun bt282 => (if bt282.1 = 0 then (spec_l1Cur_calls.l1 k U l bt282.2.1 bt282.2.2) else (if bt282.1 = 1 then (if (U.length : Int) > 0 then ((spec_l1Cur_among.f l bt282.2.1 bt282.2.2 (([(-1), 20, 21] : List Int))).bind fun bt291 => (if 0 < (U.length : Int) then (some ((U.set (0 : Int).toNat bt291.1), bt291.2.1, bt291.2.2)) else (none))) else (some (U, bt282.2.1, bt282.2.2))) else (some (U, bt282.2.1, bt282.2.2))))) (V, a', s') ∧ V.length ≤ U.length + 21 ∧ (a ≤ a' ∧ a' ≤ a + 4) := by
  obtain ⟨r, a1, s1, e1, hr, ha2⟩ := spec_l1Cur_pick_ok l a sd 40 hl (by omega) (by omega)
  simp only [e1, Option.bind_some]
  by_cases c0 : r = 0
  · obtain ⟨V, h2, h3⟩ := ev_spec_l1Cur_calls_l1 l a1 s1 21 U (by omega) (by omega)
    simp only [c0, if_true]
    exact ⟨V, _, _, h2, by omega, by omega, by omega⟩
  · by_cases c1 : r = 1
    · simp only [c0, c1, if_false, if_true]
      by_cases c3 : (U.length : Int) > 0
      · obtain ⟨v, a2, s2, e2, hv, ha3⟩ := spec_l1Cur_among_ok l a1 s1 [(-1), 20, 21] hl (by omega) (by simp)
        have c4 : 0 < (U.length : Int) := by omega
        simp only [c3, c4, if_true, e2, Option.bind_some]
        exact ⟨_, _, _, Ev.now _, by rw [List.length_set]; omega, by omega, by omega⟩
      · simp only [c3, if_false]
        exact ⟨_, _, _, Ev.now _, by omega, by omega, by omega⟩
    · simp only [c0, c1, if_false]
      exact ⟨_, _, _, Ev.now _, by omega, by omega, by omega⟩
theorem ev_spec_l1Cur_calls_l0 (l : List Int) (hl : codeOk l) (d : Nat) : ∀ (n a sd : Int) (U : List Int), n ≤ d → U.length + d ≤ 60 → 0 ≤ a → a + 2 * (d : Int) ≤ 100000000 → ∃ V a' s', Ev (fun k => spec_l1Cur_calls.l0 k U n l a sd) (V, a', s') ∧ V.length ≤ U.length + d + 21 ∧ (a ≤ a' ∧ a' ≤ a + 2 * (d : Int) + 4) := by
  induction d with
  | zero =>
    intro n a sd U hn hd ha hb
    obtain ⟨V, a', s', h1, h2, h3⟩ := ev_spec_l1Cur_calls_fin l hl a sd U (by omega) ha (by omega)
    refine ⟨V, a', s', ev_succ ?_, by omega, by omega, by omega⟩
    have c : ¬ n > 0 := by omega
    simp only [spec_l1Cur_calls.l0, c, ↓reduceIte]
    exact h1
  | succ d ih =>
    intro n a sd U hn hd ha hb
    by_cases c : n > 0
    · obtain ⟨v, a1, s1, e1, hv, ha2⟩ := spec_l1Cur_among_ok l a sd [0, 1, 2, 3, 5, 8] hl (by omega) (by simp)
      obtain ⟨V, a', s', h1, h2, h3⟩ := ih (n - 1) a1 s1 (U ++ [v]) (by omega) (by simp; omega) (by omega) (by omega)
      rw [List.length_append, List.length_singleton] at h2
      refine ⟨V, a', s', ev_succ ?_, by omega, by omega, by omega⟩
      have e2 : wrap64 (n - 1) = n - 1 := w64 (by omega) (by omega)
      simp only [spec_l1Cur_calls.l0, c, e1, e2, ↓reduceIte, Option.bind_some]
      exact ev_yes (by omega) h1
    · obtain ⟨V, a', s', h1, h2, h3⟩ := ev_spec_l1Cur_calls_fin l hl a sd U (by omega) ha (by omega)
      refine ⟨V, a', s', ev_succ ?_, by omega, by omega, by omega⟩
      simp only [spec_l1Cur_calls.l0, c, ↓reduceIte]
      exact h1
theorem ev_spec_l1Cur_calls (l : List Int) (a sd : Int) (hl : codeOk l) (ha : 0 ≤ a ∧ a ≤ 1000000) : ∃ U a' s', Ev (fun k => spec_l1Cur_calls.f k l a sd) (U, a', s') ∧ U.length ≤ 100 ∧ (a ≤ a' ∧ a' ≤ a + 50) := by
  unfold spec_l1Cur_calls.f
  obtain ⟨n, a2, s2, e2, hn, ha2⟩ := spec_l1Cur_among_ok l a sd [5, 8, 3, 1, 0, 12, 20] hl (by omega) (by simp)
  have hn4 : n ≤ 20 := by simp at hn; omega
  obtain ⟨V, a', s', h1, h2, h3⟩ := ev_spec_l1Cur_calls_l0 l hl 20 n a2 s2 [] (by omega) (by simp) (by omega) (by omega)
  simp only [e2, Option.bind_some]
  simp only [List.length_nil] at h2
  exact ⟨V, a', s', h1, by omega, by omega, by omega⟩

theorem spec_l1Cur_rate_ok (l : List Int) (a sd : Int) (hl : codeOk l) (ha : 0 ≤ a ∧ a ≤ 1000000000) : ∃ v a' s', spec_l1Cur_rate.f l a sd = some (v, a', s') ∧ (a ≤ a' ∧ a' ≤ a + 2) := by
  obtain ⟨v, a', s', e, hv, ha2⟩ := spec_l1Cur_among_ok l a sd [1, 2, 3, 9, 0, 5, 10, (-1)] hl ha (by simp)
  unfold spec_l1Cur_rate.f
  rw [e, Option.bind_some]
  exact ⟨_, _, _, rfl, ha2⟩

theorem ev_spec_DrawBestUpTo (l : List Int) (hl : codeOk l) : ∃ U n h b, Ev (fun k => spec_DrawBestUpTo.f k l) (U, n, h, b) ∧ U.length ≤ 100 := by
  unfold spec_DrawBestUpTo.f
  obtain ⟨U, a1, s1, h1, h2, h3⟩ := ev_spec_l1Cur_calls l 0 0 hl (by omega)
  obtain ⟨n, a2, s2, e2, _, ha2⟩ := spec_l1Cur_among_ok l a1 s1 [0, 1, 2, 3, 4, 5, (-1)] hl (by omega) (by simp)
  obtain ⟨h, a3, s3, e3, ha3⟩ := spec_l1Cur_rate_ok l a2 s2 hl (by omega)
  obtain ⟨b, a4, s4, e4, ha4⟩ := spec_l1Cur_rate_ok l a3 s3 hl (by omega)
  refine ⟨U, n, h, b, Ev.bind h1 ?_, h2⟩
  simp only [e2, e3, e4, Option.bind_some]
  exact Ev.now _

def needsFrom (l : List Int) (lead i d : Nat) : List Int := (List.range' i d).map fun j => wrap64 ((l.take (j + lead + 1)).drop j).sum
def askedB (l : List Int) (lead : Int) : Bool := (decide ((l.length : Int) ≤ 20) && allB l 0 20) && inB lead 0 4
def needsV (l : List Int) (lead : Int) : List Int := needsFrom l lead.toNat 0 (l.length - lead.toNat)
theorem needsFrom_length (l : List Int) (lead i d : Nat) : (needsFrom l lead i d).length = d := by simp [needsFrom]
theorem needsFrom_range {l : List Int} (hl : l.length ≤ 20) (h : ∀ x ∈ l, 0 ≤ x ∧ x ≤ 20) (lead i d : Nat) : ∀ x ∈ needsFrom l lead i d, 0 ≤ x ∧ x ≤ 400 := by
  intro x hx
  unfold needsFrom at hx
  obtain ⟨j, _, rfl⟩ := List.mem_map.1 hx
  have hm : ∀ y ∈ ((l.take (j + lead + 1)).drop j), 0 ≤ y ∧ y ≤ 20 := fun y hy => h y (List.mem_of_mem_take (List.mem_of_mem_drop hy))
  have h1 := sum_le (b := 20) (fun y hy => (hm y hy).2)
  have h2 := le_sum (b := 0) (fun y hy => (hm y hy).1)
  have h3 : ((l.take (j + lead + 1)).drop j).length ≤ 20 := by
    rw [List.length_drop, List.length_take]; omega
  rw [w64 (by omega) (by omega)]
  omega
theorem askedB_mem {l : List Int} {lead : Int} (h : askedB l lead = true) : l.length ≤ 20 ∧ (∀ x ∈ l, 0 ≤ x ∧ x ≤ 20) ∧ 0 ≤ lead ∧ lead ≤ 4 := by
  unfold askedB at h
  simp only [Bool.and_eq_true, decide_eq_true_eq] at h
  exact ⟨by omega, allB_mem h.1.2, inB_iff.1 h.2⟩
theorem needs_step (l : List Int) (lead i d : Nat) : needsFrom l lead i (d + 1) = wrap64 ((l.take (i + lead + 1)).drop i).sum :: needsFrom l lead (i + 1) d := by
  simp [needsFrom, List.range'_succ]

def leadV (l : List Int) (lead : Int) : List Int × Bool := if askedB l lead = true then (needsV l lead, true) else ([], false)
theorem leadV_length {l : List Int} {lead : Int} (h : l.length ≤ 9223372036854775807) : (leadV l lead).1.length ≤ 20 := by
  unfold leadV
  split
  · rename_i h
    have := askedB_mem h
    simp only [needsV, needsFrom_length]
    omega
  · simp

theorem ev_impl_LeadNeeds_l0 (l : List Int) (lead : Nat) (hl : l.length ≤ 20) (hlead : lead ≤ 4) (d : Nat) : ∀ (i : Nat) (acc : List Int), acc.length ≤ i → (i + lead + d = l.length ∨ (d = 0 ∧ l.length ≤ i + lead)) → i ≤ 20 →
    Ev (fun k => impl_LeadNeeds.l0 k l (lead : Int) acc (i : Int)) (acc ++ needsFrom l lead i d, true) := by
  induction d with
  | zero =>
    intro i acc ha hi hi2
    refine ev_succ ?_
    have e1 : wrap64 ((i : Int) + (lead : Int)) = ((i + lead : Nat) : Int) := by rw [w64 (by omega) (by omega)]; omega
    have h1 : ¬ ((i + lead : Nat) : Int) < (l.length : Int) := by omega
    simp only [impl_LeadNeeds.l0, e1, h1, ↓reduceIte]
    exact ev_eq (Ev.now _) (by simp [needsFrom])
  | succ d ih =>
    intro i acc ha hi hi2
    refine ev_succ ?_
    have e1 : wrap64 ((i : Int) + (lead : Int)) = ((i + lead : Nat) : Int) := by rw [w64 (by omega) (by omega)]; omega
    have e2 : wrap64 (((i + lead : Nat) : Int) + 1) = ((i + lead + 1 : Nat) : Int) := by rw [w64 (by omega) (by omega)]; omega
    have e3 : wrap64 ((i : Int) + 1) = ((i + 1 : Nat) : Int) := by rw [w64 (by omega) (by omega)]; omega
    have h1 : ((i + lead : Nat) : Int) < (l.length : Int) := by omega
    have h2 : (0 : Int) ≤ (i : Int) := by omega
    have h3 : (i : Int) ≤ ((i + lead + 1 : Nat) : Int) := by omega
    have h4 : ((i + lead + 1 : Nat) : Int) ≤ (l.length : Int) := by omega
    have h5 : acc.length < 17592186044416 := by omega
    simp only [impl_LeadNeeds.l0, e1, e2, e3, h1, h2, h3, h4, h5, ↓reduceIte, Int.toNat_natCast]
    refine Ev.bind (ev_impl_total _ (by rw [List.length_drop, List.length_take]; omega)) ?_
    refine ev_eq (ih (i + 1) (acc ++ [wrap64 ((l.take (i + lead + 1)).drop i).sum]) (by simp; omega) (by omega) (by omega)) ?_
    rw [needs_step]; simp
theorem ev_impl_LeadNeeds_j0_no (l : List Int) (lead : Int) : Ev (fun k => impl_LeadNeeds.j0 k l lead true) ([], false) := by
  refine ev_succ ?_
  simp only [impl_LeadNeeds.j0, ↓reduceIte]
  exact Ev.now _
theorem ev_impl_LeadNeeds (l : List Int) (lead : Int) (hl : l.length ≤ 9223372036854775807) : Ev (fun k => impl_LeadNeeds.f k l lead) (leadV l lead) := by
  unfold impl_LeadNeeds.f leadV
  refine ev_ite (fun h => ?_) (fun h => ?_)
  · refine ev_eq (ev_impl_LeadNeeds_j0_no l lead) ?_
    have : askedB l lead = false := by
      cases hb : askedB l lead with
      | false => rfl
      | true => have := askedB_mem hb; omega
    simp [this]
  · refine Ev.bind (ev_impl_allWithin l 0 20 hl) ?_
    refine ev_ite (fun h2 => ?_) (fun h2 => ?_)
    · simp only [impl_within_f, Option.bind_some]
      cases h3 : inB lead 0 4 with
      | false =>
        refine ev_eq (ev_impl_LeadNeeds_j0_no l lead) ?_
        simp [askedB, h3]
      | true =>
        have hb : askedB l lead = true := by unfold askedB; simp [h2, h3]; omega
        have hm := askedB_mem hb
        refine ev_succ ?_
        simp only [impl_LeadNeeds.j0, Bool.not_true, Bool.false_eq_true, ↓reduceIte]
        have := ev_impl_LeadNeeds_l0 l lead.toNat hm.1 (by omega) (l.length - lead.toNat) 0 [] (by simp) (by omega) (by omega)
        rw [show ((lead.toNat : Nat) : Int) = lead by omega] at this
        refine ev_eq this ?_
        simp [hb, needsV]
    · refine ev_eq (ev_impl_LeadNeeds_j0_no l lead) ?_
      simp [askedB, h2]

def cst (h b x : Int) : Int := if x > 0 then wrap64 (h * x) else wrap64 (wrap64 (-b) * x)
def ratesB (h b : Int) : Bool := inB h 0 9 && inB b 0 9
def costV (l : List Int) (h b : Int) : Int := wrap64 (l.map (cst h b)).sum
def stockV (l : List Int) (h b : Int) : Int × Bool := if (decide ((l.length : Int) ≤ 20) && ratesB h b && allB l (-200) 200) = true then (costV l h b, true) else (0, false)
theorem ratesB_mem {h b : Int} (hr : ratesB h b = true) : (0 ≤ h ∧ h ≤ 9) ∧ 0 ≤ b ∧ b ≤ 9 := by
  unfold ratesB at hr
  simp only [Bool.and_eq_true, inB_iff] at hr
  exact hr
theorem cst_impl {h b x : Int} (hh : 0 ≤ h ∧ h ≤ 9) (hb : 0 ≤ b ∧ b ≤ 9) (hx : -100000 ≤ x ∧ x ≤ 100000) : wrap64 (wrap64 (h * mx 0 x) + wrap64 (b * mx 0 (wrap64 (-x)))) = cst h b x := by
  have e : wrap64 (-x) = -x := w64 (by omega) (by omega)
  have e2 : wrap64 (-b) = -b := w64 (by omega) (by omega)
  rw [e]
  unfold cst
  rw [e2]
  by_cases hp : x > 0
  · have m1 : mx 0 x = x := by unfold mx; omega
    have m2 : mx 0 (-x) = 0 := by unfold mx; omega
    rw [m1, m2, if_pos hp, Int.mul_zero, w64_add_l, w64_add_r, Int.add_zero]
  · have m1 : mx 0 x = 0 := by unfold mx; omega
    have m2 : mx 0 (-x) = -x := by unfold mx; omega
    rw [m1, m2, if_neg hp, Int.mul_zero, w64_add_l, w64_add_r, Int.zero_add, Int.mul_neg, Int.neg_mul]
theorem cst_range {h b x : Int} (hh : 0 ≤ h ∧ h ≤ 9) (hb : 0 ≤ b ∧ b ≤ 9) (hx : -100000 ≤ x ∧ x ≤ 100000) : 0 ≤ cst h b x ∧ cst h b x ≤ 900000 := by
  unfold cst
  rw [w64 (x := -b) (by omega) (by omega)]
  by_cases hp : x > 0
  · rw [if_pos hp]
    have h1 : 0 ≤ h * x := Int.mul_nonneg hh.1 (by omega)
    have h2 : h * x ≤ 9 * x := Int.mul_le_mul_of_nonneg_right hh.2 (by omega)
    rw [w64 (by omega) (by omega)]
    omega
  · rw [if_neg hp, Int.neg_mul, ← Int.mul_neg]
    have h1 : 0 ≤ b * -x := Int.mul_nonneg hb.1 (by omega)
    have h2 : b * -x ≤ 9 * -x := Int.mul_le_mul_of_nonneg_right hb.2 (by omega)
    rw [w64 (by omega) (by omega)]
    omega

theorem impl_areBillRates_f (h b : Int) : impl_areBillRates.f h b = some (ratesB h b) := by
  unfold impl_areBillRates.f ratesB
  simp only [impl_within_f, Option.bind_some]
  cases inB h 0 9 <;> simp

theorem ev_impl_charged_l0 (h b : Int) (hh : 0 ≤ h ∧ h ≤ 9) (hb : 0 ≤ b ∧ b ≤ 9) (l : List Int) (hl : l.length ≤ 9223372036854775807) (hx : ∀ x ∈ l, -100000 ≤ x ∧ x ≤ 100000) (d : Nat) : ∀ (i : Nat) (s : Int), i + d = l.length → wrap64 s = s →
    Ev (fun k => impl_charged.l0 k h b s l (l.length : Int) (i : Int)) (wrap64 (s + ((l.drop i).map (cst h b)).sum)) := by
  induction d with
  | zero =>
    intro i s hi hs
    refine ev_succ ?_
    have h1 : ¬ (i : Int) < (l.length : Int) := by omega
    simp only [impl_charged.l0, h1, ↓reduceIte]
    rw [List.drop_eq_nil_of_le (by omega)]
    exact ev_eq (Ev.now _) (by simp [hs])
  | succ d ih =>
    intro i s hi hs
    refine ev_succ ?_
    have h1 : (i : Int) < (l.length : Int) := by omega
    have h0 : (0 : Int) ≤ (i : Int) := by omega
    have hi' : i < l.length := by omega
    simp only [impl_charged.l0, h1, h0, ↓reduceIte, rd_nat hi', w64_nat hi' hl, cst_impl hh hb (hx l[i] (List.getElem_mem hi'))]
    refine ev_eq (ih (i + 1) _ (by omega) (w64_idem _)) ?_
    rw [drop_cons hi', List.map_cons, List.sum_cons, w64_add_l, Int.add_assoc]
theorem ev_impl_charged (l : List Int) (h b : Int) (hl : l.length ≤ 9223372036854775807) (hr : ratesB h b = true) (hx : ∀ x ∈ l, -100000 ≤ x ∧ x ≤ 100000) : Ev (fun k => impl_charged.f k l h b) (costV l h b) := by
  have hm := ratesB_mem hr
  unfold impl_charged.f costV
  simpa using ev_impl_charged_l0 h b hm.1 hm.2 l hl hx l.length 0 0 (by omega) w64_zero

def bup (c : Nat → Int) : Nat → Int × Int
  | 0 => (0, c 0)
  | n + 1 => if c (n + 1) < (bup c n).2 then (((n + 1 : Nat) : Int), c (n + 1)) else bup c n
theorem bup_yes {c : Nat → Int} {n : Nat} (h : c (n + 1) < (bup c n).2) : bup c (n + 1) = (((n + 1 : Nat) : Int), c (n + 1)) := by
  rw [bup]; exact if_pos h
theorem bup_no {c : Nat → Int} {n : Nat} (h : ¬ c (n + 1) < (bup c n).2) : bup c (n + 1) = bup c n := by
  rw [bup]; exact if_neg h
def upCost (needs : List Int) (h b : Int) (s : Nat) : Int := costV (needs.map fun x => (s : Int) - x) h b
def bupV (l : List Int) (lead h b : Int) : Int × Int × Bool :=
  if (askedB l lead && ratesB h b) = true then ((bup (upCost (needsV l lead) h b) 200).1, (bup (upCost (needsV l lead) h b) 200).2, true) else (0, 0, false)
theorem bup_mem (c : Nat → Int) (lo hi : Int) (h : ∀ s, s ≤ 200 → lo ≤ c s ∧ c s ≤ hi) : ∀ n, n ≤ 200 → lo ≤ (bup c n).2 ∧ (bup c n).2 ≤ hi
  | 0, _ => h 0 (by omega)
  | n + 1, hn => by
    unfold bup
    split
    · exact h (n + 1) hn
    · exact bup_mem c lo hi h n (by omega)
theorem upCost_range {needs : List Int} {h b : Int} (hr : ratesB h b = true) (hn : needs.length ≤ 20) (hx : ∀ x ∈ needs, 0 ≤ x ∧ x ≤ 400) (s : Nat) (hs : s ≤ 200) : 0 ≤ upCost needs h b s ∧ upCost needs h b s ≤ 18000000 := by
  have hm := ratesB_mem hr
  have hc : ∀ y ∈ (needs.map fun x => (s : Int) - x).map (cst h b), 0 ≤ y ∧ y ≤ 900000 := by
    intro y hy
    obtain ⟨z, hz, rfl⟩ := List.mem_map.1 hy
    obtain ⟨x, hx2, rfl⟩ := List.mem_map.1 hz
    have := hx x hx2
    exact cst_range hm.1 hm.2 (by omega)
  have h1 := sum_le (b := 900000) (fun y hy => (hc y hy).2)
  have h2 := le_sum (b := 0) (fun y hy => (hc y hy).1)
  simp only [List.length_map] at h1 h2
  unfold upCost costV
  rw [w64 (by omega) (by omega)]
  omega

theorem ev_impl_BestUpTo_l1 (h b best least : Int) (hr : ratesB h b = true) (s : Nat) (hs : s ≤ 200) (needs : List Int) (hl : needs.length ≤ 20) (hx : ∀ x ∈ needs, 0 ≤ x ∧ x ≤ 400) (r : Int × Int × Bool)
    (K : Ev (fun k => if upCost needs h b s < least then impl_BestUpTo.l0 k h b needs (s : Int) (upCost needs h b s) (wrap64 ((s : Int) + 1)) else impl_BestUpTo.l0 k h b needs best least (wrap64 ((s : Int) + 1))) r) (d : Nat) :
    ∀ (i : Nat), i + d = needs.length → Ev (fun k => impl_BestUpTo.l1 k h b needs best least (s : Int) ((needs.take i).map fun x => (s : Int) - x) (s : Int) needs (needs.length : Int) (i : Int)) r := by
  induction d with
  | zero =>
    intro i hi
    refine ev_succ ?_
    have h1 : ¬ (i : Int) < (needs.length : Int) := by omega
    simp only [impl_BestUpTo.l1, h1, ↓reduceIte]
    rw [List.take_of_length_le (by omega)]
    refine Ev.bind (ev_impl_charged _ h b (by simp; omega) hr ?_) ?_
    · intro y hy
      obtain ⟨x, hx2, rfl⟩ := List.mem_map.1 hy
      have := hx x hx2
      omega
    · exact K
  | succ d ih =>
    intro i hi
    refine ev_succ ?_
    have h1 : (i : Int) < (needs.length : Int) := by omega
    have h0 : (0 : Int) ≤ (i : Int) := by omega
    have hi' : i < needs.length := by omega
    have hxi := hx needs[i] (List.getElem_mem hi')
    have e : wrap64 ((s : Int) - needs[i]) = (s : Int) - needs[i] := w64 (by omega) (by omega)
    have h3 : ((needs.take i).map fun x => (s : Int) - x).length < 17592186044416 := by simp; omega
    simp only [impl_BestUpTo.l1, h1, h0, h3, ↓reduceIte, rd_nat hi', w64_nat hi' (by omega : needs.length ≤ 9223372036854775807), e]
    have := ih (i + 1) (by omega)
    rw [List.take_add_one, List.getElem?_eq_getElem hi', Option.toList_some, List.map_append, List.map_cons, List.map_nil] at this
    exact this
theorem ev_impl_BestUpTo_l0 (h b : Int) (hr : ratesB h b = true) (needs : List Int) (hl : needs.length ≤ 20) (hx : ∀ x ∈ needs, 0 ≤ x ∧ x ≤ 400) (d : Nat) :
    ∀ n : Nat, n + d = 200 → Ev (fun k => impl_BestUpTo.l0 k h b needs (bup (upCost needs h b) n).1 (bup (upCost needs h b) n).2 ((n + 1 : Nat) : Int)) ((bup (upCost needs h b) 200).1, (bup (upCost needs h b) 200).2, true) := by
  induction d with
  | zero =>
    intro n hn
    refine ev_succ ?_
    have h1 : ¬ ((n + 1 : Nat) : Int) < 201 := by omega
    simp only [impl_BestUpTo.l0, h1, ↓reduceIte]
    obtain rfl : n = 200 := by omega
    exact Ev.now _
  | succ d ih =>
    intro n hn
    refine ev_succ ?_
    have h1 : ((n + 1 : Nat) : Int) < 201 := by omega
    simp only [impl_BestUpTo.l0, h1, ↓reduceIte]
    refine ev_impl_BestUpTo_l1 h b _ _ hr (n + 1) (by omega) needs hl hx _ ?_ needs.length 0 (by omega)
    have e : wrap64 (((n + 1 : Nat) : Int) + 1) = ((n + 1 + 1 : Nat) : Int) := by rw [w64 (by omega) (by omega)]; omega
    rw [e]
    have := ih (n + 1) (by omega)
    by_cases hc : upCost needs h b (n + 1) < (bup (upCost needs h b) n).2
    · simp only [hc, ↓reduceIte]
      rw [bup_yes hc] at this
      exact this
    · simp only [hc, ↓reduceIte]
      rw [bup_no hc] at this
      exact this
theorem ev_impl_BestUpTo_j0_no (h b : Int) (needs : List Int) : Ev (fun k => impl_BestUpTo.j0 k h b needs true) (0, 0, false) := by
  refine ev_succ ?_
  simp only [impl_BestUpTo.j0, ↓reduceIte]
  exact Ev.now _
theorem ev_impl_BestUpTo (l : List Int) (lead h b : Int) (hl : l.length ≤ 9223372036854775807) : Ev (fun k => impl_BestUpTo.f k l lead h b) (bupV l lead h b) := by
  unfold impl_BestUpTo.f bupV
  simp only [impl_areBillRates_f, Option.bind_some]
  refine Ev.bind (ev_impl_LeadNeeds l lead hl) ?_
  unfold leadV
  cases ha : askedB l lead with
  | false =>
    simp only [Bool.false_eq_true, ↓reduceIte]
    exact ev_eq (ev_impl_BestUpTo_j0_no _ _ _) (by simp)
  | true =>
    simp only [↓reduceIte]
    cases hr : ratesB h b with
    | false => exact ev_eq (ev_impl_BestUpTo_j0_no _ _ _) (by simp)
    | true =>
      have hm := askedB_mem ha
      have hx : ∀ x ∈ needsV l lead, 0 ≤ x ∧ x ≤ 400 := needsFrom_range hm.1 hm.2.1 _ _ _
      have hn : (needsV l lead).length ≤ 20 := by simp only [needsV, needsFrom_length]; omega
      refine ev_succ ?_
      simp only [impl_BestUpTo.j0, Bool.not_true, Bool.false_eq_true, ↓reduceIte]
      refine ev_succ ?_
      have h0 : (0 : Int) < 201 := by omega
      simp only [impl_BestUpTo.l0, h0, ↓reduceIte]
      refine ev_impl_BestUpTo_l1 h b _ _ hr 0 (by omega) (needsV l lead) hn hx _ ?_ (needsV l lead).length 0 (by omega)
      have e : wrap64 (((0 : Nat) : Int) + 1) = ((0 + 1 : Nat) : Int) := by rw [w64 (by omega) (by omega)]; omega
      have hu := upCost_range hr hn hx 0 (by omega)
      have hc : upCost (needsV l lead) h b 0 < 1099511627776 := by omega
      rw [e]
      simp only [hc, ↓reduceIte]
      refine ev_eq (ev_impl_BestUpTo_l0 h b hr (needsV l lead) hn hx 200 0 (by omega)) ?_
      simp

theorem ev_spec_l11Asked (l : List Int) (lead : Int) (hl : l.length ≤ 9223372036854775807) : Ev (fun k => spec_l11Asked.f k l lead) (askedB l lead) := by
  unfold spec_l11Asked.f askedB
  refine Ev.bind (ev_spec_l11Numbers l 20 20 hl) ?_
  refine ev_ite (fun h => ?_) (fun h => ?_)
  · simp only [spec_l1In_f, Option.bind_some]
    exact ev_eq (Ev.now _) (by simp [h])
  · exact ev_eq (Ev.now _) (by simp [h])

theorem spec_l11Rates_f (h b : Int) : spec_l11Rates.f h b = some (ratesB h b) := by
  unfold spec_l11Rates.f ratesB
  simp only [spec_l1In_f, Option.bind_some]
  cases inB h 0 9 <;> simp

theorem ev_spec_l11Needs_l0 (l : List Int) (lead : Nat) (hl : l.length ≤ 20) (hlead : lead ≤ 4) (d : Nat) : ∀ (i : Nat) (acc : List Int), acc.length ≤ i → (i + lead + d = l.length ∨ (d = 0 ∧ l.length ≤ i + lead)) → i ≤ 20 →
    Ev (fun k => spec_l11Needs.l0 k l (lead : Int) acc (i : Int)) (acc ++ needsFrom l lead i d) := by
  induction d with
  | zero =>
    intro i acc ha hi hi2
    refine ev_succ ?_
    have e1 : wrap64 ((i : Int) + (lead : Int)) = ((i + lead : Nat) : Int) := by rw [w64 (by omega) (by omega)]; omega
    have h1 : ¬ ((i + lead : Nat) : Int) < (l.length : Int) := by omega
    simp only [spec_l11Needs.l0, e1, h1, ↓reduceIte]
    exact ev_eq (Ev.now _) (by simp [needsFrom])
  | succ d ih =>
    intro i acc ha hi hi2
    refine ev_succ ?_
    have e1 : wrap64 ((i : Int) + (lead : Int)) = ((i + lead : Nat) : Int) := by rw [w64 (by omega) (by omega)]; omega
    have e2 : wrap64 (((i + lead : Nat) : Int) + 1) = ((i + lead + 1 : Nat) : Int) := by rw [w64 (by omega) (by omega)]; omega
    have e3 : wrap64 ((i : Int) + 1) = ((i + 1 : Nat) : Int) := by rw [w64 (by omega) (by omega)]; omega
    have h1 : ((i + lead : Nat) : Int) < (l.length : Int) := by omega
    have h2 : (0 : Int) ≤ (i : Int) := by omega
    have h3 : (i : Int) ≤ ((i + lead + 1 : Nat) : Int) := by omega
    have h4 : ((i + lead + 1 : Nat) : Int) ≤ (l.length : Int) := by omega
    have h5 : acc.length < 17592186044416 := by omega
    simp only [spec_l11Needs.l0, e1, e2, e3, h1, h2, h3, h4, h5, ↓reduceIte, Int.toNat_natCast]
    refine Ev.bind (ev_spec_l2Sum _ (by rw [List.length_drop, List.length_take]; omega)) ?_
    refine ev_eq (ih (i + 1) (acc ++ [wrap64 ((l.take (i + lead + 1)).drop i).sum]) (by simp; omega) (by omega) (by omega)) ?_
    rw [needs_step]; simp
theorem ev_spec_l11Needs (l : List Int) (lead : Int) (hl : l.length ≤ 20) (h0 : 0 ≤ lead) (h4 : lead ≤ 4) : Ev (fun k => spec_l11Needs.f k l lead) (needsV l lead) := by
  unfold spec_l11Needs.f needsV
  have := ev_spec_l11Needs_l0 l lead.toNat hl (by omega) (l.length - lead.toNat) 0 [] (by simp) (by omega) (by omega)
  rw [show ((lead.toNat : Nat) : Int) = lead by omega] at this
  simpa using this

theorem spec_l11Cost_f (x h b : Int) : spec_l11Cost.f x h b = some (cst h b x) := by
  unfold spec_l11Cost.f cst
  split <;> rfl

theorem ev_spec_BestUpTo_l1 (h b best least : Int) (s : Nat) (hs : s ≤ 200) (needs : List Int) (hl : needs.length ≤ 20) (hx : ∀ x ∈ needs, 0 ≤ x ∧ x ≤ 400) (r : Int × Int × Bool)
    (K : Ev (fun k => if least < 0 then spec_BestUpTo.l0 k h b needs (s : Int) (upCost needs h b s) (wrap64 ((s : Int) + 1)) else if upCost needs h b s < least then spec_BestUpTo.l0 k h b needs (s : Int) (upCost needs h b s) (wrap64 ((s : Int) + 1)) else spec_BestUpTo.l0 k h b needs best least (wrap64 ((s : Int) + 1))) r) (d : Nat) :
    ∀ (i : Nat) (sum : Int), i + d = needs.length → wrap64 sum = sum → wrap64 (sum + ((needs.drop i).map fun x => cst h b ((s : Int) - x)).sum) = upCost needs h b s → Ev (fun k => spec_BestUpTo.l1 k h b needs best least (s : Int) sum (i : Int)) r := by
  induction d with
  | zero =>
    intro i sum hi hw hsum
    refine ev_succ ?_
    have h1 : ¬ (i : Int) < (needs.length : Int) := by omega
    simp only [spec_BestUpTo.l1, h1, ↓reduceIte]
    rw [List.drop_eq_nil_of_le (by omega), List.map_nil, List.sum_nil, Int.add_zero, hw] at hsum
    rw [hsum]
    exact K
  | succ d ih =>
    intro i sum hi hw hsum
    refine ev_succ ?_
    have h1 : (i : Int) < (needs.length : Int) := by omega
    have h0 : (0 : Int) ≤ (i : Int) := by omega
    have hi' : i < needs.length := by omega
    have hxi := hx needs[i] (List.getElem_mem hi')
    have e : wrap64 ((s : Int) - needs[i]) = (s : Int) - needs[i] := w64 (by omega) (by omega)
    simp only [spec_BestUpTo.l1, h1, h0, ↓reduceIte, rd_nat hi', w64_nat hi' (by omega : needs.length ≤ 9223372036854775807), e, spec_l11Cost_f, Option.bind_some]
    refine ih (i + 1) _ (by omega) (w64_idem _) ?_
    rw [← hsum, drop_cons hi', List.map_cons, List.sum_cons, w64_add_l, Int.add_assoc]
theorem ev_spec_BestUpTo_l0 (h b : Int) (hr : ratesB h b = true) (needs : List Int) (hl : needs.length ≤ 20) (hx : ∀ x ∈ needs, 0 ≤ x ∧ x ≤ 400) (d : Nat) :
    ∀ n : Nat, n + d = 200 → Ev (fun k => spec_BestUpTo.l0 k h b needs (bup (upCost needs h b) n).1 (bup (upCost needs h b) n).2 ((n + 1 : Nat) : Int)) ((bup (upCost needs h b) 200).1, (bup (upCost needs h b) 200).2, true) := by
  induction d with
  | zero =>
    intro n hn
    refine ev_succ ?_
    have h1 : ¬ ((n + 1 : Nat) : Int) ≤ 200 := by omega
    simp only [spec_BestUpTo.l0, h1, ↓reduceIte]
    obtain rfl : n = 200 := by omega
    exact Ev.now _
  | succ d ih =>
    intro n hn
    refine ev_succ ?_
    have h1 : ((n + 1 : Nat) : Int) ≤ 200 := by omega
    simp only [spec_BestUpTo.l0, h1, ↓reduceIte]
    refine ev_spec_BestUpTo_l1 h b _ _ (n + 1) (by omega) needs hl hx _ ?_ needs.length 0 0 (by omega) w64_zero ?_
    · have hm := bup_mem (upCost needs h b) 0 18000000 (fun s hs => upCost_range hr hl hx s hs) n (by omega)
      have e : wrap64 (((n + 1 : Nat) : Int) + 1) = ((n + 1 + 1 : Nat) : Int) := by rw [w64 (by omega) (by omega)]; omega
      rw [e]
      have h2 : ¬ (bup (upCost needs h b) n).2 < 0 := by omega
      simp only [h2, ↓reduceIte]
      have := ih (n + 1) (by omega)
      by_cases hc : upCost needs h b (n + 1) < (bup (upCost needs h b) n).2
      · simp only [hc, ↓reduceIte]
        rw [bup_yes hc] at this
        exact this
      · simp only [hc, ↓reduceIte]
        rw [bup_no hc] at this
        exact this
    · simp [upCost, costV, Function.comp_def]
theorem ev_spec_BestUpTo_j0_no (l : List Int) (lead h b : Int) : Ev (fun k => spec_BestUpTo.j0 k l lead h b true) (0, 0, false) := by
  refine ev_succ ?_
  simp only [spec_BestUpTo.j0, ↓reduceIte]
  exact Ev.now _
theorem ev_spec_BestUpTo (l : List Int) (lead h b : Int) (hl : l.length ≤ 9223372036854775807) : Ev (fun k => spec_BestUpTo.f k l lead h b) (bupV l lead h b) := by
  unfold spec_BestUpTo.f bupV
  simp only [spec_l11Rates_f, Option.bind_some]
  refine Ev.bind (ev_spec_l11Asked l lead hl) ?_
  refine ev_ite (fun ha => ?_) (fun ha => ?_)
  · cases hr : ratesB h b with
    | false => exact ev_eq (ev_spec_BestUpTo_j0_no _ _ _ _) (by simp)
    | true =>
      have hm := askedB_mem ha
      have hx : ∀ x ∈ needsV l lead, 0 ≤ x ∧ x ≤ 400 := needsFrom_range hm.1 hm.2.1 _ _ _
      have hn : (needsV l lead).length ≤ 20 := by simp only [needsV, needsFrom_length]; omega
      refine ev_succ ?_
      simp only [spec_BestUpTo.j0, Bool.not_true, Bool.false_eq_true, ↓reduceIte]
      refine Ev.bind (ev_spec_l11Needs l lead hm.1 hm.2.2.1 hm.2.2.2) ?_
      refine ev_succ ?_
      have h0 : (0 : Int) ≤ 200 := by omega
      simp only [spec_BestUpTo.l0, h0, ↓reduceIte]
      refine ev_spec_BestUpTo_l1 h b _ _ 0 (by omega) (needsV l lead) hn hx _ ?_ (needsV l lead).length 0 0 (by omega) w64_zero ?_
      · have e : wrap64 (((0 : Nat) : Int) + 1) = ((0 + 1 : Nat) : Int) := by rw [w64 (by omega) (by omega)]; omega
        rw [e]
        simp only [show ((-1 : Int) < 0) = True from by simp, ↓reduceIte]
        refine ev_eq (ev_spec_BestUpTo_l0 h b hr (needsV l lead) hn hx 200 0 (by omega)) ?_
        simp [ha]
      · simp [upCost, costV, Function.comp_def]
  · exact ev_eq (ev_spec_BestUpTo_j0_no _ _ _ _) (by simp [ha])

theorem ev_spec_LeadNeeds (l : List Int) (lead : Int) (hl : l.length ≤ 9223372036854775807) : Ev (fun k => spec_LeadNeeds.f k l lead) (leadV l lead) := by
  unfold spec_LeadNeeds.f leadV
  refine Ev.bind (ev_spec_l11Asked l lead hl) ?_
  refine ev_ite (fun h => ?_) (fun h => ?_)
  · have hm := askedB_mem h
    refine Ev.bind (ev_spec_l11Needs l lead hm.1 hm.2.2.1 hm.2.2.2) ?_
    exact ev_eq (Ev.now _) (by simp [h])
  · exact ev_eq (Ev.now _) (by simp [h])

theorem ev_impl_StockCost (l : List Int) (h b : Int) (hl : l.length ≤ 9223372036854775807) : Ev (fun k => impl_StockCost.f k l h b) (stockV l h b) := by
  unfold impl_StockCost.f stockV
  simp only [impl_areBillRates_f, Option.bind_some]
  refine ev_ite (fun hc => ?_) (fun hc => ?_)
  · exact ev_eq (Ev.now _) (by rw [if_neg]; simp; omega)
  · refine Ev.bind (ev_impl_allWithin l _ _ hl) ?_
    have h20 : (l.length : Int) ≤ 20 := by omega
    refine ev_ite (fun ha => ?_) (fun ha => ?_)
    · refine ev_ite (fun hr => ?_) (fun hr => ?_)
      · refine Ev.bind (ev_impl_charged l h b hl hr (fun x hx => by have := allB_mem ha x hx; omega)) ?_
        exact ev_eq (Ev.now _) (by simp [ha, hr, h20])
      · exact ev_eq (Ev.now _) (by simp [hr])
    · exact ev_eq (Ev.now _) (by simp [ha])

theorem spec_l1Cur_one_ok (l : List Int) (a sd n : Int) (hl : codeOk l) (ha : 0 ≤ a ∧ a ≤ 1000000000) (hn : 1 ≤ n ∧ n ≤ 1000000) : ∃ r a' s', spec_l1Cur_one.f l a sd n = some (r, a', s') ∧ (a ≤ a' ∧ a' ≤ a + 2) := by
  obtain ⟨r, a', s', e, hr, ha2⟩ := spec_l1Cur_pick_ok l a sd n hl ha hn
  unfold spec_l1Cur_one.f
  rw [e, Option.bind_some]
  exact ⟨_, _, _, rfl, ha2⟩

theorem ev_spec_DrawStockCost_j1 (l : List Int) (hl : codeOk l) (x : Bool) (a sd : Int) (U : List Int) (ha : 0 ≤ a ∧ a ≤ 100000000) (hx : x = true → 0 < U.length) : ∃ V h b, Ev (fun k => spec_DrawStockCost.j1 k U x l a sd) (V, h, b) ∧ V.length = U.length := by
  cases x with
  | true =>
    obtain ⟨v, a1, s1, e1, _, ha1⟩ := spec_l1Cur_among_ok l a sd [200, (-200), 201, (-201)] hl (by omega) (by simp)
    obtain ⟨h, a3, s3, e3, ha3⟩ := spec_l1Cur_rate_ok l a1 s1 hl (by omega)
    obtain ⟨b, a4, s4, e4, ha4⟩ := spec_l1Cur_rate_ok l a3 s3 hl (by omega)
    have h0 : 0 < (U.length : Int) := by have := hx rfl; omega
    refine ⟨U.set (0 : Int).toNat v, h, b, ev_succ ?_, List.length_set⟩
    simp only [spec_DrawStockCost.j1, ↓reduceIte, e1, e3, e4, h0, Option.bind_some]
    exact Ev.now _
  | false =>
    obtain ⟨h, a3, s3, e3, ha3⟩ := spec_l1Cur_rate_ok l a sd hl (by omega)
    obtain ⟨b, a4, s4, e4, ha4⟩ := spec_l1Cur_rate_ok l a3 s3 hl (by omega)
    refine ⟨U, h, b, ev_succ ?_, rfl⟩
    simp only [spec_DrawStockCost.j1, Bool.false_eq_true, ↓reduceIte, e3, e4, Option.bind_some]
    exact Ev.now _
theorem ev_spec_DrawStockCost_fin (l : List Int) (hl : codeOk l) (a sd : Int) (U : List Int) (ha : 0 ≤ a ∧ a ≤ 10000000) : ∃ V h b, Ev (fun k => if (U.length : Int) > 0 then ((spec_l1Cur_one.f l a sd 20).bind fun bt393 => (spec_DrawStockCost.j1 k U bt393.1 l bt393.2.1 bt393.2.2)) else (spec_DrawStockCost.j1 k U false l a sd)) (V, h, b) ∧ V.length = U.length := by
  by_cases c : (U.length : Int) > 0
  · obtain ⟨r, a1, s1, e1, ha1⟩ := spec_l1Cur_one_ok l a sd 20 hl (by omega) (by omega)
    obtain ⟨V, h, b, h1, h2⟩ := ev_spec_DrawStockCost_j1 l hl r a1 s1 U (by omega) (fun _ => by omega)
    simp only [c, if_true, e1, Option.bind_some]
    exact ⟨V, h, b, h1, h2⟩
  · simp only [c, if_false]
    exact ev_spec_DrawStockCost_j1 l hl false a sd U (by omega) (fun h => by simp at h)
theorem ev_spec_DrawStockCost_l0 (l : List Int) (hl : codeOk l) (d : Nat) : ∀ (n a sd : Int) (U : List Int), n ≤ d → U.length + d ≤ 60 → 0 ≤ a → a + 2 * (d : Int) ≤ 1000000 → ∃ V h b, Ev (fun k => spec_DrawStockCost.l0 k U n l a sd) (V, h, b) ∧ V.length ≤ U.length + d := by
  induction d with
  | zero =>
    intro n a sd U hn hd ha hb
    obtain ⟨V, h, b, h1, h2⟩ := ev_spec_DrawStockCost_fin l hl a sd U (by omega)
    refine ⟨V, h, b, ev_succ ?_, by omega⟩
    have c : ¬ n > 0 := by omega
    simp only [spec_DrawStockCost.l0, c, ↓reduceIte]
    exact h1
  | succ d ih =>
    intro n a sd U hn hd ha hb
    by_cases c : n > 0
    · obtain ⟨v, a1, s1, e1, hv, ha2⟩ := spec_l1Cur_pick_ok l a sd 30 hl (by omega) (by omega)
      obtain ⟨V, h, b, h1, h2⟩ := ih (n - 1) a1 s1 (U ++ [wrap64 (v - 10)]) (by omega) (by simp; omega) (by omega) (by omega)
      rw [List.length_append, List.length_singleton] at h2
      refine ⟨V, h, b, ev_succ ?_, by omega⟩
      have e2 : wrap64 (n - 1) = n - 1 := w64 (by omega) (by omega)
      simp only [spec_DrawStockCost.l0, c, e1, e2, ↓reduceIte, Option.bind_some]
      exact ev_yes (by omega) h1
    · obtain ⟨V, h, b, h1, h2⟩ := ev_spec_DrawStockCost_fin l hl a sd U (by omega)
      refine ⟨V, h, b, ev_succ ?_, by omega⟩
      simp only [spec_DrawStockCost.l0, c, ↓reduceIte]
      exact h1
theorem ev_spec_DrawStockCost (l : List Int) (hl : codeOk l) : ∃ U h b, Ev (fun k => spec_DrawStockCost.f k l) (U, h, b) ∧ U.length ≤ 100 := by
  unfold spec_DrawStockCost.f
  obtain ⟨n, a2, s2, e2, hn, ha2⟩ := spec_l1Cur_among_ok l 0 0 [4, 8, 1, 0, 20, 21] hl (by omega) (by simp)
  have hn4 : n ≤ 21 := by simp at hn; omega
  obtain ⟨V, h, b, h1, h2⟩ := ev_spec_DrawStockCost_l0 l hl 21 n a2 s2 [] (by omega) (by simp) (by omega) (by omega)
  simp only [e2, Option.bind_some]
  simp only [List.length_nil] at h2
  exact ⟨V, h, b, h1, by omega⟩

theorem ev_spec_StockCost_l0 (h b : Int) (l : List Int) (hl : l.length ≤ 9223372036854775807) (d : Nat) : ∀ (i : Nat) (s : Int), i + d = l.length → wrap64 s = s →
    Ev (fun k => spec_StockCost.l0 k l h b s (i : Int)) (if allB (l.drop i) (-200) 200 = true then (wrap64 (s + ((l.drop i).map (cst h b)).sum), true) else (0, false)) := by
  induction d with
  | zero =>
    intro i s hi hs
    refine ev_succ ?_
    have h1 : ¬ (i : Int) < (l.length : Int) := by omega
    simp only [spec_StockCost.l0, h1, ↓reduceIte]
    rw [List.drop_eq_nil_of_le (by omega)]
    exact ev_eq (Ev.now _) (by simp [allB, hs])
  | succ d ih =>
    intro i s hi hs
    refine ev_succ ?_
    have h1 : (i : Int) < (l.length : Int) := by omega
    have h0 : (0 : Int) ≤ (i : Int) := by omega
    have hi' : i < l.length := by omega
    simp only [spec_StockCost.l0, h1, h0, ↓reduceIte, spec_l1In_f, spec_l11Cost_f, Option.bind_some, rd_nat hi', w64_nat hi' hl]
    rw [drop_cons hi']
    have ea : allB (l[i] :: l.drop (i + 1)) (-200) 200 = (inB l[i] (-200) 200 && allB (l.drop (i + 1)) (-200) 200) := rfl
    rw [ea]
    cases hc : inB l[i] (-200) 200 with
    | true =>
      simp only [↓reduceIte, Bool.true_and]
      refine ev_eq (ih (i + 1) _ (by omega) (w64_idem _)) ?_
      rw [List.map_cons, List.sum_cons, w64_add_l, Int.add_assoc]
    | false => exact ev_eq (Ev.now _) (by simp)
theorem ev_spec_StockCost_j0_no (l : List Int) (h b : Int) : Ev (fun k => spec_StockCost.j0 k l h b true) (0, false) := by
  refine ev_succ ?_
  simp only [spec_StockCost.j0, ↓reduceIte]
  exact Ev.now _
theorem ev_spec_StockCost (l : List Int) (h b : Int) (hl : l.length ≤ 9223372036854775807) : Ev (fun k => spec_StockCost.f k l h b) (stockV l h b) := by
  unfold spec_StockCost.f stockV
  simp only [spec_l11Rates_f, Option.bind_some]
  refine ev_ite (fun hc => ?_) (fun hc => ?_)
  · exact ev_eq (ev_spec_StockCost_j0_no _ _ _) (by rw [if_neg]; simp; omega)
  · cases hr : ratesB h b with
    | false => exact ev_eq (ev_spec_StockCost_j0_no _ _ _) (by simp)
    | true =>
      refine ev_succ ?_
      simp only [spec_StockCost.j0, Bool.not_true, Bool.false_eq_true, ↓reduceIte]
      refine ev_eq (ev_spec_StockCost_l0 h b l hl l.length 0 0 (by omega) w64_zero) ?_
      have : (l.length : Int) ≤ 20 := by omega
      simp [this, costV]

theorem wf_u8 {x : Int} (h : (Lit.int .u8 x).wf = true) : 0 ≤ x ∧ x ≤ 255 := by
  simp [Lit.wf, IntKind.min, IntKind.max, IntKind.signed, IntKind.bits] at h
  omega
theorem needsFrom_small {l : List Int} {lead : Nat} (hlead : lead ≤ 4) (h : ∀ x ∈ l, 0 ≤ x ∧ x ≤ 20) (i d : Nat) : ∀ x ∈ needsFrom l lead i d, 0 ≤ x ∧ x ≤ 100 := by
  intro x hx
  unfold needsFrom at hx
  obtain ⟨j, _, rfl⟩ := List.mem_map.1 hx
  have hm : ∀ y ∈ ((l.take (j + lead + 1)).drop j), 0 ≤ y ∧ y ≤ 20 := fun y hy => h y (List.mem_of_mem_take (List.mem_of_mem_drop hy))
  have h1 := sum_le (b := 20) (fun y hy => (hm y hy).2)
  have h2 := le_sum (b := 0) (fun y hy => (hm y hy).1)
  have h3 : ((l.take (j + lead + 1)).drop j).length ≤ 5 := by
    rw [List.length_drop, List.length_take]; omega
  rw [w64 (by omega) (by omega)]
  omega
theorem bup_best (c : Nat → Int) : ∀ n, ∃ m : Nat, m ≤ n ∧ bup c n = ((m : Int), c m) ∧ (∀ s, s ≤ n → c m ≤ c s) ∧ ∀ s, s < m → c m < c s
  | 0 => ⟨0, Nat.le_refl _, rfl, fun s hs => by rw [Nat.le_zero.1 hs]; exact Int.le_refl _, fun s hs => absurd hs (Nat.not_lt_zero _)⟩
  | n + 1 => by
    obtain ⟨m, h1, h2, h3, h4⟩ := bup_best c n
    by_cases h : c (n + 1) < (bup c n).2
    · have h' : c (n + 1) < c m := by rw [h2] at h; exact h
      refine ⟨n + 1, Nat.le_refl _, bup_yes h, fun s hs => ?_, fun s hs => ?_⟩
      · by_cases e : s = n + 1
        · rw [e]; exact Int.le_refl _
        · have := h3 s (by omega); omega
      · have := h3 s (by omega); omega
    · have h' : ¬ c (n + 1) < c m := by rw [h2] at h; exact h
      refine ⟨m, by omega, by rw [bup_no h, h2], fun s hs => ?_, h4⟩
      by_cases e : s = n + 1
      · rw [e]; omega
      · exact h3 s (by omega)
theorem stock_rests {needs : List Int} {h b : Int} (hr : ratesB h b = true) (hn : needs.length ≤ 20) (hx : ∀ x ∈ needs, 0 ≤ x ∧ x ≤ 100) {s : Nat} (hs : s ≤ 200) : stockV (needs.map fun x => (s : Int) - x) h b = (upCost needs h b s, true) := by
  unfold stockV upCost
  have h1 : allB (needs.map fun x => (s : Int) - x) (-200) 200 = true := by
    unfold allB
    rw [List.all_eq_true]
    intro y hy
    obtain ⟨x, hx2, rfl⟩ := List.mem_map.1 hy
    have := hx x hx2
    simp; omega
  rw [h1, hr]
  rw [if_pos]
  simp; omega
theorem posV_snd (a : Int) (l : List Int) : (posV a l).2 = flowB a l := by
  unfold posV
  cases flowB a l <;> rfl
theorem day_pos {st o q : Int} {U : List Int} (hf : flowB st U = true) (hb : (inB o 0 40 && inB q 0 20) = true) (hn : flowB (dayStock st U o q) (dayUnder U o) = true) : posV (dayStock st U o q) (dayUnder U o) = (wrap64 (wrap64 ((posV st U).1 + o) - q), true) := by
  have hm := flowB_mem hf
  have hm2 := flowB_mem hn
  rw [Bool.and_eq_true, inB_iff, inB_iff] at hb
  have hp : posV st U = (wrap64 (st + wrap64 U.sum), true) := by unfold posV; rw [if_pos hf]
  have s1 := sum_le (b := 40) (fun y hy => (hm.2.2 y hy).2)
  have s2 := le_sum (b := 0) (fun y hy => (hm.2.2 y hy).1)
  have hx : ∃ f, rd (U ++ [o]) 0 = f ∧ 0 ≤ f ∧ f ≤ 40 ∧ (dayUnder U o).sum = U.sum + o - f := by
    unfold dayUnder
    cases U with
    | nil => exact ⟨o, rfl, by omega, by omega, by simp⟩
    | cons u U =>
      have := hm.2.2 u (List.mem_cons_self ..)
      refine ⟨u, rfl, by omega, by omega, ?_⟩
      simp [List.sum_append]
      omega
  obtain ⟨f, e1, f0, f1, e2⟩ := hx
  have ed : dayStock st U o q = st + f - q := by
    unfold dayStock
    rw [e1, w64 (x := st + f) (by omega) (by omega), w64 (by omega) (by omega)]
  unfold posV
  rw [if_pos hn, ed, e2, if_pos hf]
  dsimp only
  rw [w64 (x := U.sum + o - f) (by omega) (by omega), w64 (x := U.sum) (by omega) (by omega), w64 (x := st + U.sum) (by omega) (by omega), w64 (x := st + U.sum + o) (by omega) (by omega), w64 (x := st + f - q + (U.sum + o - f)) (by omega) (by omega), w64 (by omega) (by omega)]
  congr 1
  omega

theorem ev_FnDays_end (l0 : List Int) (hl : codeOk l0) : Ev (fun k => (spec_DrawStockCost.f k l0).bind fun bt469 => ((impl_StockCost.f k bt469.1 bt469.2.1 bt469.2.2).bind fun bt474 => ((spec_StockCost.f k bt469.1 bt469.2.1 bt469.2.2).bind fun bt476 => (if bt474.1 = bt476.1 then (some (bt474.2 == bt476.2)) else (some false))))) true := by
  obtain ⟨V, h, b, h1, h2⟩ := ev_spec_DrawStockCost l0 hl
  refine Ev.bind h1 ?_
  refine Ev.bind (ev_impl_StockCost V h b (by omega)) ?_
  refine Ev.bind (ev_spec_StockCost V h b (by omega)) ?_
  simp only [if_true, beq_self_eq_true]
  exact Ev.now _
theorem ev_FnDays_l1 (l0 : List Int) (h b best least : Int) (needs : List Int) (hr : ratesB h b = true) (hn : needs.length ≤ 20) (hx : ∀ x ∈ needs, 0 ≤ x ∧ x ≤ 100) (s : Nat) (hs : s ≤ 200) (hc1 : ¬ upCost needs h b s < least) (hc2 : (s : Int) = best → upCost needs h b s = least) (hc3 : (s : Int) < best → upCost needs h b s ≠ least) (hg : Ev (fun k => laws_FnDays.l0 k l0 h b best least needs (((s + 1 : Nat)) : Int)) true) (d : Nat) : ∀ (i : Nat), i + d = needs.length → Ev (fun k => laws_FnDays.l1 k l0 h b best least needs (s : Int) ((needs.map fun x => (s : Int) - x).take i) (i : Int)) true := by
  induction d with
  | zero =>
    intro i hi
    refine ev_succ ?_
    have h1 : ¬ (i : Int) < (needs.length : Int) := by omega
    simp only [laws_FnDays.l1, h1, ↓reduceIte]
    rw [List.take_of_length_le (by rw [List.length_map]; omega)]
    have hv := ev_impl_StockCost (needs.map fun x => (s : Int) - x) h b (by rw [List.length_map]; omega)
    rw [stock_rests hr hn hx hs] at hv
    refine Ev.bind hv ?_
    simp only [if_true, hc1, if_false]
    have e : wrap64 ((s : Int) + 1) = ((s + 1 : Nat) : Int) := w64_nat (n := 1000) (by omega) (by omega)
    rw [e]
    by_cases c : (s : Int) = best
    · have c2 : ¬ (s : Int) < best := by omega
      simp only [c, hc2 c, if_true]
      simp only [← c, Int.lt_irrefl, if_false]
      rw [c]
      exact hg
    · simp only [c, if_false]
      by_cases c2 : (s : Int) < best
      · simp only [c2, if_true, hc3 c2, if_false]
        exact hg
      · simp only [c2, if_false]
        exact hg
  | succ d ih =>
    intro i hi
    refine ev_succ ?_
    have h1 : (i : Int) < (needs.length : Int) := by omega
    have h0 : (0 : Int) ≤ (i : Int) := by omega
    have hi' : i < needs.length := by omega
    have hxi := hx _ (List.getElem_mem hi')
    have e1 : wrap64 ((s : Int) - needs[i]) = (s : Int) - needs[i] := w64 (by omega) (by omega)
    have e2 : ((needs.map fun x => (s : Int) - x).take i).length < 17592186044416 := by rw [List.length_take, List.length_map]; omega
    simp only [laws_FnDays.l1, h1, h0, e2, ↓reduceIte, rd_nat hi', e1, w64_nat hi' (by omega : needs.length ≤ 9223372036854775807)]
    have e3 : (needs.map fun x => (s : Int) - x).take i ++ [(s : Int) - needs[i]] = (needs.map fun x => (s : Int) - x).take (i + 1) := by
      rw [List.take_add_one]
      simp [hi']
    rw [e3]
    exact ih (i + 1) (by omega)
theorem ev_FnDays_l0 (l0 : List Int) (hl : codeOk l0) (h b : Int) (m : Nat) (needs : List Int) (hr : ratesB h b = true) (hn : needs.length ≤ 20) (hx : ∀ x ∈ needs, 0 ≤ x ∧ x ≤ 100) (hm1 : ∀ s, s ≤ 200 → upCost needs h b m ≤ upCost needs h b s) (hm2 : ∀ s, s < m → upCost needs h b m < upCost needs h b s) (d : Nat) : ∀ (s : Nat), s + d = 201 → Ev (fun k => laws_FnDays.l0 k l0 h b (m : Int) (upCost needs h b m) needs (s : Int)) true := by
  induction d with
  | zero =>
    intro s hs
    refine ev_succ ?_
    have h1 : ¬ (s : Int) ≤ 200 := by omega
    simp only [laws_FnDays.l0, h1, ↓reduceIte]
    exact ev_FnDays_end l0 hl
  | succ d ih =>
    intro s hs
    refine ev_succ ?_
    have h1 : (s : Int) ≤ 200 := by omega
    simp only [laws_FnDays.l0, h1, ↓reduceIte]
    have h2 := hm1 s (by omega)
    refine ev_FnDays_l1 l0 h b _ _ needs hr hn hx s (by omega) (by omega) (fun c => ?_) (fun c => ?_) (ih (s + 1) (by omega)) needs.length 0 (by omega)
    · have : s = m := by omega
      rw [this]
    · have := hm2 s (by omega); omega
theorem ev_FnDays_j2 (l0 : List Int) (hl : codeOk l0) : Ev (fun k => laws_FnDays.j2 k l0) true := by
  refine ev_succ ?_
  simp only [laws_FnDays.j2]
  obtain ⟨U, n, h, b, h1, hU⟩ := ev_spec_DrawBestUpTo l0 hl
  refine Ev.bind h1 ?_
  dsimp only
  refine Ev.bind (ev_impl_BestUpTo U n h b (by omega)) ?_
  refine Ev.bind (ev_spec_BestUpTo U n h b (by omega)) ?_
  simp only [if_true, bne_self_eq_false]
  refine ev_succ ?_
  simp only [laws_FnDays.j3, Bool.false_eq_true, ↓reduceIte]
  unfold bupV
  by_cases hc : (askedB U n && ratesB h b) = true
  · have hc2 := hc
    rw [Bool.and_eq_true] at hc2
    have hm := askedB_mem hc2.1
    rw [if_pos hc]
    dsimp only
    simp only [if_true]
    have hv1 := ev_impl_LeadNeeds U n (by omega)
    have hv2 := ev_spec_LeadNeeds U n (by omega)
    unfold leadV at hv1 hv2
    rw [if_pos hc2.1] at hv1 hv2
    refine Ev.bind hv1 ?_
    refine Ev.bind hv2 ?_
    dsimp only
    simp only [if_true]
    have hx : ∀ x ∈ needsV U n, 0 ≤ x ∧ x ≤ 100 := needsFrom_small (by omega) hm.2.1 _ _
    have hn : (needsV U n).length ≤ 20 := by simp only [needsV, needsFrom_length]; omega
    refine Ev.bind (ev_laws_rInts_self _ (by omega)) ?_
    refine ev_succ ?_
    simp only [laws_FnDays.j4, Bool.not_true, Bool.false_eq_true, ↓reduceIte]
    obtain ⟨m, hm1, hm2, hm3, hm4⟩ := bup_best (upCost (needsV U n) h b) 200
    rw [hm2]
    exact ev_FnDays_l0 l0 hl h b m (needsV U n) hc2.2 hn hx hm3 hm4 201 0 (by omega)
  · rw [if_neg hc]
    simp only [Bool.false_eq_true, ↓reduceIte]
    exact ev_FnDays_end l0 hl
theorem FnDays (l0 : List (Int)) (h0 : l0.length ≤ 9223372036854775807) (w0 : ∀ y ∈ l0, (Lit.int .u8 y).wf = true) : ∃ k, laws_FnDays.f k l0 = some true := by
  refine Ev.rounds ?_
  have hl : codeOk l0 := fun x hx => wf_u8 (w0 x hx)
  unfold laws_FnDays.f
  simp only [laws_rBig.f, Option.bind_some]
  refine ev_ite (fun h => Ev.now _) (fun _ => ?_)
  obtain ⟨st, U, o, q, h1, hU⟩ := ev_spec_DrawDayOf l0 hl
  refine Ev.bind h1 ?_
  dsimp only
  refine Ev.bind (ev_impl_DayOf st U o q (by omega)) ?_
  refine Ev.bind (ev_spec_DayOf st U o q (by omega)) ?_
  simp only [bne_self_eq_false, Bool.false_eq_true, ↓reduceIte]
  have hlen : (dayV st U o q).2.1.length ≤ 4 := dayV_length (by omega)
  refine Ev.bind (ev_laws_rInts_self _ (by omega)) ?_
  refine ev_succ ?_
  simp only [laws_FnDays.j0, Bool.not_true, Bool.false_eq_true, ↓reduceIte]
  refine Ev.bind (ev_impl_PositionOf st U (by omega)) ?_
  refine Ev.bind (ev_spec_PositionOf st U (by omega)) ?_
  simp only [bne_self_eq_false, Bool.false_eq_true, ↓reduceIte]
  refine Ev.bind (ev_impl_IsFlow st U (by omega)) ?_
  rw [posV_snd]
  simp only [bne_self_eq_false, Bool.false_eq_true, ↓reduceIte]
  have hj2 := ev_FnDays_j2 l0 hl
  by_cases hc : (flowB st U && (inB o 0 40 && inB q 0 20) && flowB (dayStock st U o q) (dayUnder U o)) = true
  · have hc2 := hc
    rw [Bool.and_eq_true, Bool.and_eq_true] at hc2
    have hd : dayV st U o q = (dayStock st U o q, dayUnder U o, true) := by unfold dayV; rw [if_pos hc]
    rw [hd]
    simp only [hc2.1.1, Bool.not_true, if_true]
    refine ev_succ ?_
    simp only [laws_FnDays.j1, Bool.false_eq_true, ↓reduceIte]
    refine Ev.bind (ev_impl_PositionOf _ _ (by rw [dayUnder_length]; omega)) ?_
    rw [day_pos hc2.1.1 hc2.1.2 hc2.2]
    simp only [if_true, dayUnder_length]
    exact hj2
  · have hd : dayV st U o q = (0, [], false) := by unfold dayV; rw [if_neg hc]
    rw [hd]
    simp only [Bool.false_eq_true, if_false]
    refine ev_succ ?_
    simp only [laws_FnDays.j1, Bool.false_eq_true, ↓reduceIte]
    exact hj2

end Go.Proofs.Ytfgclhojgaaepaa.Pure
