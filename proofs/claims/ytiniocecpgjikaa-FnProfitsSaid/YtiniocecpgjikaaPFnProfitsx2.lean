-- A text of this session (its program hook.py, over the kit's print.py): not a print of print.sh
-- THIN: one blank for two
import Derived.Test.YtiniocecpgjikaaPFnProfitsx0
namespace Go.Proofs.Ytiniocecpgjikaa.PFnProfits
open Go.RowKit Go.Proofs.YtiniocecpgjikaaW.PrintWords Go.Proofs.YtiniocecpgjikaaW.PrintLast Go.Proofs.YtiniocecpgjikaaW.PrintMore
attribute [local go_sem] max2_int min2_int max_two min_two max_three min_three max_four min_four   -- for this text's walks alone
set_option linter.unusedVariables false
set_option linter.unusedSimpArgs false

-- SQUEEZED
private theorem bcz {w : World} {g : Nat} {t : TypeId} {cs : Array Value} (h : w.heap[g]? = some (.cells cs t (0, 0))) (i : Nat) {v : Value} (e : cs[i]? = some v) : w.cell? ⟨g, i, none⟩ = some v := (blk_cell h i).trans e
private theorem F3z {P : Nat → Prop} (h : ∀ i, P i) : P 0 ∧ P 1 ∧ P 2 := ⟨h 0, h 1, h 2⟩
private theorem F4z {P : Nat → Prop} (h : ∀ i, P i) : P 0 ∧ P 1 ∧ P 2 ∧ P 3 := ⟨h 0, h 1, h 2, h 3⟩
theorem z2_A {p : Prop} (h : p) : Aside0 p := Aside0.mk h
theorem z2_C {p : Prop} (h : p := by repeat (first | exact zh | (with_reducible refine Kd.C_alloc ?_ _) | (with_reducible refine Kd.C_drewN ?_ _) | (with_reducible refine Kd.C_drew ?_))) : p := h
theorem z2_1 {p : Prop} (h : p := by repeat (first | (with_reducible first | exact HB.out | apply below_alloc | apply pw_below_drewN | apply below_drew1) | exact HB.out)) : p := h
theorem z2_2 {p : Prop} (h : p := by repeat (first | (with_reducible first | exact HB.out | apply below_alloc | apply pw_below_drewN | apply below_drew1 | refine below_set ?_ GE104.out) | exact HB.out)) : p := h
theorem z2_3 {p : Prop} (h : p := by (try simp only [List.map_toArray, List.map_cons, List.map_nil]); first | done | rfl | (simp only [List.length_drop, List.length_take]; rfl)) : p := h
theorem z2_4 {p : Prop} (h : p := by first | rfl | (simp; done) | (simp [*]; done)) : p := h
theorem z2_5 {p : Prop} (h : p := by first | rfl | (simp [errW_none, errW_some] <;> rfl) | (simp [*, errW_none, errW_some] <;> rfl)) : p := h
theorem z2_6 {p : Prop} (h : p := by rw [hg]; exact (below_size z2_1)) : p := h
theorem z2_7 {p : Prop} (h : p := by repeat (first | exact Drawn0.refl _ | apply Drawn0.step)) : p := h
theorem z2_8 {p : Prop} (h : p := by (with_reducible repeat (first | refine blk_drewN ?_ _ | refine blk_drew ?_ | refine blk_alloc ?_ _)); exact BK114.out) : p := h
theorem z2_9 {p : Prop} (h : p := by first | (with_reducible assumption) | assumption) : p := h
theorem z2_10 {p : Prop} (h : p := by repeat (first | (with_reducible first | exact HB.out | apply below_alloc | apply pw_below_drewN | apply below_drew1 | refine below_set ?_ GE114.out) | exact HB.out)) : p := h
theorem z2_11 {p : Prop} (h : p := by repeat (first | (with_reducible first | exact HB.out | apply below_alloc | apply pw_below_drewN | apply below_drew1 | refine below_set ?_ GE111.out) | exact HB.out)) : p := h
theorem z2_12 {p : Prop} (h : p := by kernel_rfl) : p := h
theorem z2_13 {p : Prop} (h : p := by rw [if_neg (show ¬ (false = true) by decide)] at H; exact H) : p := h
theorem z2_14 {p : Prop} (h : p := by repeat (first | (with_reducible first | exact HB.out | apply below_alloc | apply pw_below_drewN | apply below_drew1 | refine below_set ?_ GE114.out | refine below_set ?_ GE115.out) | exact HB.out)) : p := h
theorem z2_15 {p : Prop} (h : p := by rw [if_pos rfl] at H; exact H) : p := h
theorem z2_16 {p : Prop} (h : p := by (with_reducible repeat (first | refine blk_drewN ?_ _ | refine blk_drew ?_ | refine blk_alloc ?_ _)); exact BK111.out) : p := h

/-! ### spec_l1In: function 83 -/
def spec_l1In.f (a0 : Int) (a1 : Int) (a2 : Int) : Option (Bool) := if a0 ≥ a1 then (some (decide (a0 ≤ a2))) else (some false)
set_option maxHeartbeats 8000000 in
set_option maxRecDepth 100000 in
theorem spec_l1In.calls (a0 : Int) (a1 : Int) (a2 : Int) (r : Bool) (w : World) (h : spec_l1In.f a0 a1 a2 = some r) :
  Calls Try.prog 83 #[.int .i64 a0, .int .i64 a1, .int .i64 a2] w fun e w' => e = .returned (.bool r) ∧ Drawn0 w w' := by
 have H : (if a0 ≥ a1 then (some (decide (a0 ≤ a2))) else (some false)) = some r := h
 clear h
 by_cases c4 : a0 ≥ a1
 ·rw [if_pos c4] at H
  have c4b0 : decide (a1 ≤ a0) = true := decide_eq_true c4
  clear c4
  obtain rfl := Option.some.inj H
  go_enter Try.func83, Try.ntmps83
  go_wp2
  go_ret
  exact ⟨z2_4, z2_7⟩
 ·rw [if_neg c4] at H
  have c4b0 : decide (a1 ≤ a0) = false := decide_eq_false c4
  clear c4
  obtain rfl := Option.some.inj H
  go_enter Try.func83, Try.ntmps83
  go_wp2
  go_ret
  exact ⟨z2_4, z2_7⟩

/-! ### spec_l2Sum: function 101 -/
def spec_l2Sum.l0 : Nat → List Int → Int → Int → Option (Int)
 | 0, _, _, _ => none
 | k + 1, x0, x3, x4 => if x4 < (x0.length : Int) then (if 0 ≤ x4 then (spec_l2Sum.l0 k x0 (wrap64 (x3 + (rd x0 x4))) (wrap64 (x4 + 1))) else (none)) else (some x3)
def spec_l2Sum.f (k : Nat) (l0 : List Int) : Option (Int) := spec_l2Sum.l0 k l0 0 0
theorem spec_l2Sum.mono_l : ∀ k, (∀ y0 y1 y2, LeO (spec_l2Sum.l0 k y0 y1 y2) (spec_l2Sum.l0 (k + 1) y0 y1 y2))
 | 0 => fun _ _ _ r h => by simp [spec_l2Sum.l0] at h
 | k + 1 => by
  have ih0 := spec_l2Sum.mono_l k
  ·intro y0 y1 y2
   unfold spec_l2Sum.l0
   repeat' first
   | (with_reducible exact ih0 _ _ _)
   | (with_reducible exact LeO.refl _)
   | (with_reducible exact LeO.none _)
   | (with_reducible refine LeO.ite ?_ ?_)
   | (with_reducible refine LeO.bind ?_ (fun _ => ?_))
   | exact ih0 _ _ _
   | exact LeO.none _
   | refine LeO.ite ?_ ?_
   | refine LeO.bind ?_ (fun _ => ?_)
theorem spec_l2Sum.mono : ∀ a0 k, LeO (spec_l2Sum.f k a0) (spec_l2Sum.f (k + 1) a0) := by
 intro a0 k
 have ih0 := spec_l2Sum.mono_l k
 unfold spec_l2Sum.f
 repeat' first
   | (with_reducible exact ih0 _ _ _)
   | (with_reducible exact LeO.refl _)
   | (with_reducible exact LeO.none _)
   | (with_reducible refine LeO.ite ?_ ?_)
   | (with_reducible refine LeO.bind ?_ (fun _ => ?_))
   | exact ih0 _ _ _
   | exact LeO.none _
   | refine LeO.ite ?_ ?_
   | refine LeO.bind ?_ (fun _ => ?_)
set_option maxHeartbeats 8000000 in
set_option maxRecDepth 100000 in
theorem spec_l2Sum.calls (k : Nat) (A0 : Option Addr) (c0 : Nat) (l0 : List Int) (r : Int) (w : World) (hr0 : Kd.C (Kd.int .i64) w A0 l0.length l0) (hc0 : l0.length ≤ c0) (h : spec_l2Sum.f k l0 = some r) :
  Calls Try.prog 101 #[.slice A0 l0.length c0] w fun e w' => e = .returned (.int .i64 r) ∧ Drawn0 w w' := by
 have HR0 := z2_A hr0
 have HC0 := z2_A hc0
 clear hr0 hc0
 have H : (spec_l2Sum.l0 k l0 0 0) = some r := h
 clear h
 have H' := z2_A H
 clear H
 go_enter Try.func101, Try.ntmps101
 go_wp2
 go_loopg [3, 4] k (fun kq v3 v4 w' => ∃ (x3_1 : Int) (x4_1 : Int), v3 = .int .i64 x3_1 ∧ v4 = .int .i64 x4_1 ∧ Aside0 (spec_l2Sum.l0 kq l0 x3_1 x4_1 = some r) ∧ Aside0 (kq ≤ k) ∧ Drawn0 w w')
 case atStart => exact ⟨(0), (0), z2_4, z2_4, H', ⟨Nat.le_refl _⟩, z2_7⟩
 case round =>
  clear H'
  try clear c1
  obtain ⟨x3_1, x4_1, rfl, rfl, HA, HK1, ⟨m1, rfl⟩⟩ := hrel
  cases gk with
  | zero => exact absurd HA.out (by simp [spec_l2Sum.l0])
  | succ k1 =>
   have H := HA.out
   clear HA
   simp only [spec_l2Sum.l0] at H
   by_cases c2 : x4_1 < (l0.length : Int)
   ·rw [if_pos c2] at H
    have c2b0 : decide (x4_1 < (l0.length : Int)) = true := decide_eq_true c2
    clear c2
    by_cases c3 : 0 ≤ x4_1
    ·rw [if_pos c3] at H
     have c3b0 : decide (0 ≤ x4_1) = true := decide_eq_true c3
     clear c3
     have H' := z2_A H
     clear H
     have p101 : 0 ≤ (x4_1 : Int) := of_decide_eq_true z2_9
     have q101 : x4_1 < (l0.length : Int) := of_decide_eq_true z2_9
     obtain ⟨ad101, e101, hx101_0⟩ := Kd.at_int HR0.out x4_1 p101 q101
     cases e101
     replace p101 := eq_true p101
     replace q101 := eq_true q101
     go_wp2
     go_roundg k1
     case measure => have := HK1.out; omega
     case rel => exact ⟨(wrap64 (x3_1 + (rd l0 x4_1))), (wrap64 (x4_1 + 1)), z2_4, z2_4, H', ⟨by have := HK1.out; omega⟩, z2_7⟩
    ·rw [if_neg c3] at H
     exact absurd H (by simp)
   ·rw [if_neg c2] at H
    have c2b0 : decide (x4_1 < (l0.length : Int)) = false := decide_eq_false c2
    clear c2
    obtain rfl := Option.some.inj H
    go_wp2
    go_ret
    exact ⟨z2_4, z2_7⟩

/-! ### spec_l2Row: function 102 -/
def spec_l2Row.l0 : Nat → List Int → Int → Int → Int → Option (Bool)
 | 0, _, _, _, _ => none
 | k + 1, x0, x1, x2, x7 => if x7 < (x0.length : Int) then (if 0 ≤ x7 then ((spec_l1In.f (rd x0 x7) 0 x2).bind fun t103 => (if t103 = true then (spec_l2Row.l0 k x0 x1 x2 (wrap64 (x7 + 1))) else (some false))) else (none)) else (some ((x0.length : Int) == x1))
def spec_l2Row.f (k : Nat) (l0 : List Int) (a1 : Int) (a2 : Int) : Option (Bool) := spec_l2Row.l0 k l0 a1 a2 0
theorem spec_l2Row.mono_l : ∀ k, (∀ y0 y1 y2 y3, LeO (spec_l2Row.l0 k y0 y1 y2 y3) (spec_l2Row.l0 (k + 1) y0 y1 y2 y3))
 | 0 => fun _ _ _ _ r h => by simp [spec_l2Row.l0] at h
 | k + 1 => by
  have ih0 := spec_l2Row.mono_l k
  ·intro y0 y1 y2 y3
   unfold spec_l2Row.l0
   repeat' first
   | (with_reducible exact ih0 _ _ _ _)
   | (with_reducible exact LeO.refl _)
   | (with_reducible exact LeO.none _)
   | (with_reducible refine LeO.ite ?_ ?_)
   | (with_reducible refine LeO.bind ?_ (fun _ => ?_))
   | exact ih0 _ _ _ _
   | exact LeO.none _
   | refine LeO.ite ?_ ?_
   | refine LeO.bind ?_ (fun _ => ?_)
theorem spec_l2Row.mono : ∀ a0 a1 a2 k, LeO (spec_l2Row.f k a0 a1 a2) (spec_l2Row.f (k + 1) a0 a1 a2) := by
 intro a0 a1 a2 k
 have ih0 := spec_l2Row.mono_l k
 unfold spec_l2Row.f
 repeat' first
   | (with_reducible exact ih0 _ _ _ _)
   | (with_reducible exact LeO.refl _)
   | (with_reducible exact LeO.none _)
   | (with_reducible refine LeO.ite ?_ ?_)
   | (with_reducible refine LeO.bind ?_ (fun _ => ?_))
   | exact ih0 _ _ _ _
   | exact LeO.none _
   | refine LeO.ite ?_ ?_
   | refine LeO.bind ?_ (fun _ => ?_)
set_option maxHeartbeats 8000000 in
set_option maxRecDepth 100000 in
theorem spec_l2Row.calls (k : Nat) (A0 : Option Addr) (c0 : Nat) (l0 : List Int) (a1 : Int) (a2 : Int) (r : Bool) (w : World) (hr0 : Kd.C (Kd.int .i64) w A0 l0.length l0) (hc0 : l0.length ≤ c0) (h : spec_l2Row.f k l0 a1 a2 = some r) :
  Calls Try.prog 102 #[.slice A0 l0.length c0, .int .i64 a1, .int .i64 a2] w fun e w' => e = .returned (.bool r) ∧ Drawn0 w w' := by
 have HR0 := z2_A hr0
 have HC0 := z2_A hc0
 clear hr0 hc0
 have H : (spec_l2Row.l0 k l0 a1 a2 0) = some r := h
 clear h
 have H' := z2_A H
 clear H
 go_enter Try.func102, Try.ntmps102
 go_wp2
 go_loopg [7] k (fun kq v7 w' => ∃ (x7_1 : Int), v7 = .int .i64 x7_1 ∧ Aside0 (spec_l2Row.l0 kq l0 a1 a2 x7_1 = some r) ∧ Aside0 (kq ≤ k) ∧ Drawn0 w w')
 case atStart => exact ⟨(0), z2_4, H', ⟨Nat.le_refl _⟩, z2_7⟩
 case round =>
  clear H'
  skip
  obtain ⟨x7_1, rfl, HA, HK1, ⟨m1, rfl⟩⟩ := hrel
  cases gk with
  | zero => exact absurd HA.out (by simp [spec_l2Row.l0])
  | succ k1 =>
   have H := HA.out
   clear HA
   simp only [spec_l2Row.l0] at H
   by_cases c4 : x7_1 < (l0.length : Int)
   ·rw [if_pos c4] at H
    have c4b0 : decide (x7_1 < (l0.length : Int)) = true := decide_eq_true c4
    clear c4
    by_cases c5 : 0 ≤ x7_1
    ·rw [if_pos c5] at H
     have c5b0 : decide (0 ≤ x7_1) = true := decide_eq_true c5
     clear c5
     replace H := Option.bind_eq_some_iff.mp H
     obtain ⟨t103, A60, H⟩ := H
     (try dsimp only at H)
     have A6 := z2_A A60
     clear A60
     by_cases c7 : t103 = true
     ·subst c7
      have H1 : (spec_l2Row.l0 k1 l0 a1 a2 (wrap64 (x7_1 + 1))) = some r := z2_15
      clear H
      have H := H1
      clear H1
      have H' := z2_A H
      clear H
      have p102 : 0 ≤ (x7_1 : Int) := of_decide_eq_true z2_9
      have q102 : x7_1 < (l0.length : Int) := of_decide_eq_true z2_9
      obtain ⟨ad102, e102, hx102_0⟩ := Kd.at_int HR0.out x7_1 p102 q102
      cases e102
      replace p102 := eq_true p102
      replace q102 := eq_true q102
      go_wp2_with (first | ((with_reducible refine gate_callee (f := 83) rfl ?_); refine goesL_ (some 19) rfl rfl Try.func83 z2_12 rfl #[.int .i64 (rd l0 x7_1), .int .i64 0, .int .i64 a2] rfl z2_3 ?_; (with_reducible refine (spec_l1In.calls (rd l0 x7_1) 0 a2 true _ A6.out).mono ?_); rintro e w' ⟨rfl, ⟨nd, rfl⟩⟩; refine ⟨_, rfl, ?_⟩))
      go_roundg k1
      case measure => have := HK1.out; omega
      case rel => exact ⟨(wrap64 (x7_1 + 1)), z2_4, H', ⟨by have := HK1.out; omega⟩, z2_7⟩
     ·replace c7 := Bool.eq_false_iff.mpr c7
      subst c7
      have H1 : (some false) = some r := z2_13
      clear H
      have H := H1
      clear H1
      obtain rfl := Option.some.inj H
      have p102 : 0 ≤ (x7_1 : Int) := of_decide_eq_true z2_9
      have q102 : x7_1 < (l0.length : Int) := of_decide_eq_true z2_9
      obtain ⟨ad102, e102, hx102_0⟩ := Kd.at_int HR0.out x7_1 p102 q102
      cases e102
      replace p102 := eq_true p102
      replace q102 := eq_true q102
      go_wp2_with (first | ((with_reducible refine gate_callee (f := 83) rfl ?_); refine goesL_ (some 19) rfl rfl Try.func83 z2_12 rfl #[.int .i64 (rd l0 x7_1), .int .i64 0, .int .i64 a2] rfl z2_3 ?_; (with_reducible refine (spec_l1In.calls (rd l0 x7_1) 0 a2 false _ A6.out).mono ?_); rintro e w' ⟨rfl, ⟨nd, rfl⟩⟩; refine ⟨_, rfl, ?_⟩))
      go_ret
      exact ⟨z2_4, z2_7⟩
    ·rw [if_neg c5] at H
     exact absurd H (by simp)
   ·rw [if_neg c4] at H
    have c4b0 : decide (x7_1 < (l0.length : Int)) = false := decide_eq_false c4
    clear c4
    obtain rfl := Option.some.inj H
    go_wp2
    go_ret
    exact ⟨z2_4, z2_7⟩

/-! ### spec_l10Market: function 67 -/
def spec_l10Market.f (k : Nat) (l0_0 : List Int) (a0_1 : Int) (a0_2 : Int) (a0_3 : Int) : Option (Bool) := (spec_l1In.f (l0_0.length : Int) 1 9).bind fun t105 => (if t105 = true then ((spec_l2Row.f k l0_0 (l0_0.length : Int) 4).bind fun t106 => (if t106 = true then ((spec_l2Sum.f k l0_0).bind fun t107 => (if t107 > 0 then ((spec_l1In.f a0_1 1 99).bind fun t108 => (if t108 = true then ((spec_l1In.f a0_2 0 a0_1).bind fun t109 => (if t109 = true then ((spec_l1In.f a0_3 0 a0_2).bind fun t110 => (some t110)) else (some false))) else (some false))) else (some false))) else (some false))) else (some false))
theorem spec_l10Market.mono : ∀ a0 a1 a2 a3 k, LeO (spec_l10Market.f k a0 a1 a2 a3) (spec_l10Market.f (k + 1) a0 a1 a2 a3) := by
 intro a0 a1 a2 a3 k
 unfold spec_l10Market.f
 repeat' first
   | (with_reducible exact spec_l2Row.mono _ _ _ _)
   | (with_reducible exact spec_l2Sum.mono _ _)
   | (with_reducible exact LeO.refl _)
   | (with_reducible exact LeO.none _)
   | (with_reducible refine LeO.ite ?_ ?_)
   | (with_reducible refine LeO.bind ?_ (fun _ => ?_))
   | exact spec_l2Row.mono _ _ _ _
   | exact spec_l2Sum.mono _ _
   | exact LeO.none _
   | refine LeO.ite ?_ ?_
   | refine LeO.bind ?_ (fun _ => ?_)
set_option maxHeartbeats 8000000 in
set_option maxRecDepth 100000 in
theorem spec_l10Market.calls (k : Nat) (A0_0 : Option Addr) (c0_0 : Nat) (l0_0 : List Int) (a0_1 : Int) (a0_2 : Int) (a0_3 : Int) (r : Bool) (w : World) (hr0_0 : Kd.C (Kd.int .i64) w A0_0 l0_0.length l0_0) (hc0_0 : l0_0.length ≤ c0_0) (h : spec_l10Market.f k l0_0 a0_1 a0_2 a0_3 = some r) :
  Calls Try.prog 67 #[.agg #[.slice A0_0 l0_0.length c0_0, .int .i64 a0_1, .int .i64 a0_2, .int .i64 a0_3]] w fun e w' => e = .returned (.bool r) ∧ Below w.heap.size w w' := by
 have hu30 := Try.underlying30
 have HR0_0 := z2_A hr0_0
 have HC0_0 := z2_A hc0_0
 clear hr0_0 hc0_0
 have HB := z2_A (Below.refl w.heap.size w)
 have H : ((spec_l1In.f (l0_0.length : Int) 1 9).bind fun t105 => (if t105 = true then ((spec_l2Row.f k l0_0 (l0_0.length : Int) 4).bind fun t106 => (if t106 = true then ((spec_l2Sum.f k l0_0).bind fun t107 => (if t107 > 0 then ((spec_l1In.f a0_1 1 99).bind fun t108 => (if t108 = true then ((spec_l1In.f a0_2 0 a0_1).bind fun t109 => (if t109 = true then ((spec_l1In.f a0_3 0 a0_2).bind fun t110 => (some t110)) else (some false))) else (some false))) else (some false))) else (some false))) else (some false))) = some r := h
 clear h
 replace H := Option.bind_eq_some_iff.mp H
 obtain ⟨t105, A20, H⟩ := H
 (try dsimp only at H)
 have A2 := z2_A A20
 clear A20
 by_cases c3 : t105 = true
 ·subst c3
  have H1 : ((spec_l2Row.f k l0_0 (l0_0.length : Int) 4).bind fun t106 => (if t106 = true then ((spec_l2Sum.f k l0_0).bind fun t107 => (if t107 > 0 then ((spec_l1In.f a0_1 1 99).bind fun t108 => (if t108 = true then ((spec_l1In.f a0_2 0 a0_1).bind fun t109 => (if t109 = true then ((spec_l1In.f a0_3 0 a0_2).bind fun t110 => (some t110)) else (some false))) else (some false))) else (some false))) else (some false))) = some r := z2_15
  clear H
  have H := H1
  clear H1
  replace H := Option.bind_eq_some_iff.mp H
  obtain ⟨t106, A40, H⟩ := H
  (try dsimp only at H)
  have A4 := z2_A A40
  clear A40
  by_cases c5 : t106 = true
  ·subst c5
   have H1 : ((spec_l2Sum.f k l0_0).bind fun t107 => (if t107 > 0 then ((spec_l1In.f a0_1 1 99).bind fun t108 => (if t108 = true then ((spec_l1In.f a0_2 0 a0_1).bind fun t109 => (if t109 = true then ((spec_l1In.f a0_3 0 a0_2).bind fun t110 => (some t110)) else (some false))) else (some false))) else (some false))) = some r := z2_15
   clear H
   have H := H1
   clear H1
   replace H := Option.bind_eq_some_iff.mp H
   obtain ⟨t107, A60, H⟩ := H
   (try dsimp only at H)
   have A6 := z2_A A60
   clear A60
   by_cases c7 : t107 > 0
   ·rw [if_pos c7] at H
    have c7b0 : decide (0 < t107) = true := decide_eq_true c7
    clear c7
    replace H := Option.bind_eq_some_iff.mp H
    obtain ⟨t108, A80, H⟩ := H
    (try dsimp only at H)
    have A8 := z2_A A80
    clear A80
    by_cases c9 : t108 = true
    ·subst c9
     have H1 : ((spec_l1In.f a0_2 0 a0_1).bind fun t109 => (if t109 = true then ((spec_l1In.f a0_3 0 a0_2).bind fun t110 => (some t110)) else (some false))) = some r := z2_15
     clear H
     have H := H1
     clear H1
     replace H := Option.bind_eq_some_iff.mp H
     obtain ⟨t109, A100, H⟩ := H
     (try dsimp only at H)
     have A10 := z2_A A100
     clear A100
     by_cases c11 : t109 = true
     ·subst c11
      have H1 : ((spec_l1In.f a0_3 0 a0_2).bind fun t110 => (some t110)) = some r := z2_15
      clear H
      have H := H1
      clear H1
      replace H := Option.bind_eq_some_iff.mp H
      obtain ⟨t110, A120, H⟩ := H
      (try dsimp only at H)
      have A12 := z2_A A120
      clear A120
      obtain rfl := Option.some.inj H
      go_enter Try.func67, Try.ntmps67
      go_wp2_with (first | ((with_reducible refine gate_dst (N := 1) rfl ?_); (try (refine gate_guard (by rfl) ?_; dsimp only)); refine box_event ?hg (N := 1) ?hd (cs := #[.slice A0_0 l0_0.length c0_0, .int .i64 a0_1, .int .i64 a0_2, .int .i64 a0_3]) (t := 30) ?hr ?_; (case hd => rfl); (case hg => rfl); (case hr => first | (go_simp; done) | (go_simp; rfl)); intro gb104 hg w13 hbox hb; have n0_ := z2_A (below_step z2_1 hb); have n1_ := z2_A (hbox); have n2_ := z2_A ((z2_6 : w.heap.size ≤ gb104)); have n3_ := z2_A ((z2_6 : w.heap.size ≤ gb104)); clear HB; revert n0_ n1_ n2_ n3_; intro HB BK104 GW104 GE104; clear hb hbox hg; have hcz14_0 : w13.cell? ⟨gb104, 0, none⟩ = some (.slice A0_0 l0_0.length c0_0) := bcz BK104.out 0 rfl; have hcz14_1 : w13.cell? ⟨gb104, 1, none⟩ = some (.int .i64 a0_1) := bcz BK104.out 1 rfl; have hcz14_2 : w13.cell? ⟨gb104, 2, none⟩ = some (.int .i64 a0_2) := bcz BK104.out 2 rfl; have hcz14_3 : w13.cell? ⟨gb104, 3, none⟩ = some (.int .i64 a0_3) := bcz BK104.out 3 rfl; obtain ⟨hfz14_0, hfz14_1, hfz14_2, hfz14_3⟩ := F4z (blk_frozen BK104.out)) | ((with_reducible refine gate_callee (f := 83) rfl ?_); refine goesL_ (some 6) rfl rfl Try.func83 z2_12 rfl #[.int .i64 (l0_0.length : Int), .int .i64 1, .int .i64 9] rfl z2_3 ?_; (with_reducible refine (spec_l1In.calls (l0_0.length : Int) 1 9 true _ A2.out).mono ?_); rintro e w' ⟨rfl, ⟨nd, rfl⟩⟩; refine ⟨_, rfl, ?_⟩) | (go_at_call 102; (with_reducible refine (spec_l2Row.calls k _ _ l0_0 (l0_0.length : Int) 4 true _ ?side1 ?side2 A4.out).mono ?_); (case side1 => repeat (first | exact (Kd.C_below HR0_0.out z2_2) | (with_reducible refine Kd.C_alloc ?_ _) | (with_reducible refine Kd.C_drewN ?_ _) | (with_reducible refine Kd.C_drew ?_))); (case side2 => exact HC0_0.out); rintro e w' ⟨rfl, ⟨nd, rfl⟩⟩) | (go_at_call 101; (with_reducible refine (spec_l2Sum.calls k _ _ l0_0 t107 _ ?side1 ?side2 A6.out).mono ?_); (case side1 => repeat (first | exact (Kd.C_below HR0_0.out z2_2) | (with_reducible refine Kd.C_alloc ?_ _) | (with_reducible refine Kd.C_drewN ?_ _) | (with_reducible refine Kd.C_drew ?_))); (case side2 => exact HC0_0.out); rintro e w' ⟨rfl, ⟨nd, rfl⟩⟩) | (go_at_call 83; (with_reducible refine (spec_l1In.calls a0_1 1 99 true _ A8.out).mono ?_); rintro e w' ⟨rfl, ⟨nd, rfl⟩⟩) | (go_at_call 83; (with_reducible refine (spec_l1In.calls a0_2 0 a0_1 true _ A10.out).mono ?_); rintro e w' ⟨rfl, ⟨nd, rfl⟩⟩) | (go_at_call 83; (with_reducible refine (spec_l1In.calls a0_3 0 a0_2 t110 _ A12.out).mono ?_); rintro e w' ⟨rfl, ⟨nd, rfl⟩⟩))
      go_ret
      exact ⟨z2_5, z2_2⟩
     ·replace c11 := Bool.eq_false_iff.mpr c11
      subst c11
      have H1 : (some false) = some r := z2_13
      clear H
      have H := H1
      clear H1
      obtain rfl := Option.some.inj H
      go_enter Try.func67, Try.ntmps67
      go_wp2_with (first | ((with_reducible refine gate_dst (N := 1) rfl ?_); (try (refine gate_guard (by rfl) ?_; dsimp only)); refine box_event ?hg (N := 1) ?hd (cs := #[.slice A0_0 l0_0.length c0_0, .int .i64 a0_1, .int .i64 a0_2, .int .i64 a0_3]) (t := 30) ?hr ?_; (case hd => rfl); (case hg => rfl); (case hr => first | (go_simp; done) | (go_simp; rfl)); intro gb104 hg w15 hbox hb; have n0_ := z2_A (below_step z2_1 hb); have n1_ := z2_A (hbox); have n2_ := z2_A ((z2_6 : w.heap.size ≤ gb104)); have n3_ := z2_A ((z2_6 : w.heap.size ≤ gb104)); clear HB; revert n0_ n1_ n2_ n3_; intro HB BK104 GW104 GE104; clear hb hbox hg; have hcz16_0 : w15.cell? ⟨gb104, 0, none⟩ = some (.slice A0_0 l0_0.length c0_0) := bcz BK104.out 0 rfl; have hcz16_1 : w15.cell? ⟨gb104, 1, none⟩ = some (.int .i64 a0_1) := bcz BK104.out 1 rfl; have hcz16_2 : w15.cell? ⟨gb104, 2, none⟩ = some (.int .i64 a0_2) := bcz BK104.out 2 rfl; have hcz16_3 : w15.cell? ⟨gb104, 3, none⟩ = some (.int .i64 a0_3) := bcz BK104.out 3 rfl; obtain ⟨hfz16_0, hfz16_1, hfz16_2, hfz16_3⟩ := F4z (blk_frozen BK104.out)) | ((with_reducible refine gate_callee (f := 83) rfl ?_); refine goesL_ (some 6) rfl rfl Try.func83 z2_12 rfl #[.int .i64 (l0_0.length : Int), .int .i64 1, .int .i64 9] rfl z2_3 ?_; (with_reducible refine (spec_l1In.calls (l0_0.length : Int) 1 9 true _ A2.out).mono ?_); rintro e w' ⟨rfl, ⟨nd, rfl⟩⟩; refine ⟨_, rfl, ?_⟩) | (go_at_call 102; (with_reducible refine (spec_l2Row.calls k _ _ l0_0 (l0_0.length : Int) 4 true _ ?side1 ?side2 A4.out).mono ?_); (case side1 => repeat (first | exact (Kd.C_below HR0_0.out z2_2) | (with_reducible refine Kd.C_alloc ?_ _) | (with_reducible refine Kd.C_drewN ?_ _) | (with_reducible refine Kd.C_drew ?_))); (case side2 => exact HC0_0.out); rintro e w' ⟨rfl, ⟨nd, rfl⟩⟩) | (go_at_call 101; (with_reducible refine (spec_l2Sum.calls k _ _ l0_0 t107 _ ?side1 ?side2 A6.out).mono ?_); (case side1 => repeat (first | exact (Kd.C_below HR0_0.out z2_2) | (with_reducible refine Kd.C_alloc ?_ _) | (with_reducible refine Kd.C_drewN ?_ _) | (with_reducible refine Kd.C_drew ?_))); (case side2 => exact HC0_0.out); rintro e w' ⟨rfl, ⟨nd, rfl⟩⟩) | (go_at_call 83; (with_reducible refine (spec_l1In.calls a0_1 1 99 true _ A8.out).mono ?_); rintro e w' ⟨rfl, ⟨nd, rfl⟩⟩) | (go_at_call 83; (with_reducible refine (spec_l1In.calls a0_2 0 a0_1 false _ A10.out).mono ?_); rintro e w' ⟨rfl, ⟨nd, rfl⟩⟩))
      go_ret
      exact ⟨z2_5, z2_2⟩
    ·replace c9 := Bool.eq_false_iff.mpr c9
     subst c9
     have H1 : (some false) = some r := z2_13
     clear H
     have H := H1
     clear H1
     obtain rfl := Option.some.inj H
     go_enter Try.func67, Try.ntmps67
     go_wp2_with (first | ((with_reducible refine gate_dst (N := 1) rfl ?_); (try (refine gate_guard (by rfl) ?_; dsimp only)); refine box_event ?hg (N := 1) ?hd (cs := #[.slice A0_0 l0_0.length c0_0, .int .i64 a0_1, .int .i64 a0_2, .int .i64 a0_3]) (t := 30) ?hr ?_; (case hd => rfl); (case hg => rfl); (case hr => first | (go_simp; done) | (go_simp; rfl)); intro gb104 hg w17 hbox hb; have n0_ := z2_A (below_step z2_1 hb); have n1_ := z2_A (hbox); have n2_ := z2_A ((z2_6 : w.heap.size ≤ gb104)); have n3_ := z2_A ((z2_6 : w.heap.size ≤ gb104)); clear HB; revert n0_ n1_ n2_ n3_; intro HB BK104 GW104 GE104; clear hb hbox hg; have hcz18_0 : w17.cell? ⟨gb104, 0, none⟩ = some (.slice A0_0 l0_0.length c0_0) := bcz BK104.out 0 rfl; have hcz18_1 : w17.cell? ⟨gb104, 1, none⟩ = some (.int .i64 a0_1) := bcz BK104.out 1 rfl; have hcz18_2 : w17.cell? ⟨gb104, 2, none⟩ = some (.int .i64 a0_2) := bcz BK104.out 2 rfl; have hcz18_3 : w17.cell? ⟨gb104, 3, none⟩ = some (.int .i64 a0_3) := bcz BK104.out 3 rfl; obtain ⟨hfz18_0, hfz18_1, hfz18_2, hfz18_3⟩ := F4z (blk_frozen BK104.out)) | ((with_reducible refine gate_callee (f := 83) rfl ?_); refine goesL_ (some 6) rfl rfl Try.func83 z2_12 rfl #[.int .i64 (l0_0.length : Int), .int .i64 1, .int .i64 9] rfl z2_3 ?_; (with_reducible refine (spec_l1In.calls (l0_0.length : Int) 1 9 true _ A2.out).mono ?_); rintro e w' ⟨rfl, ⟨nd, rfl⟩⟩; refine ⟨_, rfl, ?_⟩) | (go_at_call 102; (with_reducible refine (spec_l2Row.calls k _ _ l0_0 (l0_0.length : Int) 4 true _ ?side1 ?side2 A4.out).mono ?_); (case side1 => repeat (first | exact (Kd.C_below HR0_0.out z2_2) | (with_reducible refine Kd.C_alloc ?_ _) | (with_reducible refine Kd.C_drewN ?_ _) | (with_reducible refine Kd.C_drew ?_))); (case side2 => exact HC0_0.out); rintro e w' ⟨rfl, ⟨nd, rfl⟩⟩) | (go_at_call 101; (with_reducible refine (spec_l2Sum.calls k _ _ l0_0 t107 _ ?side1 ?side2 A6.out).mono ?_); (case side1 => repeat (first | exact (Kd.C_below HR0_0.out z2_2) | (with_reducible refine Kd.C_alloc ?_ _) | (with_reducible refine Kd.C_drewN ?_ _) | (with_reducible refine Kd.C_drew ?_))); (case side2 => exact HC0_0.out); rintro e w' ⟨rfl, ⟨nd, rfl⟩⟩) | (go_at_call 83; (with_reducible refine (spec_l1In.calls a0_1 1 99 false _ A8.out).mono ?_); rintro e w' ⟨rfl, ⟨nd, rfl⟩⟩))
     go_ret
     exact ⟨z2_5, z2_2⟩
   ·rw [if_neg c7] at H
    have c7b0 : decide (0 < t107) = false := decide_eq_false c7
    clear c7
    obtain rfl := Option.some.inj H
    go_enter Try.func67, Try.ntmps67
    go_wp2_with (first | ((with_reducible refine gate_dst (N := 1) rfl ?_); (try (refine gate_guard (by rfl) ?_; dsimp only)); refine box_event ?hg (N := 1) ?hd (cs := #[.slice A0_0 l0_0.length c0_0, .int .i64 a0_1, .int .i64 a0_2, .int .i64 a0_3]) (t := 30) ?hr ?_; (case hd => rfl); (case hg => rfl); (case hr => first | (go_simp; done) | (go_simp; rfl)); intro gb104 hg w19 hbox hb; have n0_ := z2_A (below_step z2_1 hb); have n1_ := z2_A (hbox); have n2_ := z2_A ((z2_6 : w.heap.size ≤ gb104)); have n3_ := z2_A ((z2_6 : w.heap.size ≤ gb104)); clear HB; revert n0_ n1_ n2_ n3_; intro HB BK104 GW104 GE104; clear hb hbox hg; have hcz20_0 : w19.cell? ⟨gb104, 0, none⟩ = some (.slice A0_0 l0_0.length c0_0) := bcz BK104.out 0 rfl; have hcz20_1 : w19.cell? ⟨gb104, 1, none⟩ = some (.int .i64 a0_1) := bcz BK104.out 1 rfl; have hcz20_2 : w19.cell? ⟨gb104, 2, none⟩ = some (.int .i64 a0_2) := bcz BK104.out 2 rfl; have hcz20_3 : w19.cell? ⟨gb104, 3, none⟩ = some (.int .i64 a0_3) := bcz BK104.out 3 rfl; obtain ⟨hfz20_0, hfz20_1, hfz20_2, hfz20_3⟩ := F4z (blk_frozen BK104.out)) | ((with_reducible refine gate_callee (f := 83) rfl ?_); refine goesL_ (some 6) rfl rfl Try.func83 z2_12 rfl #[.int .i64 (l0_0.length : Int), .int .i64 1, .int .i64 9] rfl z2_3 ?_; (with_reducible refine (spec_l1In.calls (l0_0.length : Int) 1 9 true _ A2.out).mono ?_); rintro e w' ⟨rfl, ⟨nd, rfl⟩⟩; refine ⟨_, rfl, ?_⟩) | (go_at_call 102; (with_reducible refine (spec_l2Row.calls k _ _ l0_0 (l0_0.length : Int) 4 true _ ?side1 ?side2 A4.out).mono ?_); (case side1 => repeat (first | exact (Kd.C_below HR0_0.out z2_2) | (with_reducible refine Kd.C_alloc ?_ _) | (with_reducible refine Kd.C_drewN ?_ _) | (with_reducible refine Kd.C_drew ?_))); (case side2 => exact HC0_0.out); rintro e w' ⟨rfl, ⟨nd, rfl⟩⟩) | (go_at_call 101; (with_reducible refine (spec_l2Sum.calls k _ _ l0_0 t107 _ ?side1 ?side2 A6.out).mono ?_); (case side1 => repeat (first | exact (Kd.C_below HR0_0.out z2_2) | (with_reducible refine Kd.C_alloc ?_ _) | (with_reducible refine Kd.C_drewN ?_ _) | (with_reducible refine Kd.C_drew ?_))); (case side2 => exact HC0_0.out); rintro e w' ⟨rfl, ⟨nd, rfl⟩⟩))
    go_ret
    exact ⟨z2_5, z2_2⟩
  ·replace c5 := Bool.eq_false_iff.mpr c5
   subst c5
   have H1 : (some false) = some r := z2_13
   clear H
   have H := H1
   clear H1
   obtain rfl := Option.some.inj H
   go_enter Try.func67, Try.ntmps67
   go_wp2_with (first | ((with_reducible refine gate_dst (N := 1) rfl ?_); (try (refine gate_guard (by rfl) ?_; dsimp only)); refine box_event ?hg (N := 1) ?hd (cs := #[.slice A0_0 l0_0.length c0_0, .int .i64 a0_1, .int .i64 a0_2, .int .i64 a0_3]) (t := 30) ?hr ?_; (case hd => rfl); (case hg => rfl); (case hr => first | (go_simp; done) | (go_simp; rfl)); intro gb104 hg w21 hbox hb; have n0_ := z2_A (below_step z2_1 hb); have n1_ := z2_A (hbox); have n2_ := z2_A ((z2_6 : w.heap.size ≤ gb104)); have n3_ := z2_A ((z2_6 : w.heap.size ≤ gb104)); clear HB; revert n0_ n1_ n2_ n3_; intro HB BK104 GW104 GE104; clear hb hbox hg; have hcz22_0 : w21.cell? ⟨gb104, 0, none⟩ = some (.slice A0_0 l0_0.length c0_0) := bcz BK104.out 0 rfl; have hcz22_1 : w21.cell? ⟨gb104, 1, none⟩ = some (.int .i64 a0_1) := bcz BK104.out 1 rfl; have hcz22_2 : w21.cell? ⟨gb104, 2, none⟩ = some (.int .i64 a0_2) := bcz BK104.out 2 rfl; have hcz22_3 : w21.cell? ⟨gb104, 3, none⟩ = some (.int .i64 a0_3) := bcz BK104.out 3 rfl; obtain ⟨hfz22_0, hfz22_1, hfz22_2, hfz22_3⟩ := F4z (blk_frozen BK104.out)) | ((with_reducible refine gate_callee (f := 83) rfl ?_); refine goesL_ (some 6) rfl rfl Try.func83 z2_12 rfl #[.int .i64 (l0_0.length : Int), .int .i64 1, .int .i64 9] rfl z2_3 ?_; (with_reducible refine (spec_l1In.calls (l0_0.length : Int) 1 9 true _ A2.out).mono ?_); rintro e w' ⟨rfl, ⟨nd, rfl⟩⟩; refine ⟨_, rfl, ?_⟩) | (go_at_call 102; (with_reducible refine (spec_l2Row.calls k _ _ l0_0 (l0_0.length : Int) 4 false _ ?side1 ?side2 A4.out).mono ?_); (case side1 => repeat (first | exact (Kd.C_below HR0_0.out z2_2) | (with_reducible refine Kd.C_alloc ?_ _) | (with_reducible refine Kd.C_drewN ?_ _) | (with_reducible refine Kd.C_drew ?_))); (case side2 => exact HC0_0.out); rintro e w' ⟨rfl, ⟨nd, rfl⟩⟩))
   go_ret
   exact ⟨z2_5, z2_2⟩
 ·replace c3 := Bool.eq_false_iff.mpr c3
  subst c3
  have H1 : (some false) = some r := z2_13
  clear H
  have H := H1
  clear H1
  obtain rfl := Option.some.inj H
  go_enter Try.func67, Try.ntmps67
  go_wp2_with (first | ((with_reducible refine gate_dst (N := 1) rfl ?_); (try (refine gate_guard (by rfl) ?_; dsimp only)); refine box_event ?hg (N := 1) ?hd (cs := #[.slice A0_0 l0_0.length c0_0, .int .i64 a0_1, .int .i64 a0_2, .int .i64 a0_3]) (t := 30) ?hr ?_; (case hd => rfl); (case hg => rfl); (case hr => first | (go_simp; done) | (go_simp; rfl)); intro gb104 hg w23 hbox hb; have n0_ := z2_A (below_step z2_1 hb); have n1_ := z2_A (hbox); have n2_ := z2_A ((z2_6 : w.heap.size ≤ gb104)); have n3_ := z2_A ((z2_6 : w.heap.size ≤ gb104)); clear HB; revert n0_ n1_ n2_ n3_; intro HB BK104 GW104 GE104; clear hb hbox hg; have hcz24_0 : w23.cell? ⟨gb104, 0, none⟩ = some (.slice A0_0 l0_0.length c0_0) := bcz BK104.out 0 rfl; have hcz24_1 : w23.cell? ⟨gb104, 1, none⟩ = some (.int .i64 a0_1) := bcz BK104.out 1 rfl; have hcz24_2 : w23.cell? ⟨gb104, 2, none⟩ = some (.int .i64 a0_2) := bcz BK104.out 2 rfl; have hcz24_3 : w23.cell? ⟨gb104, 3, none⟩ = some (.int .i64 a0_3) := bcz BK104.out 3 rfl; obtain ⟨hfz24_0, hfz24_1, hfz24_2, hfz24_3⟩ := F4z (blk_frozen BK104.out)) | ((with_reducible refine gate_callee (f := 83) rfl ?_); refine goesL_ (some 6) rfl rfl Try.func83 z2_12 rfl #[.int .i64 (l0_0.length : Int), .int .i64 1, .int .i64 9] rfl z2_3 ?_; (with_reducible refine (spec_l1In.calls (l0_0.length : Int) 1 9 false _ A2.out).mono ?_); rintro e w' ⟨rfl, ⟨nd, rfl⟩⟩; refine ⟨_, rfl, ?_⟩))
  go_ret
  exact ⟨z2_5, z2_2⟩

/-! ### spec_l1Least: function 106 -/
def spec_l1Least.f (a0 : Int) (a1 : Int) : Option (Int) := if a0 < a1 then (some a0) else (some a1)
set_option maxHeartbeats 8000000 in
set_option maxRecDepth 100000 in
theorem spec_l1Least.calls (a0 : Int) (a1 : Int) (r : Int) (w : World) (h : spec_l1Least.f a0 a1 = some r) :
  Calls Try.prog 106 #[.int .i64 a0, .int .i64 a1] w fun e w' => e = .returned (.int .i64 r) ∧ Drawn0 w w' := by
 have H : (if a0 < a1 then (some a0) else (some a1)) = some r := h
 clear h
 by_cases c3 : a0 < a1
 ·rw [if_pos c3] at H
  have c3b0 : decide (a0 < a1) = true := decide_eq_true c3
  clear c3
  obtain rfl := Option.some.inj H
  go_enter Try.func106, Try.ntmps106
  go_wp2
  go_ret
  exact ⟨z2_4, z2_7⟩
 ·rw [if_neg c3] at H
  have c3b0 : decide (a0 < a1) = false := decide_eq_false c3
  clear c3
  obtain rfl := Option.some.inj H
  go_enter Try.func106, Try.ntmps106
  go_wp2
  go_ret
  exact ⟨z2_4, z2_7⟩

/-! ### spec_l10Sales: function 98 -/
def spec_l10Sales.l0 : Nat → Int → Int → Int → List Int → Int → Int → Int → Option (Int)
 | 0, _, _, _, _, _, _, _ => none
 | k + 1, x1, x5, x6, x112000, x112001, x112002, x112003 => if x6 < (x112000.length : Int) then (if 0 ≤ x6 then ((spec_l1Least.f x1 x6).bind fun t113 => (spec_l10Sales.l0 k x1 (wrap64 (x5 + (wrap64 ((rd x112000 x6) * t113)))) (wrap64 (x6 + 1)) x112000 x112001 x112002 x112003)) else (none)) else (some x5)
def spec_l10Sales.f (k : Nat) (l0_0 : List Int) (a0_1 : Int) (a0_2 : Int) (a0_3 : Int) (a1 : Int) : Option (Int) := spec_l10Sales.l0 k a1 0 0 l0_0 a0_1 a0_2 a0_3
theorem spec_l10Sales.mono_l : ∀ k, (∀ y0 y1 y2 y3 y4 y5 y6, LeO (spec_l10Sales.l0 k y0 y1 y2 y3 y4 y5 y6) (spec_l10Sales.l0 (k + 1) y0 y1 y2 y3 y4 y5 y6))
 | 0 => fun _ _ _ _ _ _ _ r h => by simp [spec_l10Sales.l0] at h
 | k + 1 => by
  have ih0 := spec_l10Sales.mono_l k
  ·intro y0 y1 y2 y3 y4 y5 y6
   unfold spec_l10Sales.l0
   repeat' first
   | (with_reducible exact ih0 _ _ _ _ _ _ _)
   | (with_reducible exact LeO.refl _)
   | (with_reducible exact LeO.none _)
   | (with_reducible refine LeO.ite ?_ ?_)
   | (with_reducible refine LeO.bind ?_ (fun _ => ?_))
   | exact ih0 _ _ _ _ _ _ _
   | exact LeO.none _
   | refine LeO.ite ?_ ?_
   | refine LeO.bind ?_ (fun _ => ?_)
theorem spec_l10Sales.mono : ∀ a0 a1 a2 a3 a4 k, LeO (spec_l10Sales.f k a0 a1 a2 a3 a4) (spec_l10Sales.f (k + 1) a0 a1 a2 a3 a4) := by
 intro a0 a1 a2 a3 a4 k
 have ih0 := spec_l10Sales.mono_l k
 unfold spec_l10Sales.f
 repeat' first
   | (with_reducible exact ih0 _ _ _ _ _ _ _)
   | (with_reducible exact LeO.refl _)
   | (with_reducible exact LeO.none _)
   | (with_reducible refine LeO.ite ?_ ?_)
   | (with_reducible refine LeO.bind ?_ (fun _ => ?_))
   | exact ih0 _ _ _ _ _ _ _
   | exact LeO.none _
   | refine LeO.ite ?_ ?_
   | refine LeO.bind ?_ (fun _ => ?_)
set_option maxHeartbeats 8000000 in
set_option maxRecDepth 100000 in
theorem spec_l10Sales.calls (k : Nat) (A0_0 : Option Addr) (c0_0 : Nat) (l0_0 : List Int) (a0_1 : Int) (a0_2 : Int) (a0_3 : Int) (a1 : Int) (r : Int) (w : World) (hr0_0 : Kd.C (Kd.int .i64) w A0_0 l0_0.length l0_0) (hc0_0 : l0_0.length ≤ c0_0) (h : spec_l10Sales.f k l0_0 a0_1 a0_2 a0_3 a1 = some r) :
  Calls Try.prog 98 #[.agg #[.slice A0_0 l0_0.length c0_0, .int .i64 a0_1, .int .i64 a0_2, .int .i64 a0_3], .int .i64 a1] w fun e w' => e = .returned (.int .i64 r) ∧ Below w.heap.size w w' := by
 have hu30 := Try.underlying30
 have HR0_0 := z2_A hr0_0
 have HC0_0 := z2_A hc0_0
 clear hr0_0 hc0_0
 have HB := z2_A (Below.refl w.heap.size w)
 have H : (spec_l10Sales.l0 k a1 0 0 l0_0 a0_1 a0_2 a0_3) = some r := h
 clear h
 have H' := z2_A H
 clear H
 go_enter Try.func98, Try.ntmps98
 go_wp2_with (first | ((with_reducible refine gate_dst (N := 2) rfl ?_); refine box_event ?hg (N := 2) ?hd (cs := #[.slice A0_0 l0_0.length c0_0, .int .i64 a0_1, .int .i64 a0_2, .int .i64 a0_3]) (t := 30) ?hr ?_; (case hd => rfl); (case hg => rfl); (case hr => first | (go_simp; done) | (go_simp; rfl)); intro gb111 hg w3 hbox hb; have n0_ := z2_A (below_step z2_1 hb); have n1_ := z2_A (hbox); have n2_ := z2_A ((z2_6 : w.heap.size ≤ gb111)); have n3_ := z2_A ((z2_6 : w.heap.size ≤ gb111)); clear HB; revert n0_ n1_ n2_ n3_; intro HB BK111 GW111 GE111; clear hb hbox hg))
 repeat (go_quiet (first | ((with_reducible refine gate_dst (N := 2) rfl ?_); refine box_event ?hg (N := 2) ?hd (cs := #[.slice A0_0 l0_0.length c0_0, .int .i64 a0_1, .int .i64 a0_2, .int .i64 a0_3]) (t := 30) ?hr ?_; (case hd => rfl); (case hg => rfl); (case hr => first | (go_simp; done) | (go_simp; rfl)); intro gb111 hg w3 hbox hb; have n0_ := z2_A (below_step z2_1 hb); have n1_ := z2_A (hbox); have n2_ := z2_A ((z2_6 : w.heap.size ≤ gb111)); have n3_ := z2_A ((z2_6 : w.heap.size ≤ gb111)); clear HB; revert n0_ n1_ n2_ n3_; intro HB BK111 GW111 GE111; clear hb hbox hg)); try go_wp2_with (first | ((with_reducible refine gate_dst (N := 2) rfl ?_); refine box_event ?hg (N := 2) ?hd (cs := #[.slice A0_0 l0_0.length c0_0, .int .i64 a0_1, .int .i64 a0_2, .int .i64 a0_3]) (t := 30) ?hr ?_; (case hd => rfl); (case hg => rfl); (case hr => first | (go_simp; done) | (go_simp; rfl)); intro gb111 hg w3 hbox hb; have n0_ := z2_A (below_step z2_1 hb); have n1_ := z2_A (hbox); have n2_ := z2_A ((z2_6 : w.heap.size ≤ gb111)); have n3_ := z2_A ((z2_6 : w.heap.size ≤ gb111)); clear HB; revert n0_ n1_ n2_ n3_; intro HB BK111 GW111 GE111; clear hb hbox hg)))
 go_loopg [5, 6] k (fun kq v5 v6 w' => ∃ (x5_1 : Int) (x6_1 : Int), v5 = .int .i64 x5_1 ∧ v6 = .int .i64 x6_1 ∧ Aside0 (spec_l10Sales.l0 kq a1 x5_1 x6_1 l0_0 a0_1 a0_2 a0_3 = some r) ∧ Aside0 (kq ≤ k) ∧ Aside0 (w'.heap[gb111]? = some (.cells #[(.slice A0_0 l0_0.length c0_0), .int .i64 a0_1, .int .i64 a0_2, .int .i64 a0_3] 30 (0, 0))) ∧ Aside0 (Below w.heap.size w w'))
 case atStart => exact ⟨(0), (0), z2_4, z2_4, H', ⟨Nat.le_refl _⟩, ⟨z2_16⟩, ⟨z2_11⟩⟩
 case round =>
  clear H'
  try clear p2
  obtain ⟨x5_1, x6_1, rfl, rfl, HA, HK1, BK111, HB⟩ := hrel
  cases gk with
  | zero => exact absurd HA.out (by simp [spec_l10Sales.l0])
  | succ k1 =>
   have H := HA.out
   clear HA
   simp only [spec_l10Sales.l0] at H
   by_cases c4 : x6_1 < (l0_0.length : Int)
   ·rw [if_pos c4] at H
    have c4b0 : decide (x6_1 < (l0_0.length : Int)) = true := decide_eq_true c4
    clear c4
    by_cases c5 : 0 ≤ x6_1
    ·rw [if_pos c5] at H
     have c5b0 : decide (0 ≤ x6_1) = true := decide_eq_true c5
     clear c5
     replace H := Option.bind_eq_some_iff.mp H
     obtain ⟨t113, A60, H⟩ := H
     (try dsimp only at H)
     have A6 := z2_A A60
     clear A60
     have H' := z2_A H
     clear H
     have hcz7_0 : wr.cell? ⟨gb111, 0, none⟩ = some (.slice A0_0 l0_0.length c0_0) := bcz BK111.out 0 rfl
     have hcz7_1 : wr.cell? ⟨gb111, 1, none⟩ = some (.int .i64 a0_1) := bcz BK111.out 1 rfl
     have hcz7_2 : wr.cell? ⟨gb111, 2, none⟩ = some (.int .i64 a0_2) := bcz BK111.out 2 rfl
     have hcz7_3 : wr.cell? ⟨gb111, 3, none⟩ = some (.int .i64 a0_3) := bcz BK111.out 3 rfl
     obtain ⟨hfz7_0, hfz7_1, hfz7_2, hfz7_3⟩ := F4z (blk_frozen BK111.out)
     have p112 : 0 ≤ (x6_1 : Int) := of_decide_eq_true z2_9
     have q112 : x6_1 < (l0_0.length : Int) := of_decide_eq_true z2_9
     obtain ⟨ad112, e112, hx112_0⟩ := Kd.at_int HR0_0.out x6_1 p112 q112
     cases e112
     replace hx112_0 := (HB.out.cell (World.block_lt_of_cell? w _ hx112_0)).trans hx112_0
     replace p112 := eq_true p112
     replace q112 := eq_true q112
     go_wp2_with (first | (go_at_call 106; (with_reducible refine (spec_l1Least.calls a1 x6_1 t113 _ A6.out).mono ?_); rintro e w' ⟨rfl, ⟨nd, rfl⟩⟩; (try first | exact ⟨rfl, _, World.drewN_drewN _ _ _⟩ | exact ⟨rfl, _, Eq.trans (World.drewN_drewN _ _ _) (congrArg (World.drewN _) (Nat.add_assoc _ _ _))⟩)))
     repeat (go_quiet (first | (go_at_call 106; (with_reducible refine (spec_l1Least.calls a1 x6_1 t113 _ A6.out).mono ?_); rintro e w' ⟨rfl, ⟨nd, rfl⟩⟩; (try first | exact ⟨rfl, _, World.drewN_drewN _ _ _⟩ | exact ⟨rfl, _, Eq.trans (World.drewN_drewN _ _ _) (congrArg (World.drewN _) (Nat.add_assoc _ _ _))⟩))); try go_wp2_with (first | (go_at_call 106; (with_reducible refine (spec_l1Least.calls a1 x6_1 t113 _ A6.out).mono ?_); rintro e w' ⟨rfl, ⟨nd, rfl⟩⟩; (try first | exact ⟨rfl, _, World.drewN_drewN _ _ _⟩ | exact ⟨rfl, _, Eq.trans (World.drewN_drewN _ _ _) (congrArg (World.drewN _) (Nat.add_assoc _ _ _))⟩))))
     go_roundg k1
     case measure => have := HK1.out; omega
     case rel => exact ⟨(wrap64 (x5_1 + (wrap64 ((rd l0_0 x6_1) * t113)))), (wrap64 (x6_1 + 1)), z2_4, z2_4, H', ⟨by have := HK1.out; omega⟩, ⟨z2_16⟩, ⟨z2_11⟩⟩
    ·rw [if_neg c5] at H
     exact absurd H (by simp)
   ·rw [if_neg c4] at H
    have c4b0 : decide (x6_1 < (l0_0.length : Int)) = false := decide_eq_false c4
    clear c4
    obtain rfl := Option.some.inj H
    have hcz8_0 : wr.cell? ⟨gb111, 0, none⟩ = some (.slice A0_0 l0_0.length c0_0) := bcz BK111.out 0 rfl
    have hcz8_1 : wr.cell? ⟨gb111, 1, none⟩ = some (.int .i64 a0_1) := bcz BK111.out 1 rfl
    have hcz8_2 : wr.cell? ⟨gb111, 2, none⟩ = some (.int .i64 a0_2) := bcz BK111.out 2 rfl
    have hcz8_3 : wr.cell? ⟨gb111, 3, none⟩ = some (.int .i64 a0_3) := bcz BK111.out 3 rfl
    obtain ⟨hfz8_0, hfz8_1, hfz8_2, hfz8_3⟩ := F4z (blk_frozen BK111.out)
    go_wp2
    repeat (go_quiet (fail); try go_wp2)
    go_ret
    exact ⟨z2_5, z2_11⟩

/-! ### spec_l10Seller: function 93 -/
def spec_l10Seller.f (k : Nat) (l0_0 : List Int) (a0_1 : Int) (a0_2 : Int) (a0_3 : Int) (a1_0 : Int) (a1_1 : Int) (a1_2 : Int) (a2 : Int) : Option (Int) := (spec_l10Sales.f k l0_0 a0_1 a0_2 a0_3 a2).bind fun t116 => ((spec_l2Sum.f k l0_0).bind fun t117 => (some (wrap64 ((wrap64 ((wrap64 (a1_2 * a0_1)) * t116)) + (wrap64 (100 * (wrap64 ((wrap64 ((wrap64 (a0_3 + a1_1)) * (wrap64 ((wrap64 (t117 * a2)) - t116)))) - (wrap64 (a1_0 * (wrap64 (t117 * a2))))))))))))
theorem spec_l10Seller.mono : ∀ a0 a1 a2 a3 a4 a5 a6 a7 k, LeO (spec_l10Seller.f k a0 a1 a2 a3 a4 a5 a6 a7) (spec_l10Seller.f (k + 1) a0 a1 a2 a3 a4 a5 a6 a7) := by
 intro a0 a1 a2 a3 a4 a5 a6 a7 k
 unfold spec_l10Seller.f
 repeat' first
   | (with_reducible exact spec_l10Sales.mono _ _ _ _ _ _)
   | (with_reducible exact spec_l2Sum.mono _ _)
   | (with_reducible exact LeO.refl _)
   | (with_reducible exact LeO.none _)
   | (with_reducible refine LeO.ite ?_ ?_)
   | (with_reducible refine LeO.bind ?_ (fun _ => ?_))
   | exact spec_l10Sales.mono _ _ _ _ _ _
   | exact spec_l2Sum.mono _ _
   | exact LeO.none _
   | refine LeO.ite ?_ ?_
   | refine LeO.bind ?_ (fun _ => ?_)
def spec_l10Seller.T1 : Bool × List (List Nat × List Nat) := (true, [([], []), ([], []), ([0, 1], [0, 1]), ([], []), ([3], [3]), ([4, 2], [4]), ([], []), ([5, 6], [5, 6]), ([2, 5, 0, 1, 2], [2]), ([7, 8, 0, 1, 2, 3, 4, 5, 6, 7, 8], [7])])
def spec_l10Seller.B1 : List Nat := [0, 0, 3, 0, 8, 31, 0, 127, 63, 511]
theorem spec_l10Seller.tab1 : rtab .any (opsOf Try.f93 1) = spec_l10Seller.T1 := z2_12
theorem spec_l10Seller.bits1 : waitsOk spec_l10Seller.T1.2 spec_l10Seller.B1 = true := z2_12
set_option maxHeartbeats 8000000 in
set_option maxRecDepth 100000 in
theorem spec_l10Seller.calls (k : Nat) (A0_0 : Option Addr) (c0_0 : Nat) (l0_0 : List Int) (a0_1 : Int) (a0_2 : Int) (a0_3 : Int) (a1_0 : Int) (a1_1 : Int) (a1_2 : Int) (a2 : Int) (r : Int) (w : World) (hr0_0 : Kd.C (Kd.int .i64) w A0_0 l0_0.length l0_0) (hc0_0 : l0_0.length ≤ c0_0) (h : spec_l10Seller.f k l0_0 a0_1 a0_2 a0_3 a1_0 a1_1 a1_2 a2 = some r) :
  Calls Try.prog 93 #[.agg #[.slice A0_0 l0_0.length c0_0, .int .i64 a0_1, .int .i64 a0_2, .int .i64 a0_3], .agg #[.int .i64 a1_0, .int .i64 a1_1, .int .i64 a1_2], .int .i64 a2] w fun e w' => e = .returned (.int .i64 r) ∧ Below w.heap.size w w' := by
 have hu30 := Try.underlying30
 have hu32 := Try.underlying32
 have HR0_0 := z2_A hr0_0
 have HC0_0 := z2_A hc0_0
 clear hr0_0 hc0_0
 have HB := z2_A (Below.refl w.heap.size w)
 have H : ((spec_l10Sales.f k l0_0 a0_1 a0_2 a0_3 a2).bind fun t116 => ((spec_l2Sum.f k l0_0).bind fun t117 => (some (wrap64 ((wrap64 ((wrap64 (a1_2 * a0_1)) * t116)) + (wrap64 (100 * (wrap64 ((wrap64 ((wrap64 (a0_3 + a1_1)) * (wrap64 ((wrap64 (t117 * a2)) - t116)))) - (wrap64 (a1_0 * (wrap64 (t117 * a2))))))))))))) = some r := h
 clear h
 replace H := Option.bind_eq_some_iff.mp H
 obtain ⟨t116, A40, H⟩ := H
 (try dsimp only at H)
 have A4 := z2_A A40
 clear A40
 replace H := Option.bind_eq_some_iff.mp H
 obtain ⟨t117, A50, H⟩ := H
 (try dsimp only at H)
 have A5 := z2_A A50
 clear A50
 obtain rfl := Option.some.inj H
 go_enter Try.func93, Try.ntmps93
 try go_wp2_with (first | ((with_reducible refine gate_dst (N := 3) rfl ?_); refine box_event ?hg (N := 3) ?hd (cs := #[.slice A0_0 l0_0.length c0_0, .int .i64 a0_1, .int .i64 a0_2, .int .i64 a0_3]) (t := 30) ?hr ?_; (case hd => rfl); (case hg => rfl); (case hr => first | (go_simp; done) | (go_simp; rfl)); intro gb114 hg w6 hbox hb; have n0_ := z2_A (below_step z2_1 hb); have n1_ := z2_A (hbox); have n2_ := z2_A ((z2_6 : w.heap.size ≤ gb114)); have n3_ := z2_A ((z2_6 : w.heap.size ≤ gb114)); clear HB; revert n0_ n1_ n2_ n3_; intro HB BK114 GW114 GE114; clear hb hbox hg) | ((with_reducible refine gate_dst (N := 4) rfl ?_); refine box_event ?hg (N := 4) ?hd (cs := #[.int .i64 a1_0, .int .i64 a1_1, .int .i64 a1_2]) (t := 32) ?hr ?_; (case hd => rfl); (case hg => rfl); (case hr => first | (go_simp; done) | (go_simp; rfl)); intro gb115 hg w7 hbox hb; have n0_ := z2_A (blk_below (g := gb114) (o := .cells #[.slice A0_0 l0_0.length c0_0, .int .i64 a0_1, .int .i64 a0_2, .int .i64 a0_3] 30 (0, 0)) z2_8 hb); have n1_ := z2_A (below_step z2_10 hb); have n2_ := z2_A (hbox); have n3_ := z2_A ((by rw [hg]; exact (below_size z2_10) : w.heap.size ≤ gb115)); have n4_ := z2_A ((by rw [hg]; exact (below_size z2_10) : w.heap.size ≤ gb115)); have n5_ := z2_A ((by rw [hg]; exact Nat.ne_of_lt (blk_lt (g := gb114) (o := .cells #[.slice A0_0 l0_0.length c0_0, .int .i64 a0_1, .int .i64 a0_2, .int .i64 a0_3] 30 (0, 0)) z2_8) : gb114 ≠ gb115)); have n6_ := z2_A ((by rw [hg]; exact Nat.ne_of_gt (blk_lt (g := gb114) (o := .cells #[.slice A0_0 l0_0.length c0_0, .int .i64 a0_1, .int .i64 a0_2, .int .i64 a0_3] 30 (0, 0)) z2_8) : gb115 ≠ gb114)); clear BK114 HB; revert n0_ n1_ n2_ n3_ n4_ n5_ n6_; intro BK114 HB BK115 GW115 GE115 NB114_115 NB115_114; clear hb hbox hg))
 have n0_ := z2_A (blk_drew BK114.out)
 have n1_ := z2_A (blk_drew BK115.out)
 have n2_ := z2_A (below_drew1 HB.out)
 clear BK114
 clear BK115
 clear HB
 have BK114 := n0_
 have BK115 := n1_
 have HB := n2_
 clear n0_ n1_ n2_
 refine start_ (n := 10) (S := fun w' => w'.cell? ⟨gb114, 0, none⟩ = some (.slice A0_0 l0_0.length c0_0) ∧ w'.cell? ⟨gb114, 1, none⟩ = some (.int .i64 a0_1) ∧ w'.cell? ⟨gb114, 2, none⟩ = some (.int .i64 a0_2) ∧ w'.cell? ⟨gb114, 3, none⟩ = some (.int .i64 a0_3)) (ds := []) #[false, false, false, false, false, false, false, false, false, false] z2_12 rfl rfl ⟨bcz BK114.out 0 rfl, bcz BK114.out 1 rfl, bcz BK114.out 2 rfl, bcz BK114.out 3 rfl⟩ (fun hHeld => ?_); refine with_tabW spec_l10Seller.tab1 spec_l10Seller.bits1 (fun HT_ HW_ => ?_)
 generalize w7.drew = w8 at BK114 BK115 HB hHeld ⊢
 refine pure_ (i := 1) (N := some 10) (v := ?_) (a' := ?_) #[false, true, false, false, false, false, false, false, false, false] rfl rfl (any_of HT_.out z2_12) (fun _ _ _ h => h) (Or.inl ⟨by rfl, ?_⟩) ?_ ?_
 rotate_left
 ·intro w'
  go_simp
  with_reducible rfl
 rotate_left
 ·simp only [Act.put, List.setIfInBounds_toArray, List.set_cons_zero, List.set_cons_succ, i64_w, i32_w]
  rfl
 refine pure_ (i := 3) (N := some 12) (v := ?_) (a' := ?_) #[false, true, false, true, false, false, false, false, false, false] rfl rfl (any_of HT_.out z2_12) (fun _ _ _ h => h) (Or.inl ⟨by rfl, ?_⟩) ?_ ?_
 rotate_left
 ·intro w'
  go_simp
  with_reducible rfl
 rotate_left
 ·simp only [Act.put, List.setIfInBounds_toArray, List.set_cons_zero, List.set_cons_succ, i64_w, i32_w]
  rfl
 refine pure_ (i := 6) (N := some 15) (v := ?_) (a' := ?_) #[false, true, false, true, false, false, true, false, false, false] rfl rfl (any_of HT_.out z2_12) (fun _ _ _ h => h) (Or.inl ⟨by rfl, ?_⟩) ?_ ?_
 rotate_left
 ·intro w'
  go_simp
  with_reducible rfl
 rotate_left
 ·simp only [Act.put, List.setIfInBounds_toArray, List.set_cons_zero, List.set_cons_succ, i64_w, i32_w]
  rfl
 refine take_ (i := 0) (N := some 9) (v := ?_) (a' := ?_) #[true, true, false, true, false, false, true, false, false, false] rfl rfl (take_ofW HT_.out HW_.out z2_12) (fun _ _ _ h => h) (Or.inl ⟨by rfl, ?_⟩) hHeld ?_ ?_
 rotate_left
 ·rintro w' ⟨s0, s1, s2, s3⟩
  go_simp
  with_reducible rfl
 rotate_left
 ·simp only [Act.put, List.setIfInBounds_toArray, List.set_cons_zero, List.set_cons_succ, i64_w, i32_w]
  rfl
 refine take_ (i := 4) (N := some 13) (v := ?_) (a' := ?_) #[true, true, false, true, true, false, true, false, false, false] rfl rfl (take_ofW HT_.out HW_.out z2_12) (fun _ _ _ h => h) (Or.inl ⟨by rfl, ?_⟩) hHeld ?_ ?_
 rotate_left
 ·rintro w' ⟨s0, s1, s2, s3⟩
  go_simp
  with_reducible rfl
 rotate_left
 ·simp only [Act.put, List.setIfInBounds_toArray, List.set_cons_zero, List.set_cons_succ, i64_w, i32_w]
  rfl
 refine one_ (i := 2) (N := some 11) #[true, true, true, true, true, false, true, false, false, false] rfl rfl (one_of HT_.out z2_12) (by decide) (fun K hK => ?_)
 refine goes_ Try.func98 z2_12 rfl #[.agg #[.slice A0_0 l0_0.length c0_0, .int .i64 a0_1, .int .i64 a0_2, .int .i64 a0_3], .int .i64 a2] (by rfl) rfl rfl z2_3 ?_
 with_reducible refine (spec_l10Sales.calls k _ _ l0_0 a0_1 a0_2 a0_3 a2 t116 _ ?side1 ?side2 A4.out).mono ?_
 (case side1 => have zh := (Kd.C_below HR0_0.out HB.out); exact z2_C)
 (case side2 => exact HC0_0.out)
 rintro e w9 ⟨rfl, hb⟩
 refine ⟨_, rfl, ?_⟩
 have n0_ := z2_A (blk_below (g := gb114) (o := .cells #[.slice A0_0 l0_0.length c0_0, .int .i64 a0_1, .int .i64 a0_2, .int .i64 a0_3] 30 (0, 0)) z2_8 hb)
 have n1_ := z2_A (blk_below (g := gb115) (o := .cells #[.int .i64 a1_0, .int .i64 a1_1, .int .i64 a1_2] 32 (0, 0)) (by (with_reducible repeat (first | refine blk_drewN ?_ _ | refine blk_drew ?_ | refine blk_alloc ?_ _)); exact BK115.out) hb)
 have n2_ := z2_A (below_step z2_14 hb)
 clear BK114
 clear BK115
 clear HB
 have BK114 := n0_
 have BK115 := n1_
 have HB := n2_
 clear n0_ n1_ n2_
 (try clear hb)
 (try clear hb2)
 (try clear hk)
 (try clear hi)
 refine hK.out _ _ ⟨bcz BK114.out 0 rfl, bcz BK114.out 1 rfl, bcz BK114.out 2 rfl, bcz BK114.out 3 rfl⟩ (fun hHeld => ?_)
 clear hK K
 refine norm_ (a' := ?_) ?_ ?_
 rotate_left
 ·show Act.put _ (some 11) _ = _
  simp only [Act.put, List.setIfInBounds_toArray, List.set_cons_zero, List.set_cons_succ, i64_w, i32_w]
  rfl
 refine one_ (i := 5) (N := some 14) #[true, true, true, true, true, true, true, false, false, false] rfl rfl (one_of HT_.out z2_12) (by decide) (fun K hK => ?_)
 refine goes_ Try.func101 z2_12 rfl #[.slice A0_0 l0_0.length c0_0] (by rfl) rfl rfl z2_3 ?_
 with_reducible refine (spec_l2Sum.calls k _ _ l0_0 t117 _ ?side1 ?side2 A5.out).mono ?_
 (case side1 => have zh := (Kd.C_below HR0_0.out HB.out); exact z2_C)
 (case side2 => exact HC0_0.out)
 rintro e w' ⟨rfl, ⟨nd, rfl⟩⟩
 refine ⟨_, rfl, ?_⟩
 refine hK.out _ _ ⟨bcz BK114.out 0 rfl, bcz BK114.out 1 rfl, bcz BK114.out 2 rfl, bcz BK114.out 3 rfl⟩ (fun hHeld => ?_)
 clear hK K
 refine norm_ (a' := ?_) ?_ ?_
 rotate_left
 ·show Act.put _ (some 14) _ = _
  simp only [Act.put, List.setIfInBounds_toArray, List.set_cons_zero, List.set_cons_succ, i64_w, i32_w]
  rfl
 refine pure_ (i := 7) (N := some 16) (v := ?_) (a' := ?_) #[true, true, true, true, true, true, true, true, false, false] rfl rfl (any_of HT_.out z2_12) (fun _ _ _ h => h) (Or.inl ⟨by rfl, ?_⟩) ?_ ?_
 rotate_left
 ·intro w'
  go_simp
  with_reducible rfl
 rotate_left
 ·simp only [Act.put, List.setIfInBounds_toArray, List.set_cons_zero, List.set_cons_succ, i64_w, i32_w]
  rfl
 refine pure_ (i := 8) (N := some 7) (v := ?_) (a' := ?_) #[true, true, true, true, true, true, true, true, true, false] rfl rfl (any_of HT_.out z2_12) (fun _ _ _ h => h) (Or.inl ⟨by rfl, ?_⟩) ?_ ?_
 rotate_left
 ·intro w'
  go_simp
  with_reducible rfl
 rotate_left
 ·simp only [Act.put, List.setIfInBounds_toArray, List.set_cons_zero, List.set_cons_succ, i64_w, i32_w]
  rfl
 refine pure_ (i := 9) (N := some 8) (v := ?_) (a' := ?_) #[true, true, true, true, true, true, true, true, true, true] rfl rfl (any_of HT_.out z2_12) (fun _ _ _ h => h) (Or.inl ⟨by rfl, ?_⟩) ?_ ?_
 rotate_left
 ·intro w'
  go_simp
  with_reducible rfl
 rotate_left
 ·simp only [Act.put, List.setIfInBounds_toArray, List.set_cons_zero, List.set_cons_succ, i64_w, i32_w]
  rfl
 refine done_ (done_of HT_.out z2_12) ?_
 have hnb10 := NB115_114.out
 have hnc10 := NB114_115.out
 have hcz11_0 : w9.cell? ⟨gb115, 0, none⟩ = some (.int .i64 a1_0) := bcz BK115.out 0 rfl
 have hcz11_1 : w9.cell? ⟨gb115, 1, none⟩ = some (.int .i64 a1_1) := bcz BK115.out 1 rfl
 have hcz11_2 : w9.cell? ⟨gb115, 2, none⟩ = some (.int .i64 a1_2) := bcz BK115.out 2 rfl
 obtain ⟨hfz11_0, hfz11_1, hfz11_2⟩ := F3z (blk_frozen BK115.out)
 have hcz12_0 : w9.cell? ⟨gb114, 0, none⟩ = some (.slice A0_0 l0_0.length c0_0) := bcz BK114.out 0 rfl
 have hcz12_1 : w9.cell? ⟨gb114, 1, none⟩ = some (.int .i64 a0_1) := bcz BK114.out 1 rfl
 have hcz12_2 : w9.cell? ⟨gb114, 2, none⟩ = some (.int .i64 a0_2) := bcz BK114.out 2 rfl
 have hcz12_3 : w9.cell? ⟨gb114, 3, none⟩ = some (.int .i64 a0_3) := bcz BK114.out 3 rfl
 obtain ⟨hfz12_0, hfz12_1, hfz12_2, hfz12_3⟩ := F4z (blk_frozen BK114.out)
 try go_wp2
 go_ret
 exact ⟨z2_5, z2_14⟩

end Go.Proofs.Ytiniocecpgjikaa.PFnProfits
