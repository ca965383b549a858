-- A text of this session (its program hook.py, over the kit's print.py): not a print of print.sh
-- THIN: one blank for two
import Derived.Test.YtgkjnhajomjhcaaPFnShelvesx0
namespace Go.Proofs.Ytgkjnhajomjhcaa.PFnShelves
open Go.RowKit Go.Proofs.YtgkjnhajomjhcaaW.PrintWords Go.Proofs.YtgkjnhajomjhcaaW.PrintLast Go.Proofs.YtgkjnhajomjhcaaW.PrintMore
attribute [local go_sem] max2_int min2_int max_two min_two max_three min_three max_four min_four   -- for this text's walks alone
set_option linter.unusedVariables false
set_option linter.unusedSimpArgs false

/-! ### spec_l2Before: function 75 -/
def spec_l2Before.l0 : Nat → List Int → List Int → Int → Option (Bool)
 | 0, _, _, _ => none
 | k + 1, a, b, c => if c < (a.length : Int) then (if 0 ≤ c then (if c < (b.length : Int) then (if (rd a c) = (rd b c) then (spec_l2Before.l0 k a b (wrap64 (c + 1))) else (some (decide ((rd a c) < (rd b c))))) else (none)) else (none)) else (some false)
def spec_l2Before.f (k : Nat) (a : List Int) (b : List Int) : Option (Bool) := if (a.length : Int) = (b.length : Int) then (spec_l2Before.l0 k a b 0) else (some (decide ((a.length : Int) < (b.length : Int))))
theorem spec_l2Before.mono_l : ∀ k, (∀ y0 y1 y2, LeO (spec_l2Before.l0 k y0 y1 y2) (spec_l2Before.l0 (k + 1) y0 y1 y2))
 | 0 => fun _ _ _ r h => by simp [spec_l2Before.l0] at h
 | k + 1 => by
  have ih0 := spec_l2Before.mono_l k
  ·intro y0 y1 y2
   unfold spec_l2Before.l0
   repeat' with_reducible first | apply ih0 | exact LeO.refl _ | refine LeO.ite ?_ ?_
theorem spec_l2Before.mono : ∀ a0 a1 k, LeO (spec_l2Before.f k a0 a1) (spec_l2Before.f (k + 1) a0 a1) := by
 intro a0 a1 k
 have ih0 := spec_l2Before.mono_l k
 unfold spec_l2Before.f
 repeat' with_reducible first | apply ih0 | exact LeO.refl _ | refine LeO.ite ?_ ?_
set_option maxHeartbeats 8000000 in
set_option maxRecDepth 100000 in
theorem spec_l2Before.calls (k : Nat) (A0 : Option Addr) (c0 : Nat) (l0 : List Int) (A1 : Option Addr) (c1 : Nat) (l1 : List Int) (r : Bool) (w : World) (hr0 : Kd.C (Kd.int .i64) w A0 l0.length l0) (hc0 : l0.length ≤ c0) (hr1 : Kd.C (Kd.int .i64) w A1 l1.length l1) (hc1 : l1.length ≤ c1) (h : spec_l2Before.f k l0 l1 = some r) :
  Calls Try.prog 75 #[.slice A0 l0.length c0, .slice A1 l1.length c1] w fun e w' => e = .returned (.bool r) ∧ Drawn0 w w' := by
 have HR0 := zA hr0; have HC0 := zA hc0; clear hr0 hc0; have HR1 := zA hr1; have HC1 := zA hc1; clear hr1 hc1; unfold spec_l2Before.f at h; revert h; intro H; by_cases c3 : (l0.length : Int) = (l1.length : Int); rotate_left
 ·rw [if_neg c3] at H; have c3b0 : ((l0.length : Int) == (l1.length : Int)) = false := beq_eq_false_iff_ne.mpr c3; have c3b1 : ((l0.length : Int) != (l1.length : Int)) = true := bne_iff_ne.mpr c3; (have c3b2 : (l0.length == l1.length) = false := by (simp at c3 ⊢; omega)); obtain rfl := Option.some.inj H; go_enter Try.func75, Try.ntmps75; go_wp2; go_ret; exact ⟨by rfl, by exact Drawn0.refl _⟩
 rw [if_pos c3] at H; have c3b0 : ((l0.length : Int) == (l1.length : Int)) = true := beq_iff_eq.mpr c3; have c3b1 : ((l0.length : Int) != (l1.length : Int)) = false := bne_eq_false_iff_eq.mpr c3; (have c3b2 : (l0.length == l1.length) = true := by (simp at c3 ⊢; omega)); clear c3; have H' := zA H; clear H; go_enter Try.func75, Try.ntmps75; go_wp2; go_loopg [5] k (fun kq v5 w' => ∃ (x5_1 : Int), v5 = .int .i64 x5_1 ∧ Aside0 (spec_l2Before.l0 kq l0 l1 x5_1 = some r) ∧ Aside0 (kq ≤ k) ∧ Drawn0 w w'); case atStart => exact ⟨(0), (by rfl), H', ⟨Nat.le_refl _⟩, by exact Drawn0.refl _⟩
 case round =>
 clear H' c3b0 c3b1 c3b2; obtain ⟨x5_1, rfl, HA, HK1, ⟨m1, rfl⟩⟩ := hrel; cases gk with
 | zero => exact absurd HA.out (by simp [spec_l2Before.l0])
 | succ k1 => ?_
 have H := HA.out; clear HA; simp only [spec_l2Before.l0] at H; by_cases c4 : x5_1 < (l0.length : Int); rotate_left
 ·rw [if_neg c4] at H; have c4b0 := decide_eq_false c4; clear c4; obtain rfl := Option.some.inj H; go_wp2; go_ret; exact ⟨by rfl, by repeat (first | exact Drawn0.refl _ | apply Drawn0.step)⟩
 rw [if_pos c4] at H; have c4b0 := decide_eq_true c4; clear c4; by_cases c5 : 0 ≤ x5_1; rotate_left
 ·rw [if_neg c5] at H; exact absurd H (by simp)
 rw [if_pos c5] at H; have c5b0 := decide_eq_true c5; clear c5; by_cases c6 : x5_1 < (l1.length : Int); rotate_left
 ·rw [if_neg c6] at H; exact absurd H (by simp)
 rw [if_pos c6] at H; have c6b0 := decide_eq_true c6; clear c6; by_cases c7 : (rd l0 x5_1) = (rd l1 x5_1)
 ·rw [if_pos c7] at H; have c7b0 : ((rd l0 x5_1) == (rd l1 x5_1)) = true := beq_iff_eq.mpr c7; have c7b1 : ((rd l0 x5_1) != (rd l1 x5_1)) = false := bne_eq_false_iff_eq.mpr c7; clear c7; have H' := zA H; clear H; have p261 : 0 ≤ (x5_1 : Int) := of_decide_eq_true (by (with_reducible assumption)); have q261 : x5_1 < (l0.length : Int) := of_decide_eq_true (by (with_reducible assumption)); obtain ⟨ad261, e261, hx261_0⟩ := Kd.at_int HR0.out x5_1 p261 q261; cases e261; replace p261 := eq_true p261; replace q261 := eq_true q261; have p262 : 0 ≤ (x5_1 : Int) := of_decide_eq_true (by (with_reducible assumption)); have q262 : x5_1 < (l1.length : Int) := of_decide_eq_true (by (with_reducible assumption)); obtain ⟨ad262, e262, hx262_0⟩ := Kd.at_int HR1.out x5_1 p262 q262; cases e262; replace p262 := eq_true p262; replace q262 := eq_true q262; go_wp2; (repeat (go_quiet (fail); try go_wp2)); go_roundg k1; (case measure => have := HK1.out; omega); case rel => exact ⟨(wrap64 (x5_1 + 1)), (by rfl), H', ⟨by have := HK1.out; omega⟩, by repeat (first | exact Drawn0.refl _ | apply Drawn0.step)⟩
 rw [if_neg c7] at H; have c7b0 : ((rd l0 x5_1) == (rd l1 x5_1)) = false := beq_eq_false_iff_ne.mpr c7; have c7b1 : ((rd l0 x5_1) != (rd l1 x5_1)) = true := bne_iff_ne.mpr c7; obtain rfl := Option.some.inj H; have p261 : 0 ≤ (x5_1 : Int) := of_decide_eq_true (by (with_reducible assumption)); have q261 : x5_1 < (l0.length : Int) := of_decide_eq_true (by (with_reducible assumption)); obtain ⟨ad261, e261, hx261_0⟩ := Kd.at_int HR0.out x5_1 p261 q261; cases e261; replace p261 := eq_true p261; replace q261 := eq_true q261; have p262 : 0 ≤ (x5_1 : Int) := of_decide_eq_true (by (with_reducible assumption)); have q262 : x5_1 < (l1.length : Int) := of_decide_eq_true (by (with_reducible assumption)); obtain ⟨ad262, e262, hx262_0⟩ := Kd.at_int HR1.out x5_1 p262 q262; cases e262; replace p262 := eq_true p262; replace q262 := eq_true q262; have p263 : 0 ≤ (x5_1 : Int) := of_decide_eq_true (by (with_reducible assumption)); have q263 : x5_1 < (l0.length : Int) := of_decide_eq_true (by (with_reducible assumption)); obtain ⟨ad263, e263, hx263_0⟩ := Kd.at_int HR0.out x5_1 p263 q263; obtain rfl : ad261 = ad263 := (by injection e263); replace p263 := eq_true p263; replace q263 := eq_true q263; have p264 : 0 ≤ (x5_1 : Int) := of_decide_eq_true (by (with_reducible assumption)); have q264 : x5_1 < (l1.length : Int) := of_decide_eq_true (by (with_reducible assumption)); obtain ⟨ad264, e264, hx264_0⟩ := Kd.at_int HR1.out x5_1 p264 q264; obtain rfl : ad262 = ad264 := (by injection e264); replace p264 := eq_true p264; replace q264 := eq_true q264; go_wp2; (repeat (go_quiet (fail); try go_wp2)); go_ret; exact ⟨by rfl, by repeat (first | exact Drawn0.refl _ | apply Drawn0.step)⟩
end Go.Proofs.Ytgkjnhajomjhcaa.PFnShelves
