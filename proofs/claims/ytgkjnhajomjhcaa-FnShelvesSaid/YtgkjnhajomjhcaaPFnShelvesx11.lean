-- A text of this session (its program hook.py, over the kit's print.py): not a print of print.sh
-- THIN: one blank for two
import Derived.Test.YtgkjnhajomjhcaaPFnShelvesx0
import Derived.Test.YtgkjnhajomjhcaaPFnShelvesx10
namespace Go.Proofs.Ytgkjnhajomjhcaa.PFnShelves
open Go.RowKit Go.Proofs.YtgkjnhajomjhcaaW.PrintWords Go.Proofs.YtgkjnhajomjhcaaW.PrintLast Go.Proofs.YtgkjnhajomjhcaaW.PrintMore
attribute [local go_sem] max2_int min2_int max_two min_two max_three min_three max_four min_four   -- for this text's walks alone
set_option linter.unusedVariables false
set_option linter.unusedSimpArgs false

/-! ### cmp_Compare_int: function 116 -/
def cmp_Compare_int.f (a : Int) (b : Int) : Option (Int) := (cmp_isNaN_int.f a).bind fun c => ((cmp_isNaN_int.f b).bind fun d => (if c = true then (if d = true then (some 0) else (some (-1))) else (if d = true then (some 1) else (if a < b then (some (-1)) else (if a > b then (some 1) else (some 0))))))
set_option maxHeartbeats 8000000 in
set_option maxRecDepth 100000 in
theorem cmp_Compare_int.calls (a0 : Int) (a1 : Int) (r : Int) (w : World) (h : cmp_Compare_int.f a0 a1 = some r) :
  Calls Try.prog 116 #[.int .i64 a0, .int .i64 a1] w fun e w' => e = .returned (.int .i64 r) ∧ Drawn0 w w' := by
 unfold cmp_Compare_int.f at h; revert h; intro H; obtain ⟨t276, A3, H⟩ := zB H; obtain ⟨t277, A4, H⟩ := zB H; by_cases c5 : t276 = true
 ·subst c5; rw [if_pos rfl] at H; by_cases c6 : t277 = true
  ·subst c6; rw [if_pos rfl] at H; obtain rfl := Option.some.inj H; go_enter Try.func116, Try.ntmps116; go_wp2_with (first | ((with_reducible refine gate_callee (f := 130) rfl ?_); refine goesL_ (some 8) rfl rfl Try.func130 (by kernel_rfl) rfl #[.int .i64 a0] rfl (by (try simp only [List.map_toArray, List.map_cons, List.map_nil]); rfl) ?_; (with_reducible refine (cmp_isNaN_int.calls a0 true _ A3.out).mono ?_); rintro e w' ⟨rfl, ⟨nd, rfl⟩⟩; refine ⟨_, rfl, ?_⟩) | ((with_reducible refine gate_callee (f := 130) rfl ?_); refine goesL_ (some 10) rfl rfl Try.func130 (by kernel_rfl) rfl #[.int .i64 a1] rfl (by (try simp only [List.map_toArray, List.map_cons, List.map_nil]); rfl) ?_; (with_reducible refine (cmp_isNaN_int.calls a1 true _ A4.out).mono ?_); rintro e w' ⟨rfl, ⟨nd, rfl⟩⟩; refine ⟨_, rfl, ?_⟩)); go_ret; exact ⟨by rfl, by repeat (first | exact Drawn0.refl _ | apply Drawn0.step)⟩
  replace c6 := Bool.eq_false_iff.mpr c6; subst c6; rw [if_neg (show ¬ (false = true) by decide)] at H; obtain rfl := Option.some.inj H; go_enter Try.func116, Try.ntmps116; go_wp2_with (first | ((with_reducible refine gate_callee (f := 130) rfl ?_); refine goesL_ (some 8) rfl rfl Try.func130 (by kernel_rfl) rfl #[.int .i64 a0] rfl (by (try simp only [List.map_toArray, List.map_cons, List.map_nil]); rfl) ?_; (with_reducible refine (cmp_isNaN_int.calls a0 true _ A3.out).mono ?_); rintro e w' ⟨rfl, ⟨nd, rfl⟩⟩; refine ⟨_, rfl, ?_⟩) | ((with_reducible refine gate_callee (f := 130) rfl ?_); refine goesL_ (some 10) rfl rfl Try.func130 (by kernel_rfl) rfl #[.int .i64 a1] rfl (by (try simp only [List.map_toArray, List.map_cons, List.map_nil]); rfl) ?_; (with_reducible refine (cmp_isNaN_int.calls a1 false _ A4.out).mono ?_); rintro e w' ⟨rfl, ⟨nd, rfl⟩⟩; refine ⟨_, rfl, ?_⟩)); go_ret; exact ⟨by rfl, by repeat (first | exact Drawn0.refl _ | apply Drawn0.step)⟩
 replace c5 := Bool.eq_false_iff.mpr c5; subst c5; rw [if_neg (show ¬ (false = true) by decide)] at H; by_cases c7 : t277 = true
 ·subst c7; rw [if_pos rfl] at H; obtain rfl := Option.some.inj H; go_enter Try.func116, Try.ntmps116; go_wp2_with (first | ((with_reducible refine gate_callee (f := 130) rfl ?_); refine goesL_ (some 8) rfl rfl Try.func130 (by kernel_rfl) rfl #[.int .i64 a0] rfl (by (try simp only [List.map_toArray, List.map_cons, List.map_nil]); rfl) ?_; (with_reducible refine (cmp_isNaN_int.calls a0 false _ A3.out).mono ?_); rintro e w' ⟨rfl, ⟨nd, rfl⟩⟩; refine ⟨_, rfl, ?_⟩) | ((with_reducible refine gate_callee (f := 130) rfl ?_); refine goesL_ (some 10) rfl rfl Try.func130 (by kernel_rfl) rfl #[.int .i64 a1] rfl (by (try simp only [List.map_toArray, List.map_cons, List.map_nil]); rfl) ?_; (with_reducible refine (cmp_isNaN_int.calls a1 true _ A4.out).mono ?_); rintro e w' ⟨rfl, ⟨nd, rfl⟩⟩; refine ⟨_, rfl, ?_⟩)); go_ret; exact ⟨by rfl, by repeat (first | exact Drawn0.refl _ | apply Drawn0.step)⟩
 replace c7 := Bool.eq_false_iff.mpr c7; subst c7; rw [if_neg (show ¬ (false = true) by decide)] at H; by_cases c8 : a0 < a1
 ·rw [if_pos c8] at H; have c8b0 := decide_eq_true c8; clear c8; obtain rfl := Option.some.inj H; go_enter Try.func116, Try.ntmps116; go_wp2_with (first | ((with_reducible refine gate_callee (f := 130) rfl ?_); refine goesL_ (some 8) rfl rfl Try.func130 (by kernel_rfl) rfl #[.int .i64 a0] rfl (by (try simp only [List.map_toArray, List.map_cons, List.map_nil]); rfl) ?_; (with_reducible refine (cmp_isNaN_int.calls a0 false _ A3.out).mono ?_); rintro e w' ⟨rfl, ⟨nd, rfl⟩⟩; refine ⟨_, rfl, ?_⟩) | ((with_reducible refine gate_callee (f := 130) rfl ?_); refine goesL_ (some 10) rfl rfl Try.func130 (by kernel_rfl) rfl #[.int .i64 a1] rfl (by (try simp only [List.map_toArray, List.map_cons, List.map_nil]); rfl) ?_; (with_reducible refine (cmp_isNaN_int.calls a1 false _ A4.out).mono ?_); rintro e w' ⟨rfl, ⟨nd, rfl⟩⟩; refine ⟨_, rfl, ?_⟩)); go_ret; exact ⟨by rfl, by repeat (first | exact Drawn0.refl _ | apply Drawn0.step)⟩
 rw [if_neg c8] at H; have c8b0 := decide_eq_false c8; clear c8; by_cases c9 : a0 > a1
 ·rw [if_pos c9] at H; have c9b0 : decide (a1 < a0) = true := decide_eq_true c9; clear c9; obtain rfl := Option.some.inj H; go_enter Try.func116, Try.ntmps116; go_wp2_with (first | ((with_reducible refine gate_callee (f := 130) rfl ?_); refine goesL_ (some 8) rfl rfl Try.func130 (by kernel_rfl) rfl #[.int .i64 a0] rfl (by (try simp only [List.map_toArray, List.map_cons, List.map_nil]); rfl) ?_; (with_reducible refine (cmp_isNaN_int.calls a0 false _ A3.out).mono ?_); rintro e w' ⟨rfl, ⟨nd, rfl⟩⟩; refine ⟨_, rfl, ?_⟩) | ((with_reducible refine gate_callee (f := 130) rfl ?_); refine goesL_ (some 10) rfl rfl Try.func130 (by kernel_rfl) rfl #[.int .i64 a1] rfl (by (try simp only [List.map_toArray, List.map_cons, List.map_nil]); rfl) ?_; (with_reducible refine (cmp_isNaN_int.calls a1 false _ A4.out).mono ?_); rintro e w' ⟨rfl, ⟨nd, rfl⟩⟩; refine ⟨_, rfl, ?_⟩)); go_ret; exact ⟨by rfl, by repeat (first | exact Drawn0.refl _ | apply Drawn0.step)⟩
 rw [if_neg c9] at H; have c9b0 : decide (a1 < a0) = false := decide_eq_false c9; clear c9; obtain rfl := Option.some.inj H; go_enter Try.func116, Try.ntmps116; go_wp2_with (first | ((with_reducible refine gate_callee (f := 130) rfl ?_); refine goesL_ (some 8) rfl rfl Try.func130 (by kernel_rfl) rfl #[.int .i64 a0] rfl (by (try simp only [List.map_toArray, List.map_cons, List.map_nil]); rfl) ?_; (with_reducible refine (cmp_isNaN_int.calls a0 false _ A3.out).mono ?_); rintro e w' ⟨rfl, ⟨nd, rfl⟩⟩; refine ⟨_, rfl, ?_⟩) | ((with_reducible refine gate_callee (f := 130) rfl ?_); refine goesL_ (some 10) rfl rfl Try.func130 (by kernel_rfl) rfl #[.int .i64 a1] rfl (by (try simp only [List.map_toArray, List.map_cons, List.map_nil]); rfl) ?_; (with_reducible refine (cmp_isNaN_int.calls a1 false _ A4.out).mono ?_); rintro e w' ⟨rfl, ⟨nd, rfl⟩⟩; refine ⟨_, rfl, ?_⟩)); go_ret; exact ⟨by rfl, by repeat (first | exact Drawn0.refl _ | apply Drawn0.step)⟩
/-! ### slices_Compare_int_int: function 104 -/
def slices_Compare_int_int.l0 : Nat → List Int → List Int → List Int → Int → Int → Option (Int)
 | 0, _, _, _, _, _ => none
 | k + 1, a, b, c, d, e => if e < d then (if 0 ≤ e then (if e < (c.length : Int) then (if e ≥ (b.length : Int) then (some 1) else (if e < (b.length : Int) then ((cmp_Compare_int.f (rd c e) (rd b e)).bind fun f => (if f = 0 then (slices_Compare_int_int.l0 k a b c d (wrap64 (e + 1))) else (some f))) else (none))) else (none)) else (none)) else (if (a.length : Int) < (b.length : Int) then (some (-1)) else (some 0))
def slices_Compare_int_int.f (k : Nat) (a : List Int) (b : List Int) : Option (Int) := slices_Compare_int_int.l0 k a b a (a.length : Int) 0
theorem slices_Compare_int_int.mono_l : ∀ k, (∀ y0 y1 y2 y3 y4, LeO (slices_Compare_int_int.l0 k y0 y1 y2 y3 y4) (slices_Compare_int_int.l0 (k + 1) y0 y1 y2 y3 y4))
 | 0 => fun _ _ _ _ _ r h => by simp [slices_Compare_int_int.l0] at h
 | k + 1 => by
  have ih0 := slices_Compare_int_int.mono_l k
  ·intro y0 y1 y2 y3 y4
   unfold slices_Compare_int_int.l0
   repeat' with_reducible first | apply ih0 | exact LeO.refl _ | refine LeO.ite ?_ ?_ | refine LeO.bind ?_ (fun _ => ?_)
theorem slices_Compare_int_int.mono : ∀ a0 a1 k, LeO (slices_Compare_int_int.f k a0 a1) (slices_Compare_int_int.f (k + 1) a0 a1) := by
 intro a0 a1 k
 have ih0 := slices_Compare_int_int.mono_l k
 unfold slices_Compare_int_int.f
 repeat' with_reducible first | apply ih0
set_option maxHeartbeats 8000000 in
set_option maxRecDepth 100000 in
theorem slices_Compare_int_int.calls (k : Nat) (A0 : Option Addr) (c0 : Nat) (l0 : List Int) (A1 : Option Addr) (c1 : Nat) (l1 : List Int) (r : Int) (w : World) (hr0 : Kd.C (Kd.int .i64) w A0 l0.length l0) (hc0 : l0.length ≤ c0) (hr1 : Kd.C (Kd.int .i64) w A1 l1.length l1) (hc1 : l1.length ≤ c1) (h : slices_Compare_int_int.f k l0 l1 = some r) :
  Calls Try.prog 104 #[.slice A0 l0.length c0, .slice A1 l1.length c1] w fun e w' => e = .returned (.int .i64 r) ∧ Drawn0 w w' := by
 have HR0 := zA hr0; have HC0 := zA hc0; clear hr0 hc0; have HR1 := zA hr1; have HC1 := zA hc1; clear hr1 hc1; unfold slices_Compare_int_int.f at h; revert h; intro H; have H' := zA H; clear H; go_enter Try.func104, Try.ntmps104; go_wp2; go_loopg [11] k (fun kq v11 w' => ∃ (x11_1 : Int), v11 = .int .i64 x11_1 ∧ Aside0 (slices_Compare_int_int.l0 kq l0 l1 l0 (l0.length : Int) x11_1 = some r) ∧ Aside0 (kq ≤ k) ∧ Drawn0 w w'); case atStart => exact ⟨(0), (by rfl), H', ⟨Nat.le_refl _⟩, by exact Drawn0.refl _⟩
 case round =>
 clear H'; obtain ⟨x11_1, rfl, HA, HK1, ⟨m1, rfl⟩⟩ := hrel; cases gk with
 | zero => exact absurd HA.out (by simp [slices_Compare_int_int.l0])
 | succ k1 => ?_
 have H := HA.out; clear HA; simp only [slices_Compare_int_int.l0] at H; by_cases c3 : x11_1 < (l0.length : Int); rotate_left
 ·rw [if_neg c3] at H; have c3b0 := decide_eq_false c3; clear c3; by_cases c10 : (l0.length : Int) < (l1.length : Int)
  ·rw [if_pos c10] at H; have c10b0 := decide_eq_true c10; have c10b1 : decide (l0.length < l1.length) = true := decide_eq_true (Int.ofNat_lt.mp c10); clear c10; obtain rfl := Option.some.inj H; go_wp2; go_ret; exact ⟨by rfl, by repeat (first | exact Drawn0.refl _ | apply Drawn0.step)⟩
  rw [if_neg c10] at H; have c10b0 := decide_eq_false c10; have c10b1 : decide (l0.length < l1.length) = false := decide_eq_false (fun h => c10 (Int.ofNat_lt.mpr h)); clear c10; obtain rfl := Option.some.inj H; go_wp2; go_ret; exact ⟨by rfl, by repeat (first | exact Drawn0.refl _ | apply Drawn0.step)⟩
 rw [if_pos c3] at H; have c3b0 := decide_eq_true c3; clear c3; by_cases c4 : 0 ≤ x11_1; rotate_left
 ·rw [if_neg c4] at H; exact absurd H (by simp)
 rw [if_pos c4] at H; have c4b0 := decide_eq_true c4; clear c4; by_cases c5 : x11_1 < (l0.length : Int); rotate_left
 ·rw [if_neg c5] at H; exact absurd H (by simp)
 rw [if_pos c5] at H; have c5b0 := decide_eq_true c5; clear c5; by_cases c6 : x11_1 ≥ (l1.length : Int)
 ·rw [if_pos c6] at H; have c6b0 : decide ((l1.length : Int) ≤ x11_1) = true := decide_eq_true c6; clear c6; obtain rfl := Option.some.inj H; have p278 : 0 ≤ (x11_1 : Int) := of_decide_eq_true (by (with_reducible assumption)); have q278 : x11_1 < (l0.length : Int) := of_decide_eq_true (by (with_reducible assumption)); obtain ⟨ad278, e278, hx278_0⟩ := Kd.at_int HR0.out x11_1 p278 q278; cases e278; replace p278 := eq_true p278; replace q278 := eq_true q278; go_wp2; go_ret; exact ⟨by rfl, by repeat (first | exact Drawn0.refl _ | apply Drawn0.step)⟩
 rw [if_neg c6] at H; have c6b0 : decide ((l1.length : Int) ≤ x11_1) = false := decide_eq_false c6; clear c6; by_cases c7 : x11_1 < (l1.length : Int); rotate_left
 ·rw [if_neg c7] at H; exact absurd H (by simp)
 rw [if_pos c7] at H; have c7b0 := decide_eq_true c7; clear c7; obtain ⟨t280, A8, H⟩ := zB H; by_cases c9 : t280 = 0; rotate_left
 ·rw [if_neg c9] at H; have c9b0 : (t280 == 0) = false := beq_eq_false_iff_ne.mpr c9; have c9b1 : (t280 != 0) = true := bne_iff_ne.mpr c9; obtain rfl := Option.some.inj H; have p278 : 0 ≤ (x11_1 : Int) := of_decide_eq_true (by (with_reducible assumption)); have q278 : x11_1 < (l0.length : Int) := of_decide_eq_true (by (with_reducible assumption)); obtain ⟨ad278, e278, hx278_0⟩ := Kd.at_int HR0.out x11_1 p278 q278; cases e278; replace p278 := eq_true p278; replace q278 := eq_true q278; have p279 : 0 ≤ (x11_1 : Int) := of_decide_eq_true (by (with_reducible assumption)); have q279 : x11_1 < (l1.length : Int) := of_decide_eq_true (by (with_reducible assumption)); obtain ⟨ad279, e279, hx279_0⟩ := Kd.at_int HR1.out x11_1 p279 q279; cases e279; replace p279 := eq_true p279; replace q279 := eq_true q279; go_wp2_with ((with_reducible refine gate_callee (f := 116) rfl ?_); refine goesL_ (some 26) rfl rfl Try.func116 (by kernel_rfl) rfl #[.int .i64 (rd l0 x11_1), .int .i64 (rd l1 x11_1)] rfl (by (try simp only [List.map_toArray, List.map_cons, List.map_nil]); rfl) ?_; (with_reducible refine (cmp_Compare_int.calls (rd l0 x11_1) (rd l1 x11_1) t280 _ A8.out).mono ?_); rintro e w' ⟨rfl, ⟨nd, rfl⟩⟩; refine ⟨_, rfl, ?_⟩); go_ret; exact ⟨by rfl, by repeat (first | exact Drawn0.refl _ | apply Drawn0.step)⟩
 rw [if_pos c9] at H; have c9b0 : (t280 == 0) = true := beq_iff_eq.mpr c9; have c9b1 : (t280 != 0) = false := bne_eq_false_iff_eq.mpr c9; clear c9; have H' := zA H; clear H; have p278 : 0 ≤ (x11_1 : Int) := of_decide_eq_true (by (with_reducible assumption)); have q278 : x11_1 < (l0.length : Int) := of_decide_eq_true (by (with_reducible assumption)); obtain ⟨ad278, e278, hx278_0⟩ := Kd.at_int HR0.out x11_1 p278 q278; cases e278; replace p278 := eq_true p278; replace q278 := eq_true q278; have p279 : 0 ≤ (x11_1 : Int) := of_decide_eq_true (by (with_reducible assumption)); have q279 : x11_1 < (l1.length : Int) := of_decide_eq_true (by (with_reducible assumption)); obtain ⟨ad279, e279, hx279_0⟩ := Kd.at_int HR1.out x11_1 p279 q279; cases e279; replace p279 := eq_true p279; replace q279 := eq_true q279; go_wp2_with ((with_reducible refine gate_callee (f := 116) rfl ?_); refine goesL_ (some 26) rfl rfl Try.func116 (by kernel_rfl) rfl #[.int .i64 (rd l0 x11_1), .int .i64 (rd l1 x11_1)] rfl (by (try simp only [List.map_toArray, List.map_cons, List.map_nil]); rfl) ?_; (with_reducible refine (cmp_Compare_int.calls (rd l0 x11_1) (rd l1 x11_1) t280 _ A8.out).mono ?_); rintro e w' ⟨rfl, ⟨nd, rfl⟩⟩; refine ⟨_, rfl, ?_⟩); go_roundg k1; (case measure => have := HK1.out; omega); case rel => exact ⟨(wrap64 (x11_1 + 1)), (by rfl), H', ⟨by have := HK1.out; omega⟩, by repeat (first | exact Drawn0.refl _ | apply Drawn0.step)⟩
/-! ### impl_sets_1: function 103 -/
def impl_sets_1.f (k : Nat) (a : List Int) (b : List Int) : Option (Int) := if (a.length : Int) = (b.length : Int) then ((slices_Compare_int_int.f k a b).bind fun c => (some c)) else (some (wrap64 ((a.length : Int) - (b.length : Int))))
theorem impl_sets_1.mono : ∀ a0 a1 k, LeO (impl_sets_1.f k a0 a1) (impl_sets_1.f (k + 1) a0 a1) := by
 intro a0 a1 k
 unfold impl_sets_1.f
 repeat' with_reducible first | apply slices_Compare_int_int.mono | exact LeO.refl _ | refine LeO.ite ?_ ?_ | refine LeO.bind ?_ (fun _ => ?_)
set_option maxHeartbeats 8000000 in
set_option maxRecDepth 100000 in
theorem impl_sets_1.calls (k : Nat) (A0 : Option Addr) (c0 : Nat) (l0 : List Int) (A1 : Option Addr) (c1 : Nat) (l1 : List Int) (r : Int) (w : World) (hr0 : Kd.C (Kd.int .i64) w A0 l0.length l0) (hc0 : l0.length ≤ c0) (hr1 : Kd.C (Kd.int .i64) w A1 l1.length l1) (hc1 : l1.length ≤ c1) (h : impl_sets_1.f k l0 l1 = some r) :
  Calls Try.prog 103 #[.slice A0 l0.length c0, .slice A1 l1.length c1] w fun e w' => e = .returned (.int .i64 r) ∧ Drawn0 w w' := by
 have HR0 := zA hr0; have HC0 := zA hc0; clear hr0 hc0; have HR1 := zA hr1; have HC1 := zA hc1; clear hr1 hc1; unfold impl_sets_1.f at h; revert h; intro H; by_cases c3 : (l0.length : Int) = (l1.length : Int)
 ·rw [if_pos c3] at H; have c3b0 : ((l0.length : Int) == (l1.length : Int)) = true := beq_iff_eq.mpr c3; have c3b1 : ((l0.length : Int) != (l1.length : Int)) = false := bne_eq_false_iff_eq.mpr c3; (have c3b2 : (l0.length == l1.length) = true := by (simp at c3 ⊢; omega)); clear c3; obtain ⟨t281, A4, H⟩ := zB H; obtain rfl := Option.some.inj H; go_enter Try.func103, Try.ntmps103; go_wp2_with ((with_reducible refine gate_callee (f := 104) rfl ?_); refine goesL_ (some 17) rfl rfl Try.func104 (by kernel_rfl) rfl #[.slice A0 l0.length c0, .slice A1 l1.length c1] rfl (by (try simp only [List.map_toArray, List.map_cons, List.map_nil]); rfl) ?_; (with_reducible refine (slices_Compare_int_int.calls k _ _ l0 _ _ l1 t281 _ ?side1 ?side2 ?side3 ?side4 A4.out).mono ?_); (case side1 => exact HR0.out); (case side2 => exact HC0.out); (case side3 => exact HR1.out); (case side4 => exact HC1.out); rintro e w' ⟨rfl, ⟨nd, rfl⟩⟩; refine ⟨_, rfl, ?_⟩); go_ret; exact ⟨by rfl, by repeat (first | exact Drawn0.refl _ | apply Drawn0.step)⟩
 rw [if_neg c3] at H; have c3b0 : ((l0.length : Int) == (l1.length : Int)) = false := beq_eq_false_iff_ne.mpr c3; have c3b1 : ((l0.length : Int) != (l1.length : Int)) = true := bne_iff_ne.mpr c3; (have c3b2 : (l0.length == l1.length) = false := by (simp at c3 ⊢; omega)); obtain rfl := Option.some.inj H; go_enter Try.func103, Try.ntmps103; go_wp2; go_ret; exact ⟨by rfl, by exact Drawn0.refl _⟩
-- NOT PRINTED: function 120 (slices_insertionSortCmpFunc_int)

-- NOT PRINTED: function 132 (slices_siftDownCmpFunc_int)

-- NOT PRINTED: function 121 (slices_heapSortCmpFunc_int)




-- NOT PRINTED: function 133 (slices_nextPowerOfTwo)

-- NOT PRINTED: function 134 (slices_xorshift_Next)

-- NOT PRINTED: function 122 (slices_breakPatternsCmpFunc_int)

-- NOT PRINTED: function 137 (slices_order2CmpFunc_int)

-- NOT PRINTED: function 136 (slices_medianCmpFunc_int)

-- NOT PRINTED: function 135 (slices_medianAdjacentCmpFunc_int)

-- NOT PRINTED: function 123 (slices_choosePivotCmpFunc_int)

-- NOT PRINTED: function 124 (slices_reverseRangeCmpFunc_int)

-- NOT PRINTED: function 125 (slices_partialInsertionSortCmpFunc_int)

-- NOT PRINTED: function 126 (slices_partitionEqualCmpFunc_int)

-- NOT PRINTED: function 127 (slices_partitionCmpFunc_int)

-- NOT PRINTED: function 114 (slices_pdqsortCmpFunc_int)

/-! ### slices_SortFunc_int_int: function 102 (by hand): the library's sort by its contract, at rows of numbers that are parted by length and order -/
section
open Go.Shelf
def slices_SortFunc_int_int.sortL_ren : Go.Shelf.Ren := ⟨fun | 6 => 102 | 15 => 115 | 14 => 114 | 28 => 128 | 29 => 129 | 20 => 120 | 21 => 121 | 22 => 122 | 23 => 123 | 24 => 124 | 25 => 125 | 26 => 126 | 27 => 127 | 46 => 132 | 47 => 133 | 48 => 134 | 49 => 135 | 50 => 136 | 57 => 137 | n => n, fun | 22 => 25 | 24 => 22 | 25 => 105 | 3 => 3 | 39 => 112 | 0 => 0 | 53 => 123 | 55 => 95 | 4 => 4 | 46 => 117 | 45 => 116 | 50 => 28 | 5 => 5 | 9 => 9 | 66 => 126 | 70 => 130 | 76 => 132 | 77 => 133 | n => n, fun | n => n⟩
theorem slices_SortFunc_int_int.sortL : Go.Proofs.SlLaysF.n6 Try.prog slices_SortFunc_int_int.sortL_ren := {
 mixed := by kernel_rfl
 f6 := ⟨Try.f102.name, by decide, Try.func102.trans (congrArg some (by kernel_rfl))⟩
 f14 := ⟨Try.f114.name, by decide, Try.func114.trans (congrArg some (by kernel_rfl))⟩
 f15 := Try.func115.trans (congrArg some (by kernel_rfl))
 f20 := ⟨Try.f120.name, by decide, Try.func120.trans (congrArg some (by kernel_rfl))⟩
 f21 := ⟨Try.f121.name, by decide, Try.func121.trans (congrArg some (by kernel_rfl))⟩
 f22 := ⟨Try.f122.name, by decide, Try.func122.trans (congrArg some (by kernel_rfl))⟩
 f23 := ⟨Try.f123.name, by decide, Try.func123.trans (congrArg some (by kernel_rfl))⟩
 f24 := ⟨Try.f124.name, by decide, Try.func124.trans (congrArg some (by kernel_rfl))⟩
 f25 := ⟨Try.f125.name, by decide, Try.func125.trans (congrArg some (by kernel_rfl))⟩
 f26 := ⟨Try.f126.name, by decide, Try.func126.trans (congrArg some (by kernel_rfl))⟩
 f27 := ⟨Try.f127.name, by decide, Try.func127.trans (congrArg some (by kernel_rfl))⟩
 f28 := Try.func128.trans (congrArg some (by kernel_rfl))
 f29 := Try.func129.trans (congrArg some (by kernel_rfl))
 f46 := ⟨Try.f132.name, by decide, Try.func132.trans (congrArg some (by kernel_rfl))⟩
 f47 := Try.func133.trans (congrArg some (by kernel_rfl))
 f48 := Try.func134.trans (congrArg some (by kernel_rfl))
 f49 := ⟨Try.f135.name, by decide, Try.func135.trans (congrArg some (by kernel_rfl))⟩
 f50 := ⟨Try.f136.name, by decide, Try.func136.trans (congrArg some (by kernel_rfl))⟩
 f57 := ⟨Try.f137.name, by decide, Try.func137.trans (congrArg some (by kernel_rfl))⟩
 t0 := Try.underlying0
 a0 := Try.isAgg0
 z0 := Try.sizeOf0
 v0 := Try.zeroValue0
 t3 := Try.underlying3
 a3 := Try.isAgg3
 z3 := Try.sizeOf3
 v3 := Try.zeroValue3
 t4 := Try.underlying4
 a4 := Try.isAgg4
 z4 := Try.sizeOf4
 v4 := Try.zeroValue4
 t5 := Try.underlying5
 a5 := Try.isAgg5
 z5 := Try.sizeOf5
 v5 := Try.zeroValue5
 t9 := Try.underlying9
 a9 := Try.isAgg9
 z9 := Try.sizeOf9
 v9 := Try.zeroValue9
 t22 := Try.underlying25
 a22 := Try.isAgg25
 z22 := Try.sizeOf25
 v22 := Try.zeroValue25
 a24 := Try.isAgg22
 z24 := Try.sizeOf22
 t25 := Try.underlying105
 a25 := Try.isAgg105
 z25 := Try.sizeOf105
 v25 := Try.zeroValue105
 t39 := Try.underlying112
 a39 := Try.isAgg112
 z39 := Try.sizeOf112
 v39 := Try.zeroValue112
 t45 := Try.underlying116
 a45 := Try.isAgg116
 z45 := Try.sizeOf116
 v45 := Try.zeroValue116
 t46 := Try.underlying117
 a46 := Try.isAgg117
 z46 := Try.sizeOf117
 v46 := Try.zeroValue117
 t50 := Try.underlying28
 a50 := Try.isAgg28
 z50 := Try.sizeOf28
 v50 := Try.zeroValue28
 t53 := Try.underlying123
 a53 := Try.isAgg123
 z53 := Try.sizeOf123
 v53 := Try.zeroValue123
 t55 := Try.underlying95
 a55 := Try.isAgg95
 z55 := Try.sizeOf95
 v55 := Try.zeroValue95
 t66 := Try.underlying126
 a66 := Try.isAgg126
 z66 := Try.sizeOf126
 v66 := Try.zeroValue126
 t70 := Try.underlying130
 a70 := Try.isAgg130
 z70 := Try.sizeOf130
 v70 := Try.zeroValue130
 t76 := Try.underlying132
 a76 := Try.isAgg132
 z76 := Try.sizeOf132
 v76 := Try.zeroValue132
 t77 := Try.underlying133
 a77 := Try.isAgg133
 z77 := Try.sizeOf133
 v77 := Try.zeroValue133 }
end
def slices_SortFunc_int_int.lexC : List Int → List Int → Int
 | [], [] => 0
 | [], _ :: _ => -1
 | _ :: _, [] => 1
 | a :: x, b :: y => if a < b then -1 else if a > b then 1 else slices_SortFunc_int_int.lexC x y
def slices_SortFunc_int_int.cmpL (a b : List Int) : Int := if a.length = b.length then slices_SortFunc_int_int.lexC a b else (a.length : Int) - b.length
theorem slices_SortFunc_int_int.lexC_refl : ∀ a : List Int, slices_SortFunc_int_int.lexC a a = 0
 | [] => rfl
 | a :: x => by rw [slices_SortFunc_int_int.lexC, if_neg (by omega), if_neg (by omega), slices_SortFunc_int_int.lexC_refl x]
theorem slices_SortFunc_int_int.lexC_neg : ∀ a b : List Int, slices_SortFunc_int_int.lexC a b = -slices_SortFunc_int_int.lexC b a
 | [], [] => rfl
 | [], _ :: _ => rfl
 | _ :: _, [] => rfl
 | a :: x, b :: y => by
  rw [slices_SortFunc_int_int.lexC, slices_SortFunc_int_int.lexC]
  by_cases h : a < b
  ·rw [if_pos h, if_neg (by omega), if_pos h]
  ·by_cases h2 : a > b
   ·rw [if_neg h, if_pos h2, if_pos h2]; omega
   ·rw [if_neg h, if_neg h2, if_neg h2, if_neg h, slices_SortFunc_int_int.lexC_neg x y]
theorem slices_SortFunc_int_int.lexC_eq : ∀ a b : List Int, slices_SortFunc_int_int.lexC a b = 0 → a = b
 | [], [], _ => rfl
 | [], _ :: _, h => by simp [slices_SortFunc_int_int.lexC] at h
 | _ :: _, [], h => by simp [slices_SortFunc_int_int.lexC] at h
 | a :: x, b :: y, h => by
  rw [slices_SortFunc_int_int.lexC] at h
  by_cases h1 : a < b
  ·rw [if_pos h1] at h; omega
  ·by_cases h2 : a > b
   ·rw [if_neg h1, if_pos h2] at h; omega
   ·rw [if_neg h1, if_neg h2] at h
    rw [slices_SortFunc_int_int.lexC_eq x y h, show a = b by omega]
theorem slices_SortFunc_int_int.lexC_trans : ∀ a b c : List Int, slices_SortFunc_int_int.lexC a b < 0 → slices_SortFunc_int_int.lexC b c < 0 → slices_SortFunc_int_int.lexC a c < 0
 | [], [], _, h, _ => by simp [slices_SortFunc_int_int.lexC] at h
 | [], _ :: _, [], _, h => by simp [slices_SortFunc_int_int.lexC] at h
 | [], _ :: _, _ :: _, _, _ => by simp [slices_SortFunc_int_int.lexC]
 | _ :: _, [], _, h, _ => by simp [slices_SortFunc_int_int.lexC] at h
 | _ :: _, _ :: _, [], _, h => by simp [slices_SortFunc_int_int.lexC] at h
 | a :: x, b :: y, c :: z, h1, h2 => by
  rw [slices_SortFunc_int_int.lexC] at h1 h2 ⊢
  by_cases p : a < b
  ·by_cases q : b < c
   ·rw [if_pos (by omega)]; omega
   ·by_cases q2 : b > c
    ·rw [if_neg q, if_pos q2] at h2; omega
    ·rw [if_pos (by omega)]; omega
  ·by_cases p2 : a > b
   ·rw [if_neg p, if_pos p2] at h1; omega
   ·rw [if_neg p, if_neg p2] at h1
    by_cases q : b < c
    ·rw [if_pos (by omega)]; omega
    ·by_cases q2 : b > c
     ·rw [if_neg q, if_pos q2] at h2; omega
     ·rw [if_neg q, if_neg q2] at h2
      rw [if_neg (by omega), if_neg (by omega)]
      exact slices_SortFunc_int_int.lexC_trans x y z h1 h2
theorem slices_SortFunc_int_int.cmpL_refl (a : List Int) : slices_SortFunc_int_int.cmpL a a = 0 := by unfold slices_SortFunc_int_int.cmpL; rw [if_pos rfl, slices_SortFunc_int_int.lexC_refl]
theorem slices_SortFunc_int_int.cmpL_neg (a b : List Int) : slices_SortFunc_int_int.cmpL a b = -slices_SortFunc_int_int.cmpL b a := by
 unfold slices_SortFunc_int_int.cmpL
 by_cases h : a.length = b.length
 ·rw [if_pos h, if_pos h.symm, slices_SortFunc_int_int.lexC_neg]
 ·rw [if_neg h, if_neg (fun e => h e.symm)]; omega
theorem slices_SortFunc_int_int.cmpL_eq {a b : List Int} (h : slices_SortFunc_int_int.cmpL a b = 0) : a = b := by
 unfold slices_SortFunc_int_int.cmpL at h
 by_cases hl : a.length = b.length
 ·rw [if_pos hl] at h; exact slices_SortFunc_int_int.lexC_eq a b h
 ·rw [if_neg hl] at h; omega
theorem slices_SortFunc_int_int.cmpL_trans {a b c : List Int} (h1 : slices_SortFunc_int_int.cmpL a b < 0) (h2 : slices_SortFunc_int_int.cmpL b c < 0) : slices_SortFunc_int_int.cmpL a c < 0 := by
 unfold slices_SortFunc_int_int.cmpL at h1 h2 ⊢
 by_cases p : a.length = b.length
 ·rw [if_pos p] at h1
  by_cases q : b.length = c.length
  ·rw [if_pos q] at h2
   rw [if_pos (p.trans q)]
   exact slices_SortFunc_int_int.lexC_trans a b c h1 h2
  ·rw [if_neg q] at h2
   rw [if_neg (by omega)]; omega
 ·rw [if_neg p] at h1
  by_cases q : b.length = c.length
  ·rw [if_neg (by omega)]; omega
  ·rw [if_neg q] at h2
   rw [if_neg (by omega)]; omega
theorem slices_SortFunc_int_int.cmpL_ntrans {a b c : List Int} (h1 : ¬ slices_SortFunc_int_int.cmpL a b < 0) (h2 : ¬ slices_SortFunc_int_int.cmpL b c < 0) : ¬ slices_SortFunc_int_int.cmpL a c < 0 := by
 intro h
 have n1 := slices_SortFunc_int_int.cmpL_neg a b
 have n2 := slices_SortFunc_int_int.cmpL_neg b c
 by_cases e1 : slices_SortFunc_int_int.cmpL a b = 0
 ·have := slices_SortFunc_int_int.cmpL_eq e1; subst this; exact h2 h
 ·by_cases e2 : slices_SortFunc_int_int.cmpL b c = 0
  ·have := slices_SortFunc_int_int.cmpL_eq e2; subst this; exact h1 h
  ·have := slices_SortFunc_int_int.cmpL_trans (a := c) (b := b) (c := a) (by omega) (by omega)
   have n3 := slices_SortFunc_int_int.cmpL_neg a c
   omega
/-- What the sort is asked for here: the rows are not one too many, no two are one, and the comparison tells for each two what the plain order tells. -/
def slices_SortFunc_int_int.good (k : Nat) (c : List (List Int)) (d : Nat) : Prop := d = 103 ∧ 0 < c.length ∧ c.length < 4611686018427387904 ∧ c.Nodup ∧ ∀ a ∈ c, ∀ b ∈ c, impl_sets_1.f k a b = some (slices_SortFunc_int_int.cmpL a b)
instance slices_SortFunc_int_int.good_dec (k : Nat) (l0 : List (List Int)) (a1 : Nat) : Decidable (slices_SortFunc_int_int.good k l0 a1) := by
 unfold slices_SortFunc_int_int.good
 infer_instance
def slices_SortFunc_int_int.le (a b : List Int) : Bool := !decide (slices_SortFunc_int_int.cmpL b a < 0)
def slices_SortFunc_int_int.f (k : Nat) (a : List (List Int)) (b : Nat) : Option (List (List Int)) := if slices_SortFunc_int_int.good k a b then some (a.mergeSort slices_SortFunc_int_int.le) else none
theorem slices_SortFunc_int_int.mono : ∀ a0 a1 k, LeO (slices_SortFunc_int_int.f k a0 a1) (slices_SortFunc_int_int.f (k + 1) a0 a1) := by
 intro a0 a1 k r h
 unfold slices_SortFunc_int_int.f at h ⊢
 by_cases hg : slices_SortFunc_int_int.good k a0 a1
 ·rw [if_pos hg] at h
  have hg2 : slices_SortFunc_int_int.good (k + 1) a0 a1 := ⟨hg.1, hg.2.1, hg.2.2.1, hg.2.2.2.1, fun a ha b hb => impl_sets_1.mono a b k _ (hg.2.2.2.2 a ha b hb)⟩
  rw [if_pos hg2]
  exact h
 ·rw [if_neg hg] at h
  cases h
theorem slices_SortFunc_int_int.heap_sort {α : Type} [Inhabited α] (enc : α → Value) (w : World) (g m : Nat) (d : Array α) (os : Array Obj) (k : Nat) (hk : k < w.heap.size) (hne : k ≠ g) : (sortWorld enc w g 0 m d os).heap[k]? = w.heap[k]? := by
 unfold sortWorld Go.Sort.grow Go.Sort.putRow Go.Sort.mapBlock Go.Sort.ahead
 show ((w.heap.modify g _) ++ os)[k]? = _
 rw [Array.getElem?_append_left (by rw [Array.size_modify]; exact hk), Array.getElem?_modify, if_neg (by omega)]
theorem slices_SortFunc_int_int.heap_at {α : Type} [Inhabited α] (enc : α → Value) (w : World) (g m : Nat) (d : Array α) (os : Array Obj) {cur : Array Value} {e : Nat} (hk : w.heap[g]? = some (.cells cur e (0, 0))) : (sortWorld enc w g 0 m d os).heap[g]? = some (.cells (Go.Sort.putCells enc 0 d cur) e (0, 0)) := by
 have hlt : g < w.heap.size := (Array.getElem?_eq_some_iff.1 hk).1
 unfold sortWorld Go.Sort.grow Go.Sort.putRow Go.Sort.mapBlock Go.Sort.ahead
 show ((w.heap.modify g _) ++ os)[g]? = _
 rw [Array.getElem?_append_left (by rw [Array.size_modify]; exact hlt), Array.getElem?_modify, if_pos rfl, hk]
 rfl
theorem slices_SortFunc_int_int.put_take {α : Type} [Inhabited α] (enc : α → Value) (d : Array α) (cur : Array Value) (h : d.size ≤ cur.size) : (Go.Sort.putCells enc 0 d cur).size = cur.size ∧ (Go.Sort.putCells enc 0 d cur).toList.take d.size = d.toList.map enc := by
 have hs : (Go.Sort.putCells enc 0 d cur).size = cur.size := by unfold Go.Sort.putCells; simp
 refine ⟨hs, List.ext_getElem ?_ (fun i h1 h2 => ?_)⟩
 ·rw [List.length_take, Array.length_toList, hs, List.length_map, Array.length_toList]; omega
 ·have hi : i < d.size := by rw [List.length_map, Array.length_toList] at h2; exact h2
  rw [List.getElem_take, List.getElem_map]
  simp only [Array.getElem_toList]
  unfold Go.Sort.putCells
  simp only [Array.getElem_mapIdx]
  rw [if_pos (by omega)]
  simp [hi]
set_option maxHeartbeats 8000000 in
set_option maxRecDepth 100000 in
theorem slices_SortFunc_int_int.calls (k : Nat) (P0_ : Nat → Prop) (u_ : Value) (l0 : List (List Int)) (a1 : Nat) (r1 : List (List Int)) (w0 w : World) (hB : Below w0.heap.size w0 w) (ho0 : Kd.S (Kd.slice 3 (Kd.int .i64)) 22 w w0.heap.size P0_ u_ l0) (h : slices_SortFunc_int_int.f k l0 a1 = some r1) :
  Calls Try.prog 102 #[u_, .func (.func a1) #[] #[]] w fun e w' => e = .returned (.tuple #[]) ∧ Kd.S (Kd.slice 3 (Kd.int .i64)) 22 w' w0.heap.size P0_ u_ r1 ∧ Below w0.heap.size w0 w' ∧ Kept w w' (fun k_ => P0_ k_) := by
 unfold slices_SortFunc_int_int.f at h
 by_cases hg : slices_SortFunc_int_int.good k l0 a1
 ·rw [if_pos hg] at h
  obtain rfl := Option.some.inj h
  obtain ⟨ha1, hpos, hlen, hnd, hcmp⟩ := hg
  subst ha1
  obtain ⟨f, hok, inner, ho, hr⟩ := ho0
  rw [List.length_zipIdx] at ho
  have hil : inner.length = l0.length := by
   have h1 := hr.1
   rw [List.length_zipIdx] at h1
   have h2 : inner.length = l0.length * 1 := h1
   omega
  obtain ⟨ho1, ho2⟩ := ho
  rcases ho2 with ⟨_, hz⟩ | ⟨g, cap, cur, rfl, hbg, hcur, hnc, hcm, hcs, htk⟩
  ·omega
  have hcs' : cur.size = cap := by
   have h2 : cur.size = cap * 1 := hcs
   omega
  have htk' : cur.toList.take l0.length = inner := by
   have h2 : cur.toList.take (l0.length * 1) = inner := htk
   rwa [Nat.mul_one] at h2
  have hglt : g < w.heap.size := (Array.getElem?_eq_some_iff.1 hcur).1
  have hPg : P0_ g := hok g rfl
  haveI : Inhabited (Fin l0.length) := ⟨⟨0, hpos⟩⟩
  let enc : Fin l0.length → Value := fun i => inner[i.val]'(by rw [hil]; exact i.isLt)
  let d : Array (Fin l0.length) := Array.ofFn id
  have hd : d.size = l0.length := Array.size_ofFn
  have hdl : d.toList = List.finRange l0.length := by
   refine List.ext_getElem (by simp [d]) (fun i h1 h2 => ?_)
   simp [d]
  -- each element, in whatever world the sort passes through
  have hM : ∀ (x : Fin l0.length) (W : World), w.heap.size ≤ W.heap.size → (∀ q, q < w.heap.size → q ≠ g → W.heap[q]? = w.heap[q]?) → (Kd.slice 3 (Kd.int .i64)).M W w0.heap.size (fun q => (P0_ q ∧ some q ≠ (Value.slice (some ⟨g, 0, none⟩) l0.length cap).ownBlock) ∧ f q = x.val) l0[x.val] [enc x] := by
   intro x W hW1 hW2
   have h1 := hr.2 x.val (l0[x.val], x.val) (Kd.zip_at (List.getElem?_eq_getElem x.isLt))
   have h2 : (inner.drop (x.val * (Kd.tag f (Kd.slice 3 (Kd.int .i64))).sz)).take (Kd.tag f (Kd.slice 3 (Kd.int .i64))).sz = [enc x] := by
    show (inner.drop (x.val * 1)).take 1 = [enc x]
    rw [Nat.mul_one, List.drop_eq_getElem_cons (by rw [hil]; exact x.isLt)]
    rfl
   rw [h2] at h1
   refine Kd.M_step h1 (fun q hq hlt => hW2 q hlt ?_)
   intro e
   exact hq.1.2 (by rw [e]; rfl)
  have hH : Go.Sort.Holds enc w g 0 d := by
   intro j hj
   have hj' : j < l0.length := by rw [hd] at hj; exact hj
   have ej : d[j]! = ⟨j, hj'⟩ := by simp [d, hj']
   refine ⟨?_, blk_frozen hcur _⟩
   rw [ej, Nat.zero_add]
   show w.cell? ⟨g, j, none⟩ = some (inner[j]'_)
   have hc1 := blk_cell hcur j
   rw [hc1]
   have hjc : j < cur.size := by omega
   have : inner[j]'(by omega) = cur[j] := by
    have e2 : (cur.toList.take l0.length)[j]'(by rw [List.length_take, Array.length_toList (xs := cur)]; omega) = inner[j]'(by omega) := by congr 1 <;> exact htk'
    rw [← e2, List.getElem_take, Array.getElem_toList]
   rw [this]
   simp [hjc]
  let cf : Fin l0.length → Fin l0.length → Int := fun x y => slices_SortFunc_int_int.cmpL l0[x.val] l0[y.val]
  have hO : Go.Sort.SWO (ltOf cf) := by
   refine ⟨fun x => ?_, fun x y z h1 h2 => ?_, fun x y z h1 h2 => ?_⟩
   ·show decide (cf x x < 0) = false
    refine decide_eq_false ?_
    show ¬ slices_SortFunc_int_int.cmpL _ _ < 0
    rw [slices_SortFunc_int_int.cmpL_refl]; omega
   ·exact decide_eq_true (slices_SortFunc_int_int.cmpL_trans (of_decide_eq_true h1) (of_decide_eq_true h2))
   ·exact decide_eq_false (slices_SortFunc_int_int.cmpL_ntrans (of_decide_eq_false h1) (of_decide_eq_false h2))
  have hT : ∀ x y, (ltOf cf) x y = false → (ltOf cf) y x = false → x = y := by
   intro x y h1 h2
   have g1 : ¬ slices_SortFunc_int_int.cmpL l0[x.val] l0[y.val] < 0 := of_decide_eq_false h1
   have g2 : ¬ slices_SortFunc_int_int.cmpL l0[y.val] l0[x.val] < 0 := of_decide_eq_false h2
   have g3 := slices_SortFunc_int_int.cmpL_neg l0[x.val] l0[y.val]
   have g4 := slices_SortFunc_int_int.cmpL_eq (show slices_SortFunc_int_int.cmpL l0[x.val] l0[y.val] = 0 by omega)
   exact Fin.ext ((List.getElem_inj hnd).1 g4)
  have hcmp1 : CmpLays1 Try.prog 103 #[] enc cf g 0 d.size w := by
   intro m os dk hdk x y
   have hk2 : ∀ q, q < w.heap.size → q ≠ g → (sortWorld enc w g 0 m dk os).heap[q]? = w.heap[q]? := fun q h1 h2 => slices_SortFunc_int_int.heap_sort enc w g m dk os q h1 h2
   have hsz2 : w.heap.size ≤ (sortWorld enc w g 0 m dk os).heap.size := by
    unfold sortWorld Go.Sort.grow Go.Sort.putRow Go.Sort.mapBlock Go.Sort.ahead
    simp
   obtain ⟨A1, c1, e1, h1, hC1⟩ := Kd.K_of_M _ (hM x _ hsz2 hk2)
   obtain ⟨A2, c2, e2, h2, hC2⟩ := Kd.K_of_M _ (hM y _ hsz2 hk2)
   have e1' : enc x = .slice A1 l0[x.val].length c1 := by injection e1
   have e2' : enc y = .slice A2 l0[y.val].length c2 := by injection e2
   have hcl := impl_sets_1.calls k A1 c1 l0[x.val] A2 c2 l0[y.val] _ (sortWorld enc w g 0 m dk os) hC1 h1 hC2 h2 (hcmp _ (List.getElem_mem _) _ (List.getElem_mem _))
   rw [e1', e2']
   refine Calls.mono hcl ?_
   rintro e w' ⟨he, ⟨q, hq⟩⟩
   exact ⟨he, q, #[], by rw [hq, Go.Sort.grow_empty]⟩
  have hone : OneCell enc := by
   intro x
   obtain ⟨A1, c1, e1, _, _⟩ := Kd.K_of_M _ (hM x w (Nat.le_refl _) (fun _ _ _ => rfl))
   have e1' : enc x = .slice A1 l0[x.val].length c1 := by injection e1
   rw [e1']
   rfl
  have eg : ∀ args w, (callFunc 103 args).run Try.prog w = .ok (.enter 103 args) w := enters_of Try.func103 (by kernel_rfl) rfl
  have hS := Any.slices_SortFunc_total slices_SortFunc_int_int.sortL enc hone cf hO 103 #[] g 0 cap d w eg hcmp1 hH hglt (by rw [hd]; exact hlen) hT
  change Calls Try.prog 102 _ _ _ at hS
  rw [hd] at hS
  refine hS.mono ?_
  rintro e w' ⟨rfl, m, os, rfl⟩
  obtain ⟨D, hD⟩ : ∃ D, D = d.toList.mergeSort fun x y => !(ltOf cf) y x := ⟨_, rfl⟩
  rw [← hD]
  have hperm : D.Perm (List.finRange l0.length) := by rw [hD, hdl]; exact List.mergeSort_perm _ _
  have hDl : D.length = l0.length := by rw [hperm.length_eq, List.length_finRange]
  have hDn : (D.map Fin.val).Nodup := by
   have h1 : (List.finRange l0.length).map Fin.val = List.range l0.length := by
    refine List.ext_getElem (by simp) (fun i h1 h2 => ?_)
    simp
   have h2 : (D.map Fin.val).Perm (List.range l0.length) := by rw [← h1]; exact hperm.map _
   exact h2.nodup_iff.2 List.nodup_range
  have hr1 : l0.mergeSort slices_SortFunc_int_int.le = D.map (fun i : Fin l0.length => l0[i.val]'i.isLt) := by
   have h1 : l0 = (List.finRange l0.length).map (fun i : Fin l0.length => l0[i.val]'i.isLt) := by
    refine List.ext_getElem (by simp) (fun i h1 h2 => ?_)
    simp
   rw [hD, hdl]
   refine Eq.trans ?_ (List.map_mergeSort (f := fun i : Fin l0.length => l0[i.val]'i.isLt) (s := slices_SortFunc_int_int.le) (fun a _ b _ => rfl)).symm
   congr 1
  have hda : D.toArray.size = l0.length := by simp [hDl]
  have hst : ∀ q, q < w.heap.size → q ≠ g → (sortWorld enc w g 0 m D.toArray os).heap[q]? = w.heap[q]? := fun q h1 h2 => slices_SortFunc_int_int.heap_sort enc w g m D.toArray os q h1 h2
  have hsz : w.heap.size ≤ (sortWorld enc w g 0 m D.toArray os).heap.size := by
   unfold sortWorld Go.Sort.grow Go.Sort.putRow Go.Sort.mapBlock Go.Sort.ahead
   simp
  have hput := slices_SortFunc_int_int.put_take enc D.toArray cur (by omega)
  refine ⟨rfl, ⟨fun q => (D.map Fin.val).idxOf (f q), hok, D.map enc, ?_, ?_⟩, ⟨hB.os, hB.tape, hB.output, Nat.le_trans hB.size hsz, fun q hq => ?_⟩, ⟨hsz, fun q hq hn => ?_⟩⟩
  ·rw [List.length_zipIdx, hr1, List.length_map, hDl]
   refine ⟨by rw [List.length_map, hDl]; exact (Nat.mul_one _).symm, Or.inr ⟨g, cap, _, rfl, hbg, slices_SortFunc_int_int.heap_at enc w g m D.toArray os hcur, hnc, hcm, by rw [hput.1, hcs']; exact (Nat.mul_one _).symm, ?_⟩⟩
   have := hput.2
   rw [hda] at this
   show (Go.Sort.putCells enc 0 D.toArray cur).toList.take (l0.length * 1) = D.map enc
   rw [Nat.mul_one, this]
  ·rw [hr1]
   refine ⟨by rw [List.length_zipIdx, List.length_map, List.length_map]; exact (Nat.mul_one _).symm, fun j p hj => ?_⟩
   rw [List.getElem?_zipIdx, Nat.zero_add] at hj
   obtain ⟨y, hy, rfl⟩ := Option.map_eq_some_iff.1 hj
   have hjl : j < D.length := by
    have := (List.getElem?_eq_some_iff.1 hy).1
    rwa [List.length_map] at this
   rw [List.getElem?_map, List.getElem?_eq_getElem hjl] at hy
   have hy2 : l0[D[j].val] = y := Option.some.inj hy
   subst hy2
   have hch : ((D.map enc).drop (j * 1)).take 1 = [enc D[j]] := by
    rw [Nat.mul_one, List.drop_eq_getElem_cons (by rw [List.length_map]; exact hjl), List.getElem_map]
    rfl
   show (Kd.slice 3 (Kd.int .i64)).M _ _ _ _ (((D.map enc).drop (j * 1)).take 1)
   rw [hch]
   refine (Kd.slice 3 (Kd.int .i64)).M_mono (fun q hq => ⟨?_, ?_⟩) (hM D[j] _ hsz hst)
   ·simpa [List.length_zipIdx, hDl] using hq.1
   ·show (D.map Fin.val).idxOf (f q) = j
    rw [hq.2]
    have := List.Nodup.idxOf_getElem hDn j (by rw [List.length_map]; exact hjl)
    rw [List.getElem_map] at this
    exact this
  ·rw [hst q (Nat.lt_of_lt_of_le hq hB.size) (by omega)]
   exact hB.block q hq
  ·exact hst q hq (fun e => hn (by rw [e]; exact hPg))
 ·rw [if_neg hg] at h
  cases h
end Go.Proofs.Ytgkjnhajomjhcaa.PFnShelves
