-- A text of this session (its program hook.py, over the kit's print.py): not a print of print.sh
-- THIN: one blank for two
import Derived.Test.YtmekmkhdhakohaaPFnWorthsx0
import Derived.Test.YtmekmkhdhakohaaPFnWorthsx4
namespace Go.Proofs.Ytmekmkhdhakohaa.PFnWorths
open Go.RowKit Go.Proofs.YtmekmkhdhakohaaW.PrintWords Go.Proofs.YtmekmkhdhakohaaW.PrintLast Go.Proofs.YtmekmkhdhakohaaW.PrintMore
attribute [local go_sem] max2_int min2_int max_two min_two max_three min_three max_four min_four   -- for this text's walks alone
set_option linter.unusedVariables false
set_option linter.unusedSimpArgs false

-- SQUEEZED
theorem z27_A {p : Prop} (h : p) : Aside0 p := Aside0.mk h
theorem z27_1 {p : Prop} (h : p := by repeat (first | exact Drawn0.refl _ | apply Drawn0.step)) : p := h
theorem z27_2 {p : Prop} (h : p := by (with_reducible assumption)) : p := h
theorem z27_3 {p : Prop} (h : p := by have := c3.out; have := d5.out; have := g8.out; have := g9.out; have := h1.out; have := m8.out; omega) : p := h

/-! ### spec_IsConvexFor: function 58 -/
mutual
def spec_IsConvexFor.l0 : Nat → List Int → Int → Int → Option (Bool × Bool)
 | 0, _, _, _ => none
 | k + 1, a, b, c => if c < (a.length : Int) then (spec_IsConvexFor.j1 k a b c (decide (c ≤ 41))) else (spec_IsConvexFor.j1 k a b c false)
def spec_IsConvexFor.j1 : Nat → List Int → Int → Int → Bool → Option (Bool × Bool)
 | 0, _, _, _, _ => none
 | k + 1, a, b, c, d => if d = true then (if 0 ≤ c then (if c < (a.length : Int) then ((spec_l1In.f (rd a c) (-1000000000000) 1000000000000).bind fun e => (if e = true then (spec_IsConvexFor.l0 k a b (wrap64 (c + 1))) else (some (false, false)))) else (none)) else (none)) else (if (a.length : Int) > 41 then (spec_IsConvexFor.j2 k a b true) else ((spec_l1In.f b 0 1000000000000).bind fun f => (spec_IsConvexFor.j2 k a b (!f))))
def spec_IsConvexFor.j2 : Nat → List Int → Int → Bool → Option (Bool × Bool)
 | 0, _, _, _ => none
 | k + 1, a, b, c => if c = true then (some (false, false)) else (spec_IsConvexFor.l1 k a b 0)
def spec_IsConvexFor.l1 : Nat → List Int → Int → Int → Option (Bool × Bool)
 | 0, _, _, _ => none
 | k + 1, a, b, c => if c < (a.length : Int) then (spec_IsConvexFor.l2 k a b c 1) else (some (true, true))
def spec_IsConvexFor.l2 : Nat → List Int → Int → Int → Int → Option (Bool × Bool)
 | 0, _, _, _, _ => none
 | k + 1, a, b, c, d => if d ≤ c then (spec_IsConvexFor.l3 k a b c d 1) else (spec_IsConvexFor.l1 k a b (wrap64 (c + 1)))
def spec_IsConvexFor.l3 : Nat → List Int → Int → Int → Int → Int → Option (Bool × Bool)
 | 0, _, _, _, _, _ => none
 | k + 1, a, b, c, d, e => if (wrap64 (c + e)) < (a.length : Int) then (if 0 ≤ (wrap64 (c + e)) then (if 0 ≤ c then (if c < (a.length : Int) then (if 0 ≤ (wrap64 (c - d)) then (if (wrap64 (c - d)) < (a.length : Int) then (if (wrap64 (d * (wrap64 (b + (rd a (wrap64 (c + e))))))) < (wrap64 ((wrap64 (d * (rd a c))) + (wrap64 (e * (wrap64 ((rd a c) - (rd a (wrap64 (c - d))))))))) then (some (false, true)) else (spec_IsConvexFor.l3 k a b c d (wrap64 (e + 1)))) else (none)) else (none)) else (none)) else (none)) else (none)) else (spec_IsConvexFor.l2 k a b c (wrap64 (d + 1)))
end
def spec_IsConvexFor.f (k : Nat) (a : List Int) (b : Int) : Option (Bool × Bool) := spec_IsConvexFor.l0 k a b 0
theorem spec_IsConvexFor.mono_l : ∀ k, (∀ y0 y1 y2, LeO (spec_IsConvexFor.l0 k y0 y1 y2) (spec_IsConvexFor.l0 (k + 1) y0 y1 y2)) ∧ (∀ y0 y1 y2 y3, LeO (spec_IsConvexFor.j1 k y0 y1 y2 y3) (spec_IsConvexFor.j1 (k + 1) y0 y1 y2 y3)) ∧ (∀ y0 y1 y2, LeO (spec_IsConvexFor.j2 k y0 y1 y2) (spec_IsConvexFor.j2 (k + 1) y0 y1 y2)) ∧ (∀ y0 y1 y2, LeO (spec_IsConvexFor.l1 k y0 y1 y2) (spec_IsConvexFor.l1 (k + 1) y0 y1 y2)) ∧ (∀ y0 y1 y2 y3, LeO (spec_IsConvexFor.l2 k y0 y1 y2 y3) (spec_IsConvexFor.l2 (k + 1) y0 y1 y2 y3)) ∧ (∀ y0 y1 y2 y3 y4, LeO (spec_IsConvexFor.l3 k y0 y1 y2 y3 y4) (spec_IsConvexFor.l3 (k + 1) y0 y1 y2 y3 y4))
 | 0 => by refine ⟨?_, ?_, ?_, ?_, ?_, ?_⟩ <;> intros <;> intro _ h <;> simp [spec_IsConvexFor.l0, spec_IsConvexFor.j1, spec_IsConvexFor.j2, spec_IsConvexFor.l1, spec_IsConvexFor.l2, spec_IsConvexFor.l3] at h
 | k + 1 => by
  obtain ⟨m9, n6, n7, n8, n9, o1⟩ := spec_IsConvexFor.mono_l k
  refine ⟨?_, ?_, ?_, ?_, ?_, ?_⟩ <;> intros <;> (first | unfold spec_IsConvexFor.l0 | unfold spec_IsConvexFor.j1 | unfold spec_IsConvexFor.j2 | unfold spec_IsConvexFor.l1 | unfold spec_IsConvexFor.l2 | unfold spec_IsConvexFor.l3) <;> repeat' with_reducible first | apply n6 | apply m9 | apply n7 | apply n8 | apply n9 | apply o1 | exact LeO.refl _ | refine LeO.ite ?_ ?_ | refine LeO.bind ?_ (fun _ => ?_)
theorem spec_IsConvexFor.mono : ∀ a0 a1 k, LeO (spec_IsConvexFor.f k a0 a1) (spec_IsConvexFor.f (k + 1) a0 a1) := by
 intro a0 a1 k
 obtain ⟨m9, n6, n7, n8, n9, o1⟩ := spec_IsConvexFor.mono_l k
 unfold spec_IsConvexFor.f
 repeat' with_reducible first | apply m9
set_option maxHeartbeats 8000000 in
set_option maxRecDepth 100000 in
theorem spec_IsConvexFor.calls (k : Nat) (A0 : Option Addr) (c0 : Nat) (l0 : List Int) (a1 : Int) (r1 : Bool) (r2 : Bool) (w : World) (o2 : Kd.C (Kd.int .i64) w A0 l0.length l0) (o3 : l0.length ≤ c0) (h : spec_IsConvexFor.f k l0 a1 = some (r1, r2)) :
  Calls Try.prog 58 #[.slice A0 l0.length c0, .int .i64 a1] w fun e w' => e = .returned (.tuple #[.bool r1, .bool r2]) ∧ Drawn0 w w' := by
 have d4 := z27_A o2; have p7 := z27_A o3; clear o2 o3; unfold spec_IsConvexFor.f at h; revert h; intro H; have H' := z27_A H; clear H; go_enter Try.func58, Try.ntmps58; go_wp2; go_loopg [6] k (fun kq v6 w' => ∃ (a4 : Int), v6 = .int .i64 a4 ∧ Aside0 (spec_IsConvexFor.l0 kq l0 a1 a4 = some (r1, r2)) ∧ Aside0 (kq ≤ k) ∧ Drawn0 w w'); case atStart => exact ⟨(0), (by rfl), H', ⟨Nat.le_refl _⟩, by exact Drawn0.refl _⟩
 case round =>
 clear H'; obtain ⟨a4, rfl, HA, c3, ⟨m1, rfl⟩⟩ := hrel; cases gk with
 | zero => exact absurd HA.out (by simp [spec_IsConvexFor.l0])
 | succ k1 => ?_
 have H := HA.out; clear HA; simp only [spec_IsConvexFor.l0] at H; have n1 := z27_A H; clear H; go_upto_region 2 with (fail); go_cut [17] (fun p2 wc => ∃ (kq : Nat) (c1 : Bool), p2 = .bool c1 ∧ Aside0 (spec_IsConvexFor.j1 kq l0 a1 a4 c1 = some (r1, r2)) ∧ Aside0 (kq ≤ k1) ∧ Drawn0 w wc)
 case first =>
  have H := n1.out; clear n1; by_cases c4 : a4 < (l0.length : Int)
  ·rw [if_pos c4] at H; have n2 := decide_eq_true c4; clear c4; have H' := z27_A H; clear H; go_wp2; go_meet; case rel => exact ⟨_, (decide (a4 ≤ 41)), (by rfl), H', ⟨by have := c3.out; omega⟩, z27_1⟩
  rw [if_neg c4] at H; have n2 := decide_eq_false c4; clear c4; have H' := z27_A H; clear H; go_wp2; go_meet; case rel => exact ⟨_, (false), (by rfl), H', ⟨by have := c3.out; omega⟩, z27_1⟩
 case rest =>
 clear n1; obtain ⟨kq, c1, rfl, HA, d5, ⟨p8, rfl⟩⟩ := hcut; cases kq with
 | zero => exact absurd HA.out (by simp [spec_IsConvexFor.j1])
 | succ o4 => ?_
 have H := HA.out; clear HA; simp only [spec_IsConvexFor.j1] at H; by_cases c5 : c1 = true; rotate_left
 ·replace c5 := Bool.eq_false_iff.mpr c5; subst c5; rw [if_neg (show ¬ (false = true) by decide)] at H; have e6 := z27_A H; clear H; go_upto_region 6 with (fail); go_cut [33] (fun p3 wc => ∃ (kq : Nat) (c2 : Bool), p3 = .bool c2 ∧ Aside0 (spec_IsConvexFor.j2 kq l0 a1 c2 = some (r1, r2)) ∧ Aside0 (kq ≤ o4) ∧ Drawn0 w wc)
  case first =>
   have H := e6.out; clear e6; by_cases g3 : (l0.length : Int) > 41
   ·rw [if_pos g3] at H; have h2 : decide (41 < (l0.length : Int)) = true := decide_eq_true g3; have h3 : decide (41 < l0.length) = true := decide_eq_true (by omega); clear g3; have H' := z27_A H; clear H; go_wp2; go_meet; case rel => exact ⟨_, (true), (by rfl), H', ⟨by have := c3.out; have := d5.out; omega⟩, z27_1⟩
   rw [if_neg g3] at H; have h2 : decide (41 < (l0.length : Int)) = false := decide_eq_false g3; have h3 : decide (41 < l0.length) = false := decide_eq_false (by omega); clear g3; obtain ⟨h4, p4, H⟩ := zB H; have H' := z27_A H; clear H; go_wp2_with (go_at_call 101; (with_reducible refine (spec_l1In.calls a1 0 1000000000000 h4 _ p4.out).mono ?_); rintro e w' ⟨rfl, ⟨nd, rfl⟩⟩); go_meet; case rel => exact ⟨_, (!h4), (by rfl), H', ⟨by have := c3.out; have := d5.out; omega⟩, z27_1⟩
  case rest =>
  clear e6; obtain ⟨kq, c2, rfl, HA, g8, ⟨p9, rfl⟩⟩ := hcut; cases kq with
  | zero => exact absurd HA.out (by simp [spec_IsConvexFor.j2])
  | succ o5 => ?_
  have H := HA.out; clear HA; simp only [spec_IsConvexFor.j2] at H; by_cases h7 : c2 = true
  ·subst h7; rw [if_pos rfl] at H; simp only [Option.some.injEq, Prod.mk.injEq] at H; obtain ⟨rfl, rfl⟩ := H; go_wp2; go_ret2; exact ⟨by rfl, z27_1⟩
  replace h7 := Bool.eq_false_iff.mpr h7; subst h7; rw [if_neg (show ¬ (false = true) by decide)] at H; have H' := z27_A H; clear H; go_wp2; go_loopg [7] o5 (fun kq v7 w' => ∃ (a2 : Int), v7 = .int .i64 a2 ∧ Aside0 (spec_IsConvexFor.l1 kq l0 a1 a2 = some (r1, r2)) ∧ Aside0 (kq ≤ o5) ∧ Drawn0 w w'); case atStart => exact ⟨(0), (by rfl), H', ⟨Nat.le_refl _⟩, z27_1⟩
  case round =>
  clear H'; obtain ⟨a2, rfl, HA, g9, ⟨m4, rfl⟩⟩ := hrel; cases gk with
  | zero => exact absurd HA.out (by simp [spec_IsConvexFor.l1])
  | succ k4 => ?_
  have H := HA.out; clear HA; simp only [spec_IsConvexFor.l1] at H; by_cases g4 : a2 < (l0.length : Int)
  ·rw [if_pos g4] at H; have e2 := decide_eq_true g4; clear g4; have H' := z27_A H; clear H; go_wp2; go_loopg [8] k4 (fun kq v8 w' => ∃ (a3 : Int), v8 = .int .i64 a3 ∧ Aside0 (spec_IsConvexFor.l2 kq l0 a1 a2 a3 = some (r1, r2)) ∧ Aside0 (kq ≤ k4) ∧ Drawn0 w w'); case atStart => exact ⟨(1), (by rfl), H', ⟨Nat.le_refl _⟩, z27_1⟩
   case round =>
   clear H' e2; obtain ⟨a3, rfl, HA, h1, ⟨m5, rfl⟩⟩ := hrel; cases gk with
   | zero => exact absurd HA.out (by simp [spec_IsConvexFor.l2])
   | succ k5 => ?_
   have H := HA.out; clear HA; simp only [spec_IsConvexFor.l2] at H; by_cases g5 : a3 ≤ a2
   ·rw [if_pos g5] at H; have e3 := decide_eq_true g5; clear g5; have H' := z27_A H; clear H; go_wp2; go_loopg [9] k5 (fun kq v9 w' => ∃ (a6 : Int), v9 = .int .i64 a6 ∧ Aside0 (spec_IsConvexFor.l3 kq l0 a1 a2 a3 a6 = some (r1, r2)) ∧ Aside0 (kq ≤ k5) ∧ Drawn0 w w'); case atStart => exact ⟨(1), (by rfl), H', ⟨Nat.le_refl _⟩, z27_1⟩
    case round =>
    clear H' e3; obtain ⟨a6, rfl, HA, m8, ⟨m6, rfl⟩⟩ := hrel; cases gk with
    | zero => exact absurd HA.out (by simp [spec_IsConvexFor.l3])
    | succ k6 => ?_
    have H := HA.out; clear HA; simp only [spec_IsConvexFor.l3] at H; by_cases g6 : (wrap64 (a2 + a6)) < (l0.length : Int); rotate_left
    ·rw [if_neg g6] at H; have e4 := decide_eq_false g6; clear g6; have H' := z27_A H; clear H; go_wp2; go_roundg k6; (case measure => have := c3.out; have := d5.out; have := g8.out; have := g9.out; have := h1.out; have := m8.out; omega); case rel => exact ⟨(wrap64 (a3 + 1)), (by rfl), H', ⟨z27_3⟩, z27_1⟩
    rw [if_pos g6] at H; have e4 := decide_eq_true g6; clear g6; obtain ⟨a7, c8⟩ : ∃ j_ : Int, (wrap64 (a2 + a6)) = j_ := ⟨_, rfl⟩; (replace H : (if 0 ≤ (a7) then (if 0 ≤ a2 then (if a2 < (l0.length : Int) then (if 0 ≤ (wrap64 (a2 - a3)) then (if (wrap64 (a2 - a3)) < (l0.length : Int) then (if (wrap64 (a3 * (wrap64 (a1 + (rd l0 (a7)))))) < (wrap64 ((wrap64 (a3 * (rd l0 a2))) + (wrap64 (a6 * (wrap64 ((rd l0 a2) - (rd l0 (wrap64 (a2 - a3))))))))) then (some (false, true)) else (spec_IsConvexFor.l3 k6 l0 a1 a2 a3 (wrap64 (a6 + 1)))) else (none)) else (none)) else (none)) else (none)) else (none)) = some (r1, r2) := by (rw [c8] at H; exact H)); (try rw [c8] at e4); have n3 : (IntKind.i64.wrap (a2 + a6)) = a7 := (i64_w _).trans c8; by_cases h8 : 0 ≤ (a7); rotate_left
    ·rw [if_neg h8] at H; exact absurd H (by simp)
    rw [if_pos h8] at H; have o6 := decide_eq_true h8; clear h8; by_cases h9 : 0 ≤ a2; rotate_left
    ·rw [if_neg h9] at H; exact absurd H (by simp)
    rw [if_pos h9] at H; have o7 := decide_eq_true h9; clear h9; by_cases m2 : a2 < (l0.length : Int); rotate_left
    ·rw [if_neg m2] at H; exact absurd H (by simp)
    rw [if_pos m2] at H; have o8 := decide_eq_true m2; clear m2; obtain ⟨a5, e5⟩ : ∃ j_ : Int, (wrap64 (a2 - a3)) = j_ := ⟨_, rfl⟩; (replace H : (if 0 ≤ (a5) then (if (a5) < (l0.length : Int) then (if (wrap64 (a3 * (wrap64 (a1 + (rd l0 (a7)))))) < (wrap64 ((wrap64 (a3 * (rd l0 a2))) + (wrap64 (a6 * (wrap64 ((rd l0 a2) - (rd l0 (a5)))))))) then (some (false, true)) else (spec_IsConvexFor.l3 k6 l0 a1 a2 a3 (wrap64 (a6 + 1)))) else (none)) else (none)) = some (r1, r2) := by (rw [e5] at H; exact H)); have n4 : (IntKind.i64.wrap (a2 - a3)) = a5 := (i64_w _).trans e5; by_cases m3 : 0 ≤ (a5); rotate_left
    ·rw [if_neg m3] at H; exact absurd H (by simp)
    rw [if_pos m3] at H; have o9 := decide_eq_true m3; clear m3; by_cases m7 : (a5) < (l0.length : Int); rotate_left
    ·rw [if_neg m7] at H; exact absurd H (by simp)
    rw [if_pos m7] at H; have p1 := decide_eq_true m7; clear m7; by_cases g7 : (wrap64 (a3 * (wrap64 (a1 + (rd l0 (a7)))))) < (wrap64 ((wrap64 (a3 * (rd l0 a2))) + (wrap64 (a6 * (wrap64 ((rd l0 a2) - (rd l0 (a5))))))))
    ·rw [if_pos g7] at H; have h5 := decide_eq_true g7; clear g7; simp only [Option.some.injEq, Prod.mk.injEq] at H; obtain ⟨rfl, rfl⟩ := H; have a9 : 0 ≤ ((a7) : Int) := of_decide_eq_true z27_2; have b1 : (a7) < (l0.length : Int) := of_decide_eq_true z27_2; obtain ⟨a8, e7, d6⟩ := Kd.at_int d4.out (a7) a9 b1; cases e7; replace a9 := eq_true a9; replace b1 := eq_true b1; have b2 : 0 ≤ (a2 : Int) := of_decide_eq_true z27_2; have b3 : a2 < (l0.length : Int) := of_decide_eq_true z27_2; obtain ⟨d1, e8, d7⟩ := Kd.at_int d4.out a2 b2 b3; obtain rfl : a8 = d1 := (by injection e8); replace b2 := eq_true b2; replace b3 := eq_true b3; have b4 : 0 ≤ (a2 : Int) := of_decide_eq_true z27_2; have b5 : a2 < (l0.length : Int) := of_decide_eq_true z27_2; obtain ⟨d2, e9, d8⟩ := Kd.at_int d4.out a2 b4 b5; obtain rfl : a8 = d2 := (by injection e9); replace b4 := eq_true b4; replace b5 := eq_true b5; have b6 : 0 ≤ ((a5) : Int) := of_decide_eq_true z27_2; have b7 : (a5) < (l0.length : Int) := of_decide_eq_true z27_2; obtain ⟨d3, g1, d9⟩ := Kd.at_int d4.out (a5) b6 b7; obtain rfl : a8 = d3 := (by injection g1); replace b6 := eq_true b6; replace b7 := eq_true b7; go_wp2; (repeat (go_quiet (fail); try go_wp2)); go_ret2; exact ⟨by rfl, z27_1⟩
    rw [if_neg g7] at H; have h5 := decide_eq_false g7; clear g7; have H' := z27_A H; clear H; have a9 : 0 ≤ ((a7) : Int) := of_decide_eq_true z27_2; have b1 : (a7) < (l0.length : Int) := of_decide_eq_true z27_2; obtain ⟨a8, e7, d6⟩ := Kd.at_int d4.out (a7) a9 b1; cases e7; replace a9 := eq_true a9; replace b1 := eq_true b1; have b2 : 0 ≤ (a2 : Int) := of_decide_eq_true z27_2; have b3 : a2 < (l0.length : Int) := of_decide_eq_true z27_2; obtain ⟨d1, e8, d7⟩ := Kd.at_int d4.out a2 b2 b3; obtain rfl : a8 = d1 := (by injection e8); replace b2 := eq_true b2; replace b3 := eq_true b3; have b4 : 0 ≤ (a2 : Int) := of_decide_eq_true z27_2; have b5 : a2 < (l0.length : Int) := of_decide_eq_true z27_2; obtain ⟨d2, e9, d8⟩ := Kd.at_int d4.out a2 b4 b5; obtain rfl : a8 = d2 := (by injection e9); replace b4 := eq_true b4; replace b5 := eq_true b5; have b6 : 0 ≤ ((a5) : Int) := of_decide_eq_true z27_2; have b7 : (a5) < (l0.length : Int) := of_decide_eq_true z27_2; obtain ⟨d3, g1, d9⟩ := Kd.at_int d4.out (a5) b6 b7; obtain rfl : a8 = d3 := (by injection g1); replace b6 := eq_true b6; replace b7 := eq_true b7; go_wp2; (repeat (go_quiet (fail); try go_wp2)); go_roundg k6; (case measure => have := c3.out; have := d5.out; have := g8.out; have := g9.out; have := h1.out; have := m8.out; omega); case rel => exact ⟨(wrap64 (a6 + 1)), (by rfl), H', ⟨z27_3⟩, z27_1⟩
   rw [if_neg g5] at H; have e3 := decide_eq_false g5; clear g5; have H' := z27_A H; clear H; go_wp2; go_roundg k5; (case measure => have := c3.out; have := d5.out; have := g8.out; have := g9.out; have := h1.out; omega); case rel => exact ⟨(wrap64 (a2 + 1)), (by rfl), H', ⟨by have := c3.out; have := d5.out; have := g8.out; have := g9.out; have := h1.out; omega⟩, z27_1⟩
  rw [if_neg g4] at H; have e2 := decide_eq_false g4; clear g4; simp only [Option.some.injEq, Prod.mk.injEq] at H; obtain ⟨rfl, rfl⟩ := H; go_wp2; go_ret2; exact ⟨by rfl, z27_1⟩
 subst c5; rw [if_pos rfl] at H; by_cases c6 : 0 ≤ a4; rotate_left
 ·rw [if_neg c6] at H; exact absurd H (by simp)
 rw [if_pos c6] at H; have p5 := decide_eq_true c6; clear c6; by_cases c7 : a4 < (l0.length : Int); rotate_left
 ·rw [if_neg c7] at H; exact absurd H (by simp)
 rw [if_pos c7] at H; have p6 := decide_eq_true c7; clear c7; obtain ⟨n5, A8, H⟩ := zB H; by_cases c9 : n5 = true
 ·subst c9; rw [if_pos rfl] at H; have H' := z27_A H; clear H; have b8 : 0 ≤ (a4 : Int) := of_decide_eq_true z27_2; have b9 : a4 < (l0.length : Int) := of_decide_eq_true z27_2; obtain ⟨h6, g2, e1⟩ := Kd.at_int d4.out a4 b8 b9; cases g2; replace b8 := eq_true b8; replace b9 := eq_true b9; go_wp2_with (go_at_call 101; (with_reducible refine (spec_l1In.calls (rd l0 a4) (-1000000000000) 1000000000000 true _ A8.out).mono ?_); rintro e w' ⟨rfl, ⟨nd, rfl⟩⟩); go_roundg o4; (case measure => have := c3.out; have := d5.out; omega); case rel => exact ⟨(wrap64 (a4 + 1)), (by rfl), H', ⟨by have := c3.out; have := d5.out; omega⟩, z27_1⟩
 replace c9 := Bool.eq_false_iff.mpr c9; subst c9; rw [if_neg (show ¬ (false = true) by decide)] at H; simp only [Option.some.injEq, Prod.mk.injEq] at H; obtain ⟨rfl, rfl⟩ := H; have b8 : 0 ≤ (a4 : Int) := of_decide_eq_true z27_2; have b9 : a4 < (l0.length : Int) := of_decide_eq_true z27_2; obtain ⟨h6, g2, e1⟩ := Kd.at_int d4.out a4 b8 b9; cases g2; replace b8 := eq_true b8; replace b9 := eq_true b9; go_wp2_with (go_at_call 101; (with_reducible refine (spec_l1In.calls (rd l0 a4) (-1000000000000) 1000000000000 false _ A8.out).mono ?_); rintro e w' ⟨rfl, ⟨nd, rfl⟩⟩); go_ret2; exact ⟨by rfl, z27_1⟩
end Go.Proofs.Ytmekmkhdhakohaa.PFnWorths
