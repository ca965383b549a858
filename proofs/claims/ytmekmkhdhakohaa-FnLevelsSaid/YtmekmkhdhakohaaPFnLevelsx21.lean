import Derived.Test.YtmekmkhdhakohaaPFnLevelsx6
namespace Go.Proofs.Ytmekmkhdhakohaa.PFnLevels
open Go.RowKit Go.Proofs.YtmekmkhdhakohaaW.PrintWords Go.Proofs.YtmekmkhdhakohaaW.PrintLast Go.Proofs.YtmekmkhdhakohaaW.PrintMore
attribute [local go_sem] max2_int min2_int max_two min_two max_three min_three max_four min_four
set_option linter.unusedVariables false
set_option linter.unusedSimpArgs false
theorem z21_1 {p : Prop} (h : p := by repeat (first | exact Drawn0.refl _ | apply Drawn0.step)) : p := h
mutual
def impl_IsConvexFor.j0 : Nat → List Int → Int → Bool → Option (Bool × Bool)
 | 0, _, _, _ => none
 | k + 1, a, b, c => if c = true then (some (false, false)) else (impl_IsConvexFor.l0 k a b (a.length : Int) 0)
def impl_IsConvexFor.l0 : Nat → List Int → Int → Int → Int → Option (Bool × Bool)
 | 0, _, _, _, _ => none
 | k + 1, a, b, c, d => if d < c then (impl_IsConvexFor.l1 k a b d (wrap64 (d + 1)) c d) else (some (true, true))
def impl_IsConvexFor.l1 : Nat → List Int → Int → Int → Int → Int → Int → Option (Bool × Bool)
 | 0, _, _, _, _, _, _ => none
 | k + 1, a, b, c, d, e, f => if d < (a.length : Int) then (impl_IsConvexFor.l2 k a b c d (wrap64 (d + 1)) e f) else (impl_IsConvexFor.l0 k a b e (wrap64 (f + 1)))
def impl_IsConvexFor.l2 : Nat → List Int → Int → Int → Int → Int → Int → Int → Option (Bool × Bool)
 | 0, _, _, _, _, _, _, _ => none
 | k + 1, a, b, c, d, e, f, g => if e < (a.length : Int) then (if 0 ≤ e then (if 0 ≤ d then (if d < (a.length : Int) then (if 0 ≤ c then (if c < (a.length : Int) then (if (wrap64 ((wrap64 (d - c)) * (wrap64 (b + (rd a e))))) < (wrap64 ((wrap64 ((wrap64 (d - c)) * (rd a d))) + (wrap64 ((wrap64 (e - d)) * (wrap64 ((rd a d) - (rd a c))))))) then (some (false, true)) else (impl_IsConvexFor.l2 k a b c d (wrap64 (e + 1)) f g)) else (none)) else (none)) else (none)) else (none)) else (none)) else (impl_IsConvexFor.l1 k a b c (wrap64 (d + 1)) f g)
end
def impl_IsConvexFor.f (k : Nat) (a : List Int) (b : Int) : Option (Bool × Bool) := if (a.length : Int) > 41 then (impl_IsConvexFor.j0 k a b true) else ((impl_allWithin.f k a (-1000000000000) 1000000000000).bind fun c => (if c = true then ((impl_within.f b 0 1000000000000).bind fun d => (impl_IsConvexFor.j0 k a b (!d))) else (impl_IsConvexFor.j0 k a b true)))
theorem impl_IsConvexFor.mono_l : ∀ k, (∀ y0 y1 y2, LeO (impl_IsConvexFor.j0 k y0 y1 y2) (impl_IsConvexFor.j0 (k + 1) y0 y1 y2)) ∧ (∀ y0 y1 y2 y3, LeO (impl_IsConvexFor.l0 k y0 y1 y2 y3) (impl_IsConvexFor.l0 (k + 1) y0 y1 y2 y3)) ∧ (∀ y0 y1 y2 y3 y4 y5, LeO (impl_IsConvexFor.l1 k y0 y1 y2 y3 y4 y5) (impl_IsConvexFor.l1 (k + 1) y0 y1 y2 y3 y4 y5)) ∧ (∀ y0 y1 y2 y3 y4 y5 y6, LeO (impl_IsConvexFor.l2 k y0 y1 y2 y3 y4 y5 y6) (impl_IsConvexFor.l2 (k + 1) y0 y1 y2 y3 y4 y5 y6))
 | 0 => by refine ⟨?_, ?_, ?_, ?_⟩ <;> intros <;> intro _ h <;> simp [impl_IsConvexFor.j0, impl_IsConvexFor.l0, impl_IsConvexFor.l1, impl_IsConvexFor.l2] at h
 | k + 1 => by
  obtain ⟨g7, g8, g9, h1⟩ := impl_IsConvexFor.mono_l k
  refine ⟨?_, ?_, ?_, ?_⟩ <;> intros <;> (first | unfold impl_IsConvexFor.j0 | unfold impl_IsConvexFor.l0 | unfold impl_IsConvexFor.l1 | unfold impl_IsConvexFor.l2) <;> repeat' with_reducible first | apply g8 | apply g9 | apply h1 | exact LeO.refl _ | refine LeO.ite ?_ ?_
theorem impl_IsConvexFor.mono : ∀ a0 a1 k, LeO (impl_IsConvexFor.f k a0 a1) (impl_IsConvexFor.f (k + 1) a0 a1) := by
 intro a0 a1 k
 obtain ⟨g7, g8, g9, h1⟩ := impl_IsConvexFor.mono_l k
 unfold impl_IsConvexFor.f
 repeat' with_reducible first | apply g7 | apply impl_allWithin.mono | exact LeO.refl _ | refine LeO.ite ?_ ?_ | refine LeO.bind ?_ (fun _ => ?_)
set_option maxHeartbeats 8000000 in
set_option maxRecDepth 100000 in
theorem impl_IsConvexFor.calls (k : Nat) (A0 : Option Addr) (c0 : Nat) (l0 : List Int) (a1 : Int) (r1 : Bool) (r2 : Bool) (w : World) (h2 : Kd.C (Kd.int .i64) w A0 l0.length l0) (h3 : l0.length ≤ c0) (h : impl_IsConvexFor.f k l0 a1 = some (r1, r2)) :
  Calls Try.prog 57 #[.slice A0 l0.length c0, .int .i64 a1] w fun e w' => e = .returned (.tuple #[.bool r1, .bool r2]) ∧ Drawn0 w w' := by
 have b9 := zA h2; have h4 := zA h3; clear h2 h3; unfold impl_IsConvexFor.f at h; revert h; intro H; have g3 := zA H; clear H; go_enter Try.func57, Try.ntmps57; go_upto_region 1 with (fail); go_cut [23] (fun m5 wc => ∃ (kq : Nat) (b5 : Bool), m5 = .bool b5 ∧ Aside0 (impl_IsConvexFor.j0 kq l0 a1 b5 = some (r1, r2)) ∧ Aside0 (kq ≤ k) ∧ Drawn0 w wc)
 case first =>
  have H := g3.out; clear g3; by_cases c4 : (l0.length : Int) > 41
  ·rw [if_pos c4] at H; have g4 : decide (41 < (l0.length : Int)) = true := decide_eq_true c4; have g5 : decide (41 < l0.length) = true := decide_eq_true (by omega); clear c4; have H' := zA H; clear H; go_wp2; go_meet; case rel => exact ⟨_, (true), (by rfl), H', ⟨by omega⟩, by exact Drawn0.refl _⟩
  rw [if_neg c4] at H; have g4 : decide (41 < (l0.length : Int)) = false := decide_eq_false c4; have g5 : decide (41 < l0.length) = false := decide_eq_false (by omega); clear c4; obtain ⟨g6, A5, H⟩ := zB H; by_cases c6 : g6 = true
  ·subst c6; rw [if_pos rfl] at H; obtain ⟨e2, A7, H⟩ := zB H; have H' := zA H; clear H; go_wp2_with (first | (go_at_call 87; (with_reducible refine (impl_allWithin.calls k _ _ l0 (-1000000000000) 1000000000000 true _ ?side1 ?side2 A5.out).mono ?_); (case side1 => exact b9.out); (case side2 => exact h4.out); rintro e w' ⟨rfl, ⟨nd, rfl⟩⟩) | (go_at_call 98; (with_reducible refine (impl_within.calls a1 0 1000000000000 e2 _ A7.out).mono ?_); rintro e w' ⟨rfl, ⟨nd, rfl⟩⟩)); go_meet; case rel => exact ⟨_, (!e2), (by rfl), H', ⟨by omega⟩, z21_1⟩
  replace c6 := Bool.eq_false_iff.mpr c6; subst c6; rw [if_neg (show ¬ (false = true) by decide)] at H; have H' := zA H; clear H; go_wp2_with (go_at_call 87; (with_reducible refine (impl_allWithin.calls k _ _ l0 (-1000000000000) 1000000000000 false _ ?side1 ?side2 A5.out).mono ?_); (case side1 => exact b9.out); (case side2 => exact h4.out); rintro e w' ⟨rfl, ⟨nd, rfl⟩⟩); go_meet; case rel => exact ⟨_, (true), (by rfl), H', ⟨by omega⟩, z21_1⟩
 case rest =>
 clear g3; obtain ⟨kq, b5, rfl, HA, d5, ⟨m7, rfl⟩⟩ := hcut; cases kq with
 | zero => exact absurd HA.out (by simp [impl_IsConvexFor.j0])
 | succ h5 => ?_
 have H := HA.out; clear HA; simp only [impl_IsConvexFor.j0] at H; by_cases c8 : b5 = true
 ·subst c8; rw [if_pos rfl] at H; simp only [Option.some.injEq, Prod.mk.injEq] at H; obtain ⟨rfl, rfl⟩ := H; go_wp2; go_ret2; exact ⟨by rfl, z21_1⟩
 replace c8 := Bool.eq_false_iff.mpr c8; subst c8; rw [if_neg (show ¬ (false = true) by decide)] at H; have H' := zA H; clear H; go_wp2; go_loopg [26] h5 (fun kq m6 w' => ∃ (a2 : Int), m6 = .int .i64 a2 ∧ Aside0 (impl_IsConvexFor.l0 kq l0 a1 (l0.length : Int) a2 = some (r1, r2)) ∧ Aside0 (kq ≤ h5) ∧ Drawn0 w w'); case atStart => exact ⟨(0), (by rfl), H', ⟨Nat.le_refl _⟩, z21_1⟩
 case round =>
 clear H'; obtain ⟨a2, rfl, HA, d6, ⟨m2, rfl⟩⟩ := hrel; cases gk with
 | zero => exact absurd HA.out (by simp [impl_IsConvexFor.l0])
 | succ k2 => ?_
 have H := HA.out; clear HA; simp only [impl_IsConvexFor.l0] at H; by_cases c9 : a2 < (l0.length : Int)
 ·rw [if_pos c9] at H; have e3 := decide_eq_true c9; clear c9; have H' := zA H; clear H; go_wp2; go_loopg [7] k2 (fun kq v7 w' => ∃ (a3 : Int), v7 = .int .i64 a3 ∧ Aside0 (impl_IsConvexFor.l1 kq l0 a1 a2 a3 (l0.length : Int) a2 = some (r1, r2)) ∧ Aside0 (kq ≤ k2) ∧ Drawn0 w w'); case atStart => exact ⟨(wrap64 (a2 + 1)), (by rfl), H', ⟨Nat.le_refl _⟩, z21_1⟩
  case round =>
  clear H' e3; obtain ⟨a3, rfl, HA, d7, ⟨m3, rfl⟩⟩ := hrel; cases gk with
  | zero => exact absurd HA.out (by simp [impl_IsConvexFor.l1])
  | succ k3 => ?_
  have H := HA.out; clear HA; simp only [impl_IsConvexFor.l1] at H; by_cases d8 : a3 < (l0.length : Int)
  ·rw [if_pos d8] at H; have c7 := decide_eq_true d8; clear d8; have H' := zA H; clear H; go_wp2; go_loopg [8] k3 (fun kq v8 w' => ∃ (a4 : Int), v8 = .int .i64 a4 ∧ Aside0 (impl_IsConvexFor.l2 kq l0 a1 a2 a3 a4 (l0.length : Int) a2 = some (r1, r2)) ∧ Aside0 (kq ≤ k3) ∧ Drawn0 w w'); case atStart => exact ⟨(wrap64 (a3 + 1)), (by rfl), H', ⟨Nat.le_refl _⟩, z21_1⟩
   case round =>
   clear H' c7; obtain ⟨a4, rfl, HA, e6, ⟨m4, rfl⟩⟩ := hrel; cases gk with
   | zero => exact absurd HA.out (by simp [impl_IsConvexFor.l2])
   | succ k4 => ?_
   have H := HA.out; clear HA; simp only [impl_IsConvexFor.l2] at H; by_cases d9 : a4 < (l0.length : Int); rotate_left
   ·rw [if_neg d9] at H; have e4 := decide_eq_false d9; clear d9; have H' := zA H; clear H; go_wp2; go_roundg k4; (case measure => have := d5.out; have := d6.out; have := d7.out; have := e6.out; omega); case rel => exact ⟨(wrap64 (a3 + 1)), (by rfl), H', ⟨by have := d5.out; have := d6.out; have := d7.out; have := e6.out; omega⟩, z21_1⟩
   rw [if_pos d9] at H; have e4 := decide_eq_true d9; clear d9; by_cases e7 : 0 ≤ a4; rotate_left
   ·rw [if_neg e7] at H; exact absurd H (by simp)
   rw [if_pos e7] at H; have h6 := decide_eq_true e7; clear e7; by_cases e8 : 0 ≤ a3; rotate_left
   ·rw [if_neg e8] at H; exact absurd H (by simp)
   rw [if_pos e8] at H; have h7 := decide_eq_true e8; clear e8; by_cases e9 : a3 < (l0.length : Int); rotate_left
   ·rw [if_neg e9] at H; exact absurd H (by simp)
   rw [if_pos e9] at H; have h8 := decide_eq_true e9; clear e9; by_cases g1 : 0 ≤ a2; rotate_left
   ·rw [if_neg g1] at H; exact absurd H (by simp)
   rw [if_pos g1] at H; have h9 := decide_eq_true g1; clear g1; by_cases g2 : a2 < (l0.length : Int); rotate_left
   ·rw [if_neg g2] at H; exact absurd H (by simp)
   rw [if_pos g2] at H; have m1 := decide_eq_true g2; clear g2; by_cases e1 : (wrap64 ((wrap64 (a3 - a2)) * (wrap64 (a1 + (rd l0 a4))))) < (wrap64 ((wrap64 ((wrap64 (a3 - a2)) * (rd l0 a3))) + (wrap64 ((wrap64 (a4 - a3)) * (wrap64 ((rd l0 a3) - (rd l0 a2)))))))
   ·rw [if_pos e1] at H; have e5 := decide_eq_true e1; clear e1; simp only [Option.some.injEq, Prod.mk.injEq] at H; obtain ⟨rfl, rfl⟩ := H; have a6 : 0 ≤ (a4 : Int) := of_decide_eq_true zqd; have a7 : a4 < (l0.length : Int) := of_decide_eq_true zqd; obtain ⟨a5, d1, c1⟩ := Kd.at_int b9.out a4 a6 a7; cases d1; replace a6 := eq_true a6; replace a7 := eq_true a7; have a8 : 0 ≤ (a3 : Int) := of_decide_eq_true zqd; have a9 : a3 < (l0.length : Int) := of_decide_eq_true zqd; obtain ⟨b6, d2, c2⟩ := Kd.at_int b9.out a3 a8 a9; obtain rfl : a5 = b6 := (by injection d2); replace a8 := eq_true a8; replace a9 := eq_true a9; have b1 : 0 ≤ (a3 : Int) := of_decide_eq_true zqd; have b2 : a3 < (l0.length : Int) := of_decide_eq_true zqd; obtain ⟨b7, d3, c3⟩ := Kd.at_int b9.out a3 b1 b2; obtain rfl : a5 = b7 := (by injection d3); replace b1 := eq_true b1; replace b2 := eq_true b2; have b3 : 0 ≤ (a2 : Int) := of_decide_eq_true zqd; have b4 : a2 < (l0.length : Int) := of_decide_eq_true zqd; obtain ⟨b8, d4, c5⟩ := Kd.at_int b9.out a2 b3 b4; obtain rfl : a5 = b8 := (by injection d4); replace b3 := eq_true b3; replace b4 := eq_true b4; go_wp2; (repeat (go_quiet (fail); try go_wp2)); go_ret2; exact ⟨by rfl, z21_1⟩
   rw [if_neg e1] at H; have e5 := decide_eq_false e1; clear e1; have H' := zA H; clear H; have a6 : 0 ≤ (a4 : Int) := of_decide_eq_true zqd; have a7 : a4 < (l0.length : Int) := of_decide_eq_true zqd; obtain ⟨a5, d1, c1⟩ := Kd.at_int b9.out a4 a6 a7; cases d1; replace a6 := eq_true a6; replace a7 := eq_true a7; have a8 : 0 ≤ (a3 : Int) := of_decide_eq_true zqd; have a9 : a3 < (l0.length : Int) := of_decide_eq_true zqd; obtain ⟨b6, d2, c2⟩ := Kd.at_int b9.out a3 a8 a9; obtain rfl : a5 = b6 := (by injection d2); replace a8 := eq_true a8; replace a9 := eq_true a9; have b1 : 0 ≤ (a3 : Int) := of_decide_eq_true zqd; have b2 : a3 < (l0.length : Int) := of_decide_eq_true zqd; obtain ⟨b7, d3, c3⟩ := Kd.at_int b9.out a3 b1 b2; obtain rfl : a5 = b7 := (by injection d3); replace b1 := eq_true b1; replace b2 := eq_true b2; have b3 : 0 ≤ (a2 : Int) := of_decide_eq_true zqd; have b4 : a2 < (l0.length : Int) := of_decide_eq_true zqd; obtain ⟨b8, d4, c5⟩ := Kd.at_int b9.out a2 b3 b4; obtain rfl : a5 = b8 := (by injection d4); replace b3 := eq_true b3; replace b4 := eq_true b4; go_wp2; (repeat (go_quiet (fail); try go_wp2)); go_roundg k4; (case measure => have := d5.out; have := d6.out; have := d7.out; have := e6.out; omega); case rel => exact ⟨(wrap64 (a4 + 1)), (by rfl), H', ⟨by have := d5.out; have := d6.out; have := d7.out; have := e6.out; omega⟩, z21_1⟩
  rw [if_neg d8] at H; have c7 := decide_eq_false d8; clear d8; have H' := zA H; clear H; go_wp2; go_roundg k3; (case measure => have := d5.out; have := d6.out; have := d7.out; omega); case rel => exact ⟨(wrap64 (a2 + 1)), (by rfl), H', ⟨by have := d5.out; have := d6.out; have := d7.out; omega⟩, z21_1⟩
 rw [if_neg c9] at H; have e3 := decide_eq_false c9; clear c9; simp only [Option.some.injEq, Prod.mk.injEq] at H; obtain ⟨rfl, rfl⟩ := H; go_wp2; go_ret2; exact ⟨by rfl, z21_1⟩
end Go.Proofs.Ytmekmkhdhakohaa.PFnLevels
