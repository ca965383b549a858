import Derived.Test.YtmekmkhdhakohaaPFnLevelsx2
namespace Go.Proofs.Ytmekmkhdhakohaa.PFnLevels
open Go.RowKit Go.Proofs.YtmekmkhdhakohaaW.PrintWords Go.Proofs.YtmekmkhdhakohaaW.PrintLast Go.Proofs.YtmekmkhdhakohaaW.PrintMore
attribute [local go_sem] max2_int min2_int max_two min_two max_three min_three max_four min_four
set_option linter.unusedVariables false
set_option linter.unusedSimpArgs false
theorem z22_1 {p : Prop} (h : p := by repeat (first | exact Drawn0.refl _ | apply Drawn0.step)) : p := h
theorem z22_3 {p : Prop} (h : p := by repeat (with_reducible first | exact HB.out | apply pw_below_drewN | refine below_set ?_ (IsS114.ge g9.out))) : p := h
theorem z22_4 {p : Prop} (h : p := by repeat (with_reducible first | exact HK.out | apply KeepBut.set_ | apply keep_drewN)) : p := h
theorem z22_5 {p : Prop} (h : p := by (try simp only [Int.add_zero]); repeat (with_reducible first | exact g9.out | apply IsS114.drewN | apply IsS114.set_1 | apply IsS114.set_2)) : p := h
theorem z22_6 {p : Prop} (h : p := by repeat (with_reducible first | exact g9.out | apply IsS114.drewN | apply IsS114.set_1 | apply IsS114.set_2)) : p := h
theorem z22_7 {p : Prop} (h : p := by have := e2.out; have := e8.out; have := n2.out; have := n3.out; have := n4.out; have := p2.out; omega) : p := h
mutual
def spec_IsConvexFor.l0 : Nat → List Int → Int → Int → Option (Bool × Bool)
 | 0, _, _, _ => none
 | k + 1, a, b, c => if c < (a.length : Int) then (spec_IsConvexFor.j1 k a b c (decide (c ≤ 41))) else (spec_IsConvexFor.j1 k a b c false)
def spec_IsConvexFor.j1 : Nat → List Int → Int → Int → Bool → Option (Bool × Bool)
 | 0, _, _, _, _ => none
 | k + 1, a, b, c, d => if d = true then (if 0 ≤ c then (if c < (a.length : Int) then ((spec_l1In.f (rd a c) (-1000000000000) 1000000000000).bind fun e => (if e = true then (spec_IsConvexFor.l0 k a b (wrap64 (c + 1))) else (some (false, false)))) else (none)) else (none)) else (if (a.length : Int) > 41 then (spec_IsConvexFor.j2 k a b true) else ((spec_l1In.f b 0 1000000000000).bind fun f => (spec_IsConvexFor.j2 k a b (!f))))
def spec_IsConvexFor.j2 : Nat → List Int → Int → Bool → Option (Bool × Bool)
 | 0, _, _, _ => none
 | k + 1, a, b, c => if c = true then (some (false, false)) else (spec_IsConvexFor.l1 k a b 0)
def spec_IsConvexFor.l1 : Nat → List Int → Int → Int → Option (Bool × Bool)
 | 0, _, _, _ => none
 | k + 1, a, b, c => if c < (a.length : Int) then (spec_IsConvexFor.l2 k a b c 1) else (some (true, true))
def spec_IsConvexFor.l2 : Nat → List Int → Int → Int → Int → Option (Bool × Bool)
 | 0, _, _, _, _ => none
 | k + 1, a, b, c, d => if d ≤ c then (spec_IsConvexFor.l3 k a b c d 1) else (spec_IsConvexFor.l1 k a b (wrap64 (c + 1)))
def spec_IsConvexFor.l3 : Nat → List Int → Int → Int → Int → Int → Option (Bool × Bool)
 | 0, _, _, _, _, _ => none
 | k + 1, a, b, c, d, e => if (wrap64 (c + e)) < (a.length : Int) then (if 0 ≤ (wrap64 (c + e)) then (if 0 ≤ c then (if c < (a.length : Int) then (if 0 ≤ (wrap64 (c - d)) then (if (wrap64 (c - d)) < (a.length : Int) then (if (wrap64 (d * (wrap64 (b + (rd a (wrap64 (c + e))))))) < (wrap64 ((wrap64 (d * (rd a c))) + (wrap64 (e * (wrap64 ((rd a c) - (rd a (wrap64 (c - d))))))))) then (some (false, true)) else (spec_IsConvexFor.l3 k a b c d (wrap64 (e + 1)))) else (none)) else (none)) else (none)) else (none)) else (none)) else (spec_IsConvexFor.l2 k a b c (wrap64 (d + 1)))
end
def spec_IsConvexFor.f (k : Nat) (a : List Int) (b : Int) : Option (Bool × Bool) := spec_IsConvexFor.l0 k a b 0
theorem spec_IsConvexFor.mono_l : ∀ k, (∀ y0 y1 y2, LeO (spec_IsConvexFor.l0 k y0 y1 y2) (spec_IsConvexFor.l0 (k + 1) y0 y1 y2)) ∧ (∀ y0 y1 y2 y3, LeO (spec_IsConvexFor.j1 k y0 y1 y2 y3) (spec_IsConvexFor.j1 (k + 1) y0 y1 y2 y3)) ∧ (∀ y0 y1 y2, LeO (spec_IsConvexFor.j2 k y0 y1 y2) (spec_IsConvexFor.j2 (k + 1) y0 y1 y2)) ∧ (∀ y0 y1 y2, LeO (spec_IsConvexFor.l1 k y0 y1 y2) (spec_IsConvexFor.l1 (k + 1) y0 y1 y2)) ∧ (∀ y0 y1 y2 y3, LeO (spec_IsConvexFor.l2 k y0 y1 y2 y3) (spec_IsConvexFor.l2 (k + 1) y0 y1 y2 y3)) ∧ (∀ y0 y1 y2 y3 y4, LeO (spec_IsConvexFor.l3 k y0 y1 y2 y3 y4) (spec_IsConvexFor.l3 (k + 1) y0 y1 y2 y3 y4))
 | 0 => by refine ⟨?_, ?_, ?_, ?_, ?_, ?_⟩ <;> intros <;> intro _ h <;> simp [spec_IsConvexFor.l0, spec_IsConvexFor.j1, spec_IsConvexFor.j2, spec_IsConvexFor.l1, spec_IsConvexFor.l2, spec_IsConvexFor.l3] at h
 | k + 1 => by
  obtain ⟨p3, v1, v2, v3, v4, v5⟩ := spec_IsConvexFor.mono_l k
  refine ⟨?_, ?_, ?_, ?_, ?_, ?_⟩ <;> intros <;> (first | unfold spec_IsConvexFor.l0 | unfold spec_IsConvexFor.j1 | unfold spec_IsConvexFor.j2 | unfold spec_IsConvexFor.l1 | unfold spec_IsConvexFor.l2 | unfold spec_IsConvexFor.l3) <;> repeat' with_reducible first | apply v1 | apply p3 | apply v2 | apply v3 | apply v4 | apply v5 | exact LeO.refl _ | refine LeO.ite ?_ ?_ | refine LeO.bind ?_ (fun _ => ?_)
theorem spec_IsConvexFor.mono : ∀ a0 a1 k, LeO (spec_IsConvexFor.f k a0 a1) (spec_IsConvexFor.f (k + 1) a0 a1) := by
 intro a0 a1 k
 obtain ⟨p3, v1, v2, v3, v4, v5⟩ := spec_IsConvexFor.mono_l k
 unfold spec_IsConvexFor.f
 repeat' with_reducible first | apply p3
set_option maxHeartbeats 8000000 in
set_option maxRecDepth 100000 in
theorem spec_IsConvexFor.calls (k : Nat) (A0 : Option Addr) (c0 : Nat) (l0 : List Int) (a1 : Int) (r1 : Bool) (r2 : Bool) (w : World) (a7 : Kd.C (Kd.int .i64) w A0 l0.length l0) (w1 : l0.length ≤ c0) (h : spec_IsConvexFor.f k l0 a1 = some (r1, r2)) :
  Calls Try.prog 58 #[.slice A0 l0.length c0, .int .i64 a1] w fun e w' => e = .returned (.tuple #[.bool r1, .bool r2]) ∧ Drawn0 w w' := by
 have e7 := zA a7; have x5 := zA w1; clear a7 w1; unfold spec_IsConvexFor.f at h; revert h; intro H; have H' := zA H; clear H; go_enter Try.func58, Try.ntmps58; go_wp2; go_loopg [6] k (fun kq v6 w' => ∃ (a4 : Int), v6 = .int .i64 a4 ∧ Aside0 (spec_IsConvexFor.l0 kq l0 a1 a4 = some (r1, r2)) ∧ Aside0 (kq ≤ k) ∧ Drawn0 w w'); case atStart => exact ⟨(0), (by rfl), H', ⟨Nat.le_refl _⟩, by exact Drawn0.refl _⟩
 case round =>
 clear H'; obtain ⟨a4, rfl, HA, e2, ⟨m1, rfl⟩⟩ := hrel; cases gk with
 | zero => exact absurd HA.out (by simp [spec_IsConvexFor.l0])
 | succ k1 => ?_
 have H := HA.out; clear HA; simp only [spec_IsConvexFor.l0] at H; have p4 := zA H; clear H; go_upto_region 2 with (fail); go_cut [17] (fun w9 wc => ∃ (kq : Nat) (d5 : Bool), w9 = .bool d5 ∧ Aside0 (spec_IsConvexFor.j1 kq l0 a1 a4 d5 = some (r1, r2)) ∧ Aside0 (kq ≤ k1) ∧ Drawn0 w wc)
 case first =>
  have H := p4.out; clear p4; by_cases c4 : a4 < (l0.length : Int)
  ·rw [if_pos c4] at H; have h1 := decide_eq_true c4; clear c4; have H' := zA H; clear H; go_wp2; go_meet; case rel => exact ⟨_, (decide (a4 ≤ 41)), (by rfl), H', ⟨by have := e2.out; omega⟩, z22_1⟩
  rw [if_neg c4] at H; have h1 := decide_eq_false c4; clear c4; have H' := zA H; clear H; go_wp2; go_meet; case rel => exact ⟨_, (false), (by rfl), H', ⟨by have := e2.out; omega⟩, z22_1⟩
 case rest =>
 clear p4; obtain ⟨kq, d5, rfl, HA, e8, ⟨x6, rfl⟩⟩ := hcut; cases kq with
 | zero => exact absurd HA.out (by simp [spec_IsConvexFor.j1])
 | succ w2 => ?_
 have H := HA.out; clear HA; simp only [spec_IsConvexFor.j1] at H; by_cases c5 : d5 = true; rotate_left
 ·replace c5 := Bool.eq_false_iff.mpr c5; subst c5; rw [if_neg (show ¬ (false = true) by decide)] at H; have h2 := zA H; clear H; go_upto_region 6 with (fail); go_cut [33] (fun x1 wc => ∃ (kq : Nat) (d6 : Bool), x1 = .bool d6 ∧ Aside0 (spec_IsConvexFor.j2 kq l0 a1 d6 = some (r1, r2)) ∧ Aside0 (kq ≤ w2) ∧ Drawn0 w wc)
  case first =>
   have H := h2.out; clear h2; by_cases m3 : (l0.length : Int) > 41
   ·rw [if_pos m3] at H; have n5 : decide (41 < (l0.length : Int)) = true := decide_eq_true m3; have n6 : decide (41 < l0.length) = true := decide_eq_true (by omega); clear m3; have H' := zA H; clear H; go_wp2; go_meet; case rel => exact ⟨_, (true), (by rfl), H', ⟨by have := e2.out; have := e8.out; omega⟩, z22_1⟩
   rw [if_neg m3] at H; have n5 : decide (41 < (l0.length : Int)) = false := decide_eq_false m3; have n6 : decide (41 < l0.length) = false := decide_eq_false (by omega); clear m3; obtain ⟨n7, x2, H⟩ := zB H; have H' := zA H; clear H; go_wp2_with (go_at_call 101; (with_reducible refine (spec_l1In.calls a1 0 1000000000000 n7 _ x2.out).mono ?_); rintro e w' ⟨rfl, ⟨nd, rfl⟩⟩); go_meet; case rel => exact ⟨_, (!n7), (by rfl), H', ⟨by have := e2.out; have := e8.out; omega⟩, z22_1⟩
  case rest =>
  clear h2; obtain ⟨kq, d6, rfl, HA, n2, ⟨x7, rfl⟩⟩ := hcut; cases kq with
  | zero => exact absurd HA.out (by simp [spec_IsConvexFor.j2])
  | succ w3 => ?_
  have H := HA.out; clear HA; simp only [spec_IsConvexFor.j2] at H; by_cases o4 : d6 = true
  ·subst o4; rw [if_pos rfl] at H; simp only [Option.some.injEq, Prod.mk.injEq] at H; obtain ⟨rfl, rfl⟩ := H; go_wp2; go_ret2; exact ⟨by rfl, z22_1⟩
  replace o4 := Bool.eq_false_iff.mpr o4; subst o4; rw [if_neg (show ¬ (false = true) by decide)] at H; have H' := zA H; clear H; go_wp2; go_loopg [7] w3 (fun kq v7 w' => ∃ (a2 : Int), v7 = .int .i64 a2 ∧ Aside0 (spec_IsConvexFor.l1 kq l0 a1 a2 = some (r1, r2)) ∧ Aside0 (kq ≤ w3) ∧ Drawn0 w w'); case atStart => exact ⟨(0), (by rfl), H', ⟨Nat.le_refl _⟩, z22_1⟩
  case round =>
  clear H'; obtain ⟨a2, rfl, HA, n3, ⟨m4, rfl⟩⟩ := hrel; cases gk with
  | zero => exact absurd HA.out (by simp [spec_IsConvexFor.l1])
  | succ k4 => ?_
  have H := HA.out; clear HA; simp only [spec_IsConvexFor.l1] at H; by_cases m7 : a2 < (l0.length : Int)
  ·rw [if_pos m7] at H; have g5 := decide_eq_true m7; clear m7; have H' := zA H; clear H; go_wp2; go_loopg [8] k4 (fun kq v8 w' => ∃ (a3 : Int), v8 = .int .i64 a3 ∧ Aside0 (spec_IsConvexFor.l2 kq l0 a1 a2 a3 = some (r1, r2)) ∧ Aside0 (kq ≤ k4) ∧ Drawn0 w w'); case atStart => exact ⟨(1), (by rfl), H', ⟨Nat.le_refl _⟩, z22_1⟩
   case round =>
   clear H' g5; obtain ⟨a3, rfl, HA, n4, ⟨m5, rfl⟩⟩ := hrel; cases gk with
   | zero => exact absurd HA.out (by simp [spec_IsConvexFor.l2])
   | succ k5 => ?_
   have H := HA.out; clear HA; simp only [spec_IsConvexFor.l2] at H; by_cases m8 : a3 ≤ a2
   ·rw [if_pos m8] at H; have g6 := decide_eq_true m8; clear m8; have H' := zA H; clear H; go_wp2; go_loopg [9] k5 (fun kq v9 w' => ∃ (a8 : Int), v9 = .int .i64 a8 ∧ Aside0 (spec_IsConvexFor.l3 kq l0 a1 a2 a3 a8 = some (r1, r2)) ∧ Aside0 (kq ≤ k5) ∧ Drawn0 w w'); case atStart => exact ⟨(1), (by rfl), H', ⟨Nat.le_refl _⟩, z22_1⟩
    case round =>
    clear H' g6; obtain ⟨a8, rfl, HA, p2, ⟨m6, rfl⟩⟩ := hrel; cases gk with
    | zero => exact absurd HA.out (by simp [spec_IsConvexFor.l3])
    | succ k6 => ?_
    have H := HA.out; clear HA; simp only [spec_IsConvexFor.l3] at H; by_cases m9 : (wrap64 (a2 + a8)) < (l0.length : Int); rotate_left
    ·rw [if_neg m9] at H; have g7 := decide_eq_false m9; clear m9; have H' := zA H; clear H; go_wp2; go_roundg k6; (case measure => have := e2.out; have := e8.out; have := n2.out; have := n3.out; have := n4.out; have := p2.out; omega); case rel => exact ⟨(wrap64 (a3 + 1)), (by rfl), H', ⟨z22_7⟩, z22_1⟩
    rw [if_pos m9] at H; have g7 := decide_eq_true m9; clear m9; obtain ⟨a9, e3⟩ : ∃ j_ : Int, (wrap64 (a2 + a8)) = j_ := ⟨_, rfl⟩; (replace H : (if 0 ≤ (a9) then (if 0 ≤ a2 then (if a2 < (l0.length : Int) then (if 0 ≤ (wrap64 (a2 - a3)) then (if (wrap64 (a2 - a3)) < (l0.length : Int) then (if (wrap64 (a3 * (wrap64 (a1 + (rd l0 (a9)))))) < (wrap64 ((wrap64 (a3 * (rd l0 a2))) + (wrap64 (a8 * (wrap64 ((rd l0 a2) - (rd l0 (wrap64 (a2 - a3))))))))) then (some (false, true)) else (spec_IsConvexFor.l3 k6 l0 a1 a2 a3 (wrap64 (a8 + 1)))) else (none)) else (none)) else (none)) else (none)) else (none)) = some (r1, r2) := by (rw [e3] at H; exact H)); (try rw [e3] at g7); have p5 : (IntKind.i64.wrap (a2 + a8)) = a9 := (i64_w _).trans e3; by_cases o5 : 0 ≤ (a9); rotate_left
    ·rw [if_neg o5] at H; exact absurd H (by simp)
    rw [if_pos o5] at H; have w4 := decide_eq_true o5; clear o5; by_cases o6 : 0 ≤ a2; rotate_left
    ·rw [if_neg o6] at H; exact absurd H (by simp)
    rw [if_pos o6] at H; have w5 := decide_eq_true o6; clear o6; by_cases o7 : a2 < (l0.length : Int); rotate_left
    ·rw [if_neg o7] at H; exact absurd H (by simp)
    rw [if_pos o7] at H; have w6 := decide_eq_true o7; clear o7; obtain ⟨a6, g8⟩ : ∃ j_ : Int, (wrap64 (a2 - a3)) = j_ := ⟨_, rfl⟩; (replace H : (if 0 ≤ (a6) then (if (a6) < (l0.length : Int) then (if (wrap64 (a3 * (wrap64 (a1 + (rd l0 (a9)))))) < (wrap64 ((wrap64 (a3 * (rd l0 a2))) + (wrap64 (a8 * (wrap64 ((rd l0 a2) - (rd l0 (a6)))))))) then (some (false, true)) else (spec_IsConvexFor.l3 k6 l0 a1 a2 a3 (wrap64 (a8 + 1)))) else (none)) else (none)) = some (r1, r2) := by (rw [g8] at H; exact H)); have p6 : (IntKind.i64.wrap (a2 - a3)) = a6 := (i64_w _).trans g8; by_cases o8 : 0 ≤ (a6); rotate_left
    ·rw [if_neg o8] at H; exact absurd H (by simp)
    rw [if_pos o8] at H; have w7 := decide_eq_true o8; clear o8; by_cases o9 : (a6) < (l0.length : Int); rotate_left
    ·rw [if_neg o9] at H; exact absurd H (by simp)
    rw [if_pos o9] at H; have w8 := decide_eq_true o9; clear o9; by_cases n1 : (wrap64 (a3 * (wrap64 (a1 + (rd l0 (a9)))))) < (wrap64 ((wrap64 (a3 * (rd l0 a2))) + (wrap64 (a8 * (wrap64 ((rd l0 a2) - (rd l0 (a6))))))))
    ·rw [if_pos n1] at H; have n8 := decide_eq_true n1; clear n1; simp only [Option.some.injEq, Prod.mk.injEq] at H; obtain ⟨rfl, rfl⟩ := H; have b4 : 0 ≤ ((a9) : Int) := of_decide_eq_true zqd; have b5 : (a9) < (l0.length : Int) := of_decide_eq_true zqd; obtain ⟨b2, h3, e9⟩ := Kd.at_int e7.out (a9) b4 b5; cases h3; replace b4 := eq_true b4; replace b5 := eq_true b5; have b6 : 0 ≤ (a2 : Int) := of_decide_eq_true zqd; have b7 : a2 < (l0.length : Int) := of_decide_eq_true zqd; obtain ⟨e4, h4, g1⟩ := Kd.at_int e7.out a2 b6 b7; obtain rfl : b2 = e4 := (by injection h4); replace b6 := eq_true b6; replace b7 := eq_true b7; have b8 : 0 ≤ (a2 : Int) := of_decide_eq_true zqd; have b9 : a2 < (l0.length : Int) := of_decide_eq_true zqd; obtain ⟨e5, h5, g2⟩ := Kd.at_int e7.out a2 b8 b9; obtain rfl : b2 = e5 := (by injection h5); replace b8 := eq_true b8; replace b9 := eq_true b9; have c1 : 0 ≤ ((a6) : Int) := of_decide_eq_true zqd; have c8 : (a6) < (l0.length : Int) := of_decide_eq_true zqd; obtain ⟨e6, h6, g3⟩ := Kd.at_int e7.out (a6) c1 c8; obtain rfl : b2 = e6 := (by injection h6); replace c1 := eq_true c1; replace c8 := eq_true c8; go_wp2; (repeat (go_quiet (fail); try go_wp2)); go_ret2; exact ⟨by rfl, z22_1⟩
    rw [if_neg n1] at H; have n8 := decide_eq_false n1; clear n1; have H' := zA H; clear H; have b4 : 0 ≤ ((a9) : Int) := of_decide_eq_true zqd; have b5 : (a9) < (l0.length : Int) := of_decide_eq_true zqd; obtain ⟨b2, h3, e9⟩ := Kd.at_int e7.out (a9) b4 b5; cases h3; replace b4 := eq_true b4; replace b5 := eq_true b5; have b6 : 0 ≤ (a2 : Int) := of_decide_eq_true zqd; have b7 : a2 < (l0.length : Int) := of_decide_eq_true zqd; obtain ⟨e4, h4, g1⟩ := Kd.at_int e7.out a2 b6 b7; obtain rfl : b2 = e4 := (by injection h4); replace b6 := eq_true b6; replace b7 := eq_true b7; have b8 : 0 ≤ (a2 : Int) := of_decide_eq_true zqd; have b9 : a2 < (l0.length : Int) := of_decide_eq_true zqd; obtain ⟨e5, h5, g2⟩ := Kd.at_int e7.out a2 b8 b9; obtain rfl : b2 = e5 := (by injection h5); replace b8 := eq_true b8; replace b9 := eq_true b9; have c1 : 0 ≤ ((a6) : Int) := of_decide_eq_true zqd; have c8 : (a6) < (l0.length : Int) := of_decide_eq_true zqd; obtain ⟨e6, h6, g3⟩ := Kd.at_int e7.out (a6) c1 c8; obtain rfl : b2 = e6 := (by injection h6); replace c1 := eq_true c1; replace c8 := eq_true c8; go_wp2; (repeat (go_quiet (fail); try go_wp2)); go_roundg k6; (case measure => have := e2.out; have := e8.out; have := n2.out; have := n3.out; have := n4.out; have := p2.out; omega); case rel => exact ⟨(wrap64 (a8 + 1)), (by rfl), H', ⟨z22_7⟩, z22_1⟩
   rw [if_neg m8] at H; have g6 := decide_eq_false m8; clear m8; have H' := zA H; clear H; go_wp2; go_roundg k5; (case measure => have := e2.out; have := e8.out; have := n2.out; have := n3.out; have := n4.out; omega); case rel => exact ⟨(wrap64 (a2 + 1)), (by rfl), H', ⟨by have := e2.out; have := e8.out; have := n2.out; have := n3.out; have := n4.out; omega⟩, z22_1⟩
  rw [if_neg m7] at H; have g5 := decide_eq_false m7; clear m7; simp only [Option.some.injEq, Prod.mk.injEq] at H; obtain ⟨rfl, rfl⟩ := H; go_wp2; go_ret2; exact ⟨by rfl, z22_1⟩
 subst c5; rw [if_pos rfl] at H; by_cases c6 : 0 ≤ a4; rotate_left
 ·rw [if_neg c6] at H; exact absurd H (by simp)
 rw [if_pos c6] at H; have x3 := decide_eq_true c6; clear c6; by_cases c7 : a4 < (l0.length : Int); rotate_left
 ·rw [if_neg c7] at H; exact absurd H (by simp)
 rw [if_pos c7] at H; have n9 := decide_eq_true c7; clear c7; obtain ⟨p7, A8, H⟩ := zB H; by_cases c9 : p7 = true
 ·subst c9; rw [if_pos rfl] at H; have H' := zA H; clear H; have d1 : 0 ≤ (a4 : Int) := of_decide_eq_true zqd; have d2 : a4 < (l0.length : Int) := of_decide_eq_true zqd; obtain ⟨o1, h7, g4⟩ := Kd.at_int e7.out a4 d1 d2; cases h7; replace d1 := eq_true d1; replace d2 := eq_true d2; go_wp2_with (go_at_call 101; (with_reducible refine (spec_l1In.calls (rd l0 a4) (-1000000000000) 1000000000000 true _ A8.out).mono ?_); rintro e w' ⟨rfl, ⟨nd, rfl⟩⟩); go_roundg w2; (case measure => have := e2.out; have := e8.out; omega); case rel => exact ⟨(wrap64 (a4 + 1)), (by rfl), H', ⟨by have := e2.out; have := e8.out; omega⟩, z22_1⟩
 replace c9 := Bool.eq_false_iff.mpr c9; subst c9; rw [if_neg (show ¬ (false = true) by decide)] at H; simp only [Option.some.injEq, Prod.mk.injEq] at H; obtain ⟨rfl, rfl⟩ := H; have d1 : 0 ≤ (a4 : Int) := of_decide_eq_true zqd; have d2 : a4 < (l0.length : Int) := of_decide_eq_true zqd; obtain ⟨o1, h7, g4⟩ := Kd.at_int e7.out a4 d1 d2; cases h7; replace d1 := eq_true d1; replace d2 := eq_true d2; go_wp2_with (go_at_call 101; (with_reducible refine (spec_l1In.calls (rd l0 a4) (-1000000000000) 1000000000000 false _ A8.out).mono ?_); rintro e w' ⟨rfl, ⟨nd, rfl⟩⟩); go_ret2; exact ⟨by rfl, z22_1⟩
/-- A state of type 114 at block g of W; what its slices lead to came in by w0. -/
def IsS114 (w0 W : World) (g : Nat) (f0 : List Int) (f1 : Int) (f2 : Int) : Prop := ∃ A0 c0, W.heap[g]? = some (.cells #[.slice A0 f0.length c0, .int .i64 f1, .int .u64 f2] 114 (0, 0)) ∧ w0.heap.size ≤ g ∧ Kd.C (Kd.int .u8) w0 A0 f0.length f0
theorem IsS114.grown {w0 W : World} {g : Nat} {f0 : List Int} {f1 : Int} {f2 : Int} {W1 : World} {row : Option Nat} (h : IsS114 w0 W g f0 f1 f2) (hw : W.grownBy W1 row) (hne : some g ≠ row) : IsS114 w0 W1 g f0 f1 f2 := by
 obtain ⟨A0, c0, hb, hg, a7⟩ := h
 exact ⟨A0, c0, blk_grown hb hw hne, hg, a7⟩
theorem IsS114.own_neN {w0 W : World} {g : Nat} {f0 : List Int} {f1 : Int} {f2 : Int} {α : Type} {d : Kd α} {e : Nat} {base : Nat} {ok : Nat → Prop} {v : Value} {xs : List α} (h : IsS114 w0 W g f0 f1 f2) (ho : Kd.N d e W base ok v xs) (ht : e ≠ 114) : some g ≠ v.ownBlock := by
 obtain ⟨A0, c0, hb, hg, a7⟩ := h
 exact Kd.N_ne ho hb ht
theorem IsS114.fresh {w0 W : World} {g : Nat} {f0 : List Int} {f1 : Int} {f2 : Int} (h : IsS114 w0 W g f0 f1 f2) : ∀ k, W.heap.size ≤ k → k ≠ g := by
 obtain ⟨A0, c0, hb, hg, a7⟩ := h
 exact Kd.freshB hb
theorem IsS114.kept {w0 W : World} {g : Nat} {f0 : List Int} {f1 : Int} {f2 : Int} {W1 : World} {S : Nat → Prop} (h : IsS114 w0 W g f0 f1 f2) (hk : Kept W W1 S) (hne : ¬ S g) : IsS114 w0 W1 g f0 f1 f2 := by
 obtain ⟨A0, c0, hb, hg, a7⟩ := h
 exact ⟨A0, c0, blk_kept hb hk hne, hg, a7⟩
theorem IsS114.below {w0 W : World} {g : Nat} {f0 : List Int} {f1 : Int} {f2 : Int} {W1 : World} (h : IsS114 w0 W g f0 f1 f2) (hw : Below W.heap.size W W1) : IsS114 w0 W1 g f0 f1 f2 := h.grown (grown_of_below hw none) (by simp)
theorem IsS114.alloc {w0 W : World} {g : Nat} {f0 : List Int} {f1 : Int} {f2 : Int} (h : IsS114 w0 W g f0 f1 f2) (o : Obj) : IsS114 w0 (W.alloc o) g f0 f1 f2 := h.below (below_alloc (Below.refl _ _) o)
theorem IsS114.drewN {w0 W : World} {g : Nat} {f0 : List Int} {f1 : Int} {f2 : Int} (h : IsS114 w0 W g f0 f1 f2) (m : Nat) : IsS114 w0 (W.drewN m) g f0 f1 f2 := h
theorem IsS114.drew {w0 W : World} {g : Nat} {f0 : List Int} {f1 : Int} {f2 : Int} (h : IsS114 w0 W g f0 f1 f2) : IsS114 w0 W.drew g f0 f1 f2 := h
theorem IsS114.at_ {w0 W : World} {g : Nat} {f0 : List Int} {f1 : Int} {f2 : Int} {w' : World} {m : Nat} (hq : W.drewN m = w') (h : IsS114 w0 W g f0 f1 f2) : IsS114 w0 w' g f0 f1 f2 := by subst hq; exact IsS114.drewN h m
theorem IsS114.apart {w0 W : World} {g : Nat} {f0 : List Int} {f1 : Int} {f2 : Int} {α : Type} {d : Kd α} {e : Nat} {base : Nat} {ok : Nat → Prop} {v : Value} {xs : List α} (h : IsS114 w0 W g f0 f1 f2) (ho : d.R e W base ok v xs) (ht : ∀ q, q ∈ e :: d.E → q ≠ 114) : d.R e W base (fun k => ok k ∧ k ≠ g) v xs := by
 obtain ⟨A0, c0, hb, hg, a7⟩ := h
 exact Kd.R_types ho hb ht
theorem IsS114.own_ne {w0 W : World} {g : Nat} {f0 : List Int} {f1 : Int} {f2 : Int} {α : Type} {d : Kd α} {e : Nat} {base : Nat} {ok : Nat → Prop} {v : Value} {xs : List α} (h : IsS114 w0 W g f0 f1 f2) (ho : d.R e W base ok v xs) (ht : e ≠ 114) : some g ≠ v.ownBlock := by
 obtain ⟨A0, c0, hb, hg, a7⟩ := h
 exact Kd.R_ne ho hb ht
theorem IsS114.apartQ {w0 W : World} {g : Nat} {f0 : List Int} {f1 : Int} {f2 : Int} {α : Type} {d : Kd α} {e : Nat} {base : Nat} {ok : Nat → Prop} {v : Value} {xs : List α} (h : IsS114 w0 W g f0 f1 f2) (ho : d.Q e W base ok v xs) (ht : ∀ q, q ∈ e :: d.E → q ≠ 114) : d.Q e W base (fun k => ok k ∧ k ≠ g) v xs := by
 obtain ⟨A0, c0, hb, hg, a7⟩ := h
 exact Kd.Q_types ho hb ht
theorem IsS114.own_neQ {w0 W : World} {g : Nat} {f0 : List Int} {f1 : Int} {f2 : Int} {α : Type} {d : Kd α} {e : Nat} {base : Nat} {ok : Nat → Prop} {v : Value} {xs : List α} (h : IsS114 w0 W g f0 f1 f2) (ho : d.Q e W base ok v xs) (ht : e ≠ 114) : some g ≠ v.ownBlock := by
 obtain ⟨A0, c0, hb, hg, a7⟩ := h
 exact Kd.Q_ne ho hb ht
theorem IsS114.apartS {w0 W : World} {g : Nat} {f0 : List Int} {f1 : Int} {f2 : Int} {α : Type} {d : Kd α} {e : Nat} {base : Nat} {ok : Nat → Prop} {v : Value} {xs : List α} (h : IsS114 w0 W g f0 f1 f2) (ho : d.S e W base ok v xs) (ht : ∀ q, q ∈ e :: d.E → q ≠ 114) : d.S e W base (fun k => ok k ∧ k ≠ g) v xs := by
 obtain ⟨A0, c0, hb, hg, a7⟩ := h
 exact Kd.S_types ho hb ht
theorem IsS114.own_neS {w0 W : World} {g : Nat} {f0 : List Int} {f1 : Int} {f2 : Int} {α : Type} {d : Kd α} {e : Nat} {base : Nat} {ok : Nat → Prop} {v : Value} {xs : List α} (h : IsS114 w0 W g f0 f1 f2) (ho : d.S e W base ok v xs) (ht : e ≠ 114) : some g ≠ v.ownBlock := by
 obtain ⟨A0, c0, hb, hg, a7⟩ := h
 exact Kd.S_ne ho hb ht
theorem IsS114.lt {w0 W : World} {g : Nat} {f0 : List Int} {f1 : Int} {f2 : Int} (h : IsS114 w0 W g f0 f1 f2) : g < W.heap.size := by
 obtain ⟨A0, c0, hb, hg, a7⟩ := h
 exact blk_lt hb
theorem IsS114.ge {w0 W : World} {g : Nat} {f0 : List Int} {f1 : Int} {f2 : Int} (h : IsS114 w0 W g f0 f1 f2) : w0.heap.size ≤ g := by
 obtain ⟨A0, c0, hb, hg, a7⟩ := h
 exact hg
theorem IsS114.ne_blk {w0 W : World} {g : Nat} {f0 : List Int} {f1 : Int} {f2 : Int} {a : Nat} {cs : Array Value} {t : TypeId} {fr : Nat × Nat} (h : IsS114 w0 W g f0 f1 f2) (p1 : W.heap[a]? = some (.cells cs t fr)) (ht : t ≠ 114) : g ≠ a := by
 obtain ⟨A0, c0, hb, hg, a7⟩ := h
 rintro rfl
 rw [hb] at p1
 injection p1 with p1
 injection p1 with _ ht2
 exact ht ht2.symm
theorem IsS114.far {w0 W : World} {g : Nat} {f0 : List Int} {f1 : Int} {f2 : Int} {p : Addr} (h : IsS114 w0 W g f0 f1 f2) (hne : g ≠ p.block) (u : Value) : IsS114 w0 (W.setCell p u) g f0 f1 f2 := by
 obtain ⟨A0, c0, hb, hg, a7⟩ := h
 exact ⟨A0, c0, blk_far hb hne u, hg, a7⟩
theorem cellS114_0 {W : World} {g : Nat} {A0 : Option Addr} {c0 : Nat} {f0 : List Int} {f1 : Int} {f2 : Int} (h : W.heap[g]? = some (.cells #[.slice A0 f0.length c0, .int .i64 f1, .int .u64 f2] 114 (0, 0))) : W.cell? ⟨g, 0, none⟩ = some (.slice A0 f0.length c0) := (blk_cell h 0).trans rfl
theorem cellS114_1 {W : World} {g : Nat} {A0 : Option Addr} {c0 : Nat} {f0 : List Int} {f1 : Int} {f2 : Int} (h : W.heap[g]? = some (.cells #[.slice A0 f0.length c0, .int .i64 f1, .int .u64 f2] 114 (0, 0))) : W.cell? ⟨g, 1, none⟩ = some (.int .i64 f1) := (blk_cell h 1).trans rfl
theorem IsS114.set_1 {w0 W : World} {g : Nat} {f0 : List Int} {f1 : Int} {f2 : Int} (h : IsS114 w0 W g f0 f1 f2) (x : Int) : IsS114 w0 (W.setCell ⟨g, 1, none⟩ (.int .i64 x)) g f0 x f2 := by
 obtain ⟨A0, c0, hb, hg, a7⟩ := h
 exact ⟨A0, c0, by simpa using blk_set hb 1 (.int .i64 x), hg, a7⟩
theorem cellS114_2 {W : World} {g : Nat} {A0 : Option Addr} {c0 : Nat} {f0 : List Int} {f1 : Int} {f2 : Int} (h : W.heap[g]? = some (.cells #[.slice A0 f0.length c0, .int .i64 f1, .int .u64 f2] 114 (0, 0))) : W.cell? ⟨g, 2, none⟩ = some (.int .u64 f2) := (blk_cell h 2).trans rfl
theorem IsS114.set_2 {w0 W : World} {g : Nat} {f0 : List Int} {f1 : Int} {f2 : Int} (h : IsS114 w0 W g f0 f1 f2) (x : Int) : IsS114 w0 (W.setCell ⟨g, 2, none⟩ (.int .u64 x)) g f0 f1 x := by
 obtain ⟨A0, c0, hb, hg, a7⟩ := h
 exact ⟨A0, c0, by simpa using blk_set hb 2 (.int .u64 x), hg, a7⟩
theorem IsS114.new (w0 W : World) (A0 : Option Addr) (c0 : Nat) (f0 : List Int) (f1 : Int) (f2 : Int) (hB : Below w0.heap.size w0 W) (a7 : Kd.C (Kd.int .u8) w0 A0 f0.length f0) : IsS114 w0 (W.alloc (.cells #[.slice A0 f0.length c0, .int .i64 f1, .int .u64 f2] 114)) W.heap.size f0 f1 f2 := ⟨A0, c0, by simpa using heap_alloc_new W _, hB.size, a7⟩
def spec_l1Cur_next.f (a : List Int) (b : Int) (c : Int) : Option (Int × Int × Int) := if b < (a.length : Int) then (if 0 ≤ b then (if (wrap64 (b + 1)) ≤ (a.length : Int) then (some (wrap64 (rd a b), wrap64 (b + 1), IntKind.u64.wrap ((IntKind.u64.wrap ((IntKind.u64.wrap (c * 6364136223846793005)) + (IntKind.u64.wrap (wrap64 (rd a b))))) + 462197))) else (some (wrap64 (Go.bits .and .u64 ((IntKind.u64.wrap ((IntKind.u64.wrap ((IntKind.u64.wrap (c * 6364136223846793005)) + (IntKind.u64.wrap (wrap64 (rd a b))))) + 462197)) / 1099511627776) 255), wrap64 (b + 1), IntKind.u64.wrap ((IntKind.u64.wrap ((IntKind.u64.wrap (c * 6364136223846793005)) + (IntKind.u64.wrap (wrap64 (rd a b))))) + 462197)))) else (none)) else (if (wrap64 (b + 1)) ≤ (a.length : Int) then (some (0, wrap64 (b + 1), IntKind.u64.wrap ((IntKind.u64.wrap ((IntKind.u64.wrap (c * 6364136223846793005)) + 0)) + 462197))) else (some (wrap64 (Go.bits .and .u64 ((IntKind.u64.wrap ((IntKind.u64.wrap ((IntKind.u64.wrap (c * 6364136223846793005)) + 0)) + 462197)) / 1099511627776) 255), wrap64 (b + 1), IntKind.u64.wrap ((IntKind.u64.wrap ((IntKind.u64.wrap (c * 6364136223846793005)) + 0)) + 462197))))
set_option maxHeartbeats 8000000 in
set_option maxRecDepth 100000 in
theorem spec_l1Cur_next.calls (g : Nat) (b3 : List Int) (b1 : Int) (o2 : Int) (r1 : Int) (r2 : Int) (r3 : Int) (w0 w : World) (hI : IsS114 w0 w g b3 b1 o2) (hB : Below w0.heap.size w0 w) (h : spec_l1Cur_next.f b3 b1 o2 = some (r1, r2, r3)) :
  Calls Try.prog 114 #[.pointer (some ⟨g, 0, none⟩)] w fun e w' => e = .returned (.int .i64 r1) ∧ IsS114 w0 w' g b3 r2 r3 ∧ Below w0.heap.size w0 w' ∧ KeepBut w w' g none := by
 have g9 := zA hI; have HK := zA (KeepBut.refl w g none); have HL := zA hB.size; clear hI; have x8 := zA hB.size; have HB := zA hB; clear hB; unfold spec_l1Cur_next.f at h; revert h; intro H; by_cases c2 : b1 < (b3.length : Int); rotate_left
 ·rw [if_neg c2] at H; have p8 := decide_eq_false c2; clear c2; by_cases c7 : (wrap64 (b1 + 1)) ≤ (b3.length : Int)
  ·rw [if_pos c7] at H; have n9 := decide_eq_true c7; clear c7; simp only [Option.some.injEq, Prod.mk.injEq] at H; obtain ⟨rfl, rfl, rfl⟩ := H; obtain ⟨p9, q1, d7, q2, q3⟩ := g9.out; have q4 := cellS114_0 d7; have q5 := cellS114_1 d7; have q6 := cellS114_2 d7; have q7 := blk_frozen d7 1; have q8 := blk_frozen d7 2; clear d7 q2; go_enter Try.func114, Try.ntmps114; go_wp2; (repeat (go_quiet (fail); try go_wp2)); go_ret; exact ⟨by rfl, z22_5, z22_3, z22_4⟩
  rw [if_neg c7] at H; have n9 := decide_eq_false c7; clear c7; simp only [Option.some.injEq, Prod.mk.injEq] at H; obtain ⟨rfl, rfl, rfl⟩ := H; obtain ⟨q9, r4, d8, r5, r6⟩ := g9.out; have r7 := cellS114_0 d8; have r8 := cellS114_1 d8; have r9 := cellS114_2 d8; have s1 := blk_frozen d8 1; have s2 := blk_frozen d8 2; clear d8 r5; go_enter Try.func114, Try.ntmps114; go_wp2; (repeat (go_quiet (fail); try go_wp2)); go_ret; exact ⟨by (simp [errW_none, errW_some] <;> rfl), z22_5, z22_3, z22_4⟩
 rw [if_pos c2] at H; have p8 := decide_eq_true c2; clear c2; by_cases c3 : 0 ≤ b1; rotate_left
 ·rw [if_neg c3] at H; exact absurd H (by simp)
 rw [if_pos c3] at H; have x4 := decide_eq_true c3; clear c3; by_cases c4 : (wrap64 (b1 + 1)) ≤ (b3.length : Int)
 ·rw [if_pos c4] at H; have h1 := decide_eq_true c4; clear c4; simp only [Option.some.injEq, Prod.mk.injEq] at H; obtain ⟨rfl, rfl, rfl⟩ := H; obtain ⟨s3, s4, d9, s5, h8⟩ := g9.out; have s6 := cellS114_0 d9; have s7 := cellS114_1 d9; have s8 := cellS114_2 d9; have s9 := blk_frozen d9 1; have t1 := blk_frozen d9 2; clear d9 s5; have d3 : 0 ≤ (b1 : Int) := of_decide_eq_true zqd; have d4 : b1 < (b3.length : Int) := of_decide_eq_true zqd; obtain ⟨o3, h9, a5⟩ := Kd.at_int h8 b1 d3 d4; cases h9; replace a5 := pw_cell_below HB.out a5; replace d3 := eq_true d3; replace d4 := eq_true d4; go_enter Try.func114, Try.ntmps114; go_wp2; (repeat (go_quiet (fail); try go_wp2)); go_ret; exact ⟨by rfl, z22_6, z22_3, z22_4⟩
 rw [if_neg c4] at H; have h1 := decide_eq_false c4; clear c4; simp only [Option.some.injEq, Prod.mk.injEq] at H; obtain ⟨rfl, rfl, rfl⟩ := H; obtain ⟨t2, t3, e1, t4, m2⟩ := g9.out; have t5 := cellS114_0 e1; have t6 := cellS114_1 e1; have t7 := cellS114_2 e1; have t8 := blk_frozen e1 1; have t9 := blk_frozen e1 2; clear e1 t4; have d3 : 0 ≤ (b1 : Int) := of_decide_eq_true zqd; have d4 : b1 < (b3.length : Int) := of_decide_eq_true zqd; obtain ⟨o3, h9, a5⟩ := Kd.at_int m2 b1 d3 d4; cases h9; replace a5 := pw_cell_below HB.out a5; replace d3 := eq_true d3; replace d4 := eq_true d4; go_enter Try.func114, Try.ntmps114; go_wp2; (repeat (go_quiet (fail); try go_wp2)); go_ret; exact ⟨by rfl, z22_6, z22_3, z22_4⟩
end Go.Proofs.Ytmekmkhdhakohaa.PFnLevels
