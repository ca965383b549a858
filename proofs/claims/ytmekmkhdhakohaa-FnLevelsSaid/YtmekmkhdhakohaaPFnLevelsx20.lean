import Derived.Test.YtmekmkhdhakohaaPFnLevelsx1
namespace Go.Proofs.Ytmekmkhdhakohaa.PFnLevels
open Go.RowKit Go.Proofs.YtmekmkhdhakohaaW.PrintWords Go.Proofs.YtmekmkhdhakohaaW.PrintLast Go.Proofs.YtmekmkhdhakohaaW.PrintMore
attribute [local go_sem] max2_int min2_int max_two min_two max_three min_three max_four min_four
set_option linter.unusedVariables false
set_option linter.unusedSimpArgs false
attribute [local go_sem high] eqA72
theorem z20_2 {p : Prop} (h : p := by repeat (first | exact Drawn0.refl _ | apply Drawn0.step)) : p := h
theorem z20_3 {p : Prop} (h : p := by exact Drawn0.refl _) : p := h
def laws_rBig.f (a : List Int) : Option (Bool) := some (decide ((a.length : Int) > 65536))
set_option maxHeartbeats 8000000 in
set_option maxRecDepth 100000 in
theorem laws_rBig.calls (A0 : Option Addr) (c0 : Nat) (l0 : List Int) (r : Bool) (w : World) (d6 : Kd.C (Kd.int .u8) w A0 l0.length l0) (d7 : l0.length ≤ c0) (h : laws_rBig.f l0 = some r) :
  Calls Try.prog 47 #[.slice A0 l0.length c0] w fun e w' => e = .returned (.bool r) ∧ Drawn0 w w' := by
 have e1 := zA d6; have m7 := zA d7; clear d6 d7; unfold laws_rBig.f at h; revert h; intro H; obtain rfl := Option.some.inj H; go_enter Try.func47, Try.ntmps47; go_wp2; go_ret; exact ⟨by rfl, z20_3⟩
def laws_rInts.l0 : Nat → List Int → List Int → Int → Option (Bool)
 | 0, _, _, _ => none
 | k + 1, a, b, c => if c < (a.length : Int) then (if 0 ≤ c then (if c < (b.length : Int) then (if (rd a c) = (rd b c) then (laws_rInts.l0 k a b (wrap64 (c + 1))) else (some false)) else (none)) else (none)) else (some true)
def laws_rInts.f (k : Nat) (a : List Int) (b : List Int) : Option (Bool) := if (a.length : Int) = (b.length : Int) then (laws_rInts.l0 k a b 0) else (some false)
theorem laws_rInts.mono_l : ∀ k, (∀ y0 y1 y2, LeO (laws_rInts.l0 k y0 y1 y2) (laws_rInts.l0 (k + 1) y0 y1 y2))
 | 0 => fun _ _ _ r h => by simp [laws_rInts.l0] at h
 | k + 1 => by
  have d8 := laws_rInts.mono_l k
  ·intro y0 y1 y2
   unfold laws_rInts.l0
   repeat' with_reducible first | apply d8 | exact LeO.refl _ | refine LeO.ite ?_ ?_
theorem laws_rInts.mono : ∀ a0 a1 k, LeO (laws_rInts.f k a0 a1) (laws_rInts.f (k + 1) a0 a1) := by
 intro a0 a1 k
 have d8 := laws_rInts.mono_l k
 unfold laws_rInts.f
 repeat' with_reducible first | apply d8 | exact LeO.refl _ | refine LeO.ite ?_ ?_
set_option maxHeartbeats 8000000 in
set_option maxRecDepth 100000 in
theorem laws_rInts.calls (k : Nat) (A0 : Option Addr) (c0 : Nat) (l0 : List Int) (A1 : Option Addr) (c1 : Nat) (l1 : List Int) (r : Bool) (w : World) (d6 : Kd.C (Kd.int .i64) w A0 l0.length l0) (d7 : l0.length ≤ c0) (g1 : Kd.C (Kd.int .i64) w A1 l1.length l1) (g2 : l1.length ≤ c1) (h : laws_rInts.f k l0 l1 = some r) :
  Calls Try.prog 49 #[.slice A0 l0.length c0, .slice A1 l1.length c1] w fun e w' => e = .returned (.bool r) ∧ Drawn0 w w' := by
 have e1 := zA d6; have m7 := zA d7; clear d6 d7; have g3 := zA g1; have n1 := zA g2; clear g1 g2; unfold laws_rInts.f at h; revert h; intro H; by_cases c3 : (l0.length : Int) = (l1.length : Int); rotate_left
 ·rw [if_neg c3] at H; have b2 : ((l0.length : Int) == (l1.length : Int)) = false := beq_eq_false_iff_ne.mpr c3; have b3 : ((l0.length : Int) != (l1.length : Int)) = true := bne_iff_ne.mpr c3; (have b4 : (l0.length == l1.length) = false := by (simp at c3 ⊢; omega)); obtain rfl := Option.some.inj H; go_enter Try.func49, Try.ntmps49; go_wp2; go_ret; exact ⟨by rfl, z20_3⟩
 rw [if_pos c3] at H; have b2 : ((l0.length : Int) == (l1.length : Int)) = true := beq_iff_eq.mpr c3; have b3 : ((l0.length : Int) != (l1.length : Int)) = false := bne_eq_false_iff_eq.mpr c3; (have b4 : (l0.length == l1.length) = true := by (simp at c3 ⊢; omega)); clear c3; have H' := zA H; clear H; go_enter Try.func49, Try.ntmps49; go_wp2; go_loopg [5] k (fun kq v5 w' => ∃ (a2 : Int), v5 = .int .i64 a2 ∧ Aside0 (laws_rInts.l0 kq l0 l1 a2 = some r) ∧ Aside0 (kq ≤ k) ∧ Drawn0 w w'); case atStart => exact ⟨(0), (by rfl), H', ⟨Nat.le_refl _⟩, z20_3⟩
 case round =>
 clear H' b2 b3 b4; obtain ⟨a2, rfl, HA, g4, ⟨m1, rfl⟩⟩ := hrel; cases gk with
 | zero => exact absurd HA.out (by simp [laws_rInts.l0])
 | succ k1 => ?_
 have H := HA.out; clear HA; simp only [laws_rInts.l0] at H; by_cases c4 : a2 < (l0.length : Int); rotate_left
 ·rw [if_neg c4] at H; have d9 := decide_eq_false c4; clear c4; obtain rfl := Option.some.inj H; go_wp2; go_ret; exact ⟨by rfl, z20_2⟩
 rw [if_pos c4] at H; have d9 := decide_eq_true c4; clear c4; by_cases c5 : 0 ≤ a2; rotate_left
 ·rw [if_neg c5] at H; exact absurd H (by simp)
 rw [if_pos c5] at H; have h7 := decide_eq_true c5; clear c5; by_cases c6 : a2 < (l1.length : Int); rotate_left
 ·rw [if_neg c6] at H; exact absurd H (by simp)
 rw [if_pos c6] at H; have h8 := decide_eq_true c6; clear c6; by_cases c7 : (rd l0 a2) = (rd l1 a2); rotate_left
 ·rw [if_neg c7] at H; have g5 : ((rd l0 a2) == (rd l1 a2)) = false := beq_eq_false_iff_ne.mpr c7; have m8 : ((rd l0 a2) != (rd l1 a2)) = true := bne_iff_ne.mpr c7; obtain rfl := Option.some.inj H; have b5 : 0 ≤ (a2 : Int) := of_decide_eq_true zqd; have b6 : a2 < (l0.length : Int) := of_decide_eq_true zqd; obtain ⟨h9, g6, e2⟩ := Kd.at_int e1.out a2 b5 b6; cases g6; replace b5 := eq_true b5; replace b6 := eq_true b6; have b7 : 0 ≤ (a2 : Int) := of_decide_eq_true zqd; have b8 : a2 < (l1.length : Int) := of_decide_eq_true zqd; obtain ⟨m2, g7, e3⟩ := Kd.at_int g3.out a2 b7 b8; cases g7; replace b7 := eq_true b7; replace b8 := eq_true b8; go_wp2; (repeat (go_quiet (fail); try go_wp2)); go_ret; exact ⟨by rfl, z20_2⟩
 rw [if_pos c7] at H; have g5 : ((rd l0 a2) == (rd l1 a2)) = true := beq_iff_eq.mpr c7; have m8 : ((rd l0 a2) != (rd l1 a2)) = false := bne_eq_false_iff_eq.mpr c7; clear c7; have H' := zA H; clear H; have b5 : 0 ≤ (a2 : Int) := of_decide_eq_true zqd; have b6 : a2 < (l0.length : Int) := of_decide_eq_true zqd; obtain ⟨h9, g6, e2⟩ := Kd.at_int e1.out a2 b5 b6; cases g6; replace b5 := eq_true b5; replace b6 := eq_true b6; have b7 : 0 ≤ (a2 : Int) := of_decide_eq_true zqd; have b8 : a2 < (l1.length : Int) := of_decide_eq_true zqd; obtain ⟨m2, g7, e3⟩ := Kd.at_int g3.out a2 b7 b8; cases g7; replace b7 := eq_true b7; replace b8 := eq_true b8; go_wp2; (repeat (go_quiet (fail); try go_wp2)); go_roundg k1; (case measure => have := g4.out; omega); case rel => exact ⟨(wrap64 (a2 + 1)), (by rfl), H', ⟨by have := g4.out; omega⟩, z20_2⟩
def laws_rTable.l0 : Nat → List (List Int) → List (List Int) → Int → Option (Bool)
 | 0, _, _, _ => none
 | k + 1, a, b, c => if c < (a.length : Int) then (if 0 ≤ c then (if c < (b.length : Int) then ((laws_rInts.f k (rd_L1 a c) (rd_L1 b c)).bind fun d => (if d = true then (laws_rTable.l0 k a b (wrap64 (c + 1))) else (some false))) else (none)) else (none)) else (some true)
def laws_rTable.f (k : Nat) (a : List (List Int)) (b : List (List Int)) : Option (Bool) := if (a.length : Int) = (b.length : Int) then (laws_rTable.l0 k a b 0) else (some false)
theorem laws_rTable.mono_l : ∀ k, (∀ y0 y1 y2, LeO (laws_rTable.l0 k y0 y1 y2) (laws_rTable.l0 (k + 1) y0 y1 y2))
 | 0 => fun _ _ _ r h => by simp [laws_rTable.l0] at h
 | k + 1 => by
  have d8 := laws_rTable.mono_l k
  ·intro y0 y1 y2
   unfold laws_rTable.l0
   repeat' with_reducible first | apply d8 | apply laws_rInts.mono | exact LeO.refl _ | refine LeO.ite ?_ ?_ | refine LeO.bind ?_ (fun _ => ?_)
theorem laws_rTable.mono : ∀ a0 a1 k, LeO (laws_rTable.f k a0 a1) (laws_rTable.f (k + 1) a0 a1) := by
 intro a0 a1 k
 have d8 := laws_rTable.mono_l k
 unfold laws_rTable.f
 repeat' with_reducible first | apply d8 | exact LeO.refl _ | refine LeO.ite ?_ ?_
set_option maxHeartbeats 8000000 in
set_option maxRecDepth 100000 in
theorem laws_rTable.calls (k : Nat) (A0 : Option Addr) (c0 : Nat) (l0 : List (List Int)) (A1 : Option Addr) (c1 : Nat) (l1 : List (List Int)) (r : Bool) (w : World) (d6 : Kd.C (Kd.slice 3 (Kd.int .i64)) w A0 l0.length l0) (d7 : l0.length ≤ c0) (g1 : Kd.C (Kd.slice 3 (Kd.int .i64)) w A1 l1.length l1) (g2 : l1.length ≤ c1) (h : laws_rTable.f k l0 l1 = some r) :
  Calls Try.prog 53 #[.slice A0 l0.length c0, .slice A1 l1.length c1] w fun e w' => e = .returned (.bool r) ∧ Drawn0 w w' := by
 have e1 := zA d6; have m7 := zA d7; clear d6 d7; have g3 := zA g1; have n1 := zA g2; clear g1 g2; unfold laws_rTable.f at h; revert h; intro H; by_cases c3 : (l0.length : Int) = (l1.length : Int); rotate_left
 ·rw [if_neg c3] at H; have b2 : ((l0.length : Int) == (l1.length : Int)) = false := beq_eq_false_iff_ne.mpr c3; have b3 : ((l0.length : Int) != (l1.length : Int)) = true := bne_iff_ne.mpr c3; (have b4 : (l0.length == l1.length) = false := by (simp at c3 ⊢; omega)); obtain rfl := Option.some.inj H; go_enter Try.func53, Try.ntmps53; go_wp2; go_ret; exact ⟨by rfl, z20_3⟩
 rw [if_pos c3] at H; have b2 : ((l0.length : Int) == (l1.length : Int)) = true := beq_iff_eq.mpr c3; have b3 : ((l0.length : Int) != (l1.length : Int)) = false := bne_eq_false_iff_eq.mpr c3; (have b4 : (l0.length == l1.length) = true := by (simp at c3 ⊢; omega)); clear c3; have H' := zA H; clear H; go_enter Try.func53, Try.ntmps53; go_wp2; go_loopg [5] k (fun kq v5 w' => ∃ (a2 : Int), v5 = .int .i64 a2 ∧ Aside0 (laws_rTable.l0 kq l0 l1 a2 = some r) ∧ Aside0 (kq ≤ k) ∧ Drawn0 w w'); case atStart => exact ⟨(0), (by rfl), H', ⟨Nat.le_refl _⟩, z20_3⟩
 case round =>
 clear H' b2 b3 b4; obtain ⟨a2, rfl, HA, g4, ⟨m1, rfl⟩⟩ := hrel; cases gk with
 | zero => exact absurd HA.out (by simp [laws_rTable.l0])
 | succ k1 => ?_
 have H := HA.out; clear HA; simp only [laws_rTable.l0] at H; by_cases c4 : a2 < (l0.length : Int); rotate_left
 ·rw [if_neg c4] at H; have d9 := decide_eq_false c4; clear c4; obtain rfl := Option.some.inj H; go_wp2; go_ret; exact ⟨by rfl, z20_2⟩
 rw [if_pos c4] at H; have d9 := decide_eq_true c4; clear c4; by_cases c5 : 0 ≤ a2; rotate_left
 ·rw [if_neg c5] at H; exact absurd H (by simp)
 rw [if_pos c5] at H; have h7 := decide_eq_true c5; clear c5; by_cases c6 : a2 < (l1.length : Int); rotate_left
 ·rw [if_neg c6] at H; exact absurd H (by simp)
 rw [if_pos c6] at H; have h8 := decide_eq_true c6; clear c6; obtain ⟨m9, A7, H⟩ := zB H; by_cases c8 : m9 = true
 ·subst c8; rw [if_pos rfl] at H; have H' := zA H; clear H; have b9 : 0 ≤ (a2 : Int) := of_decide_eq_true zqd; have c2 : a2 < (l0.length : Int) := of_decide_eq_true zqd; obtain ⟨m3, g8, g9, h1, e4, a3, a4⟩ := at_L1 e1.out a2 b9 c2; cases h1; have a7 := zA a4; have a8 := zA a3; clear a4 a3; replace b9 := eq_true b9; replace c2 := eq_true c2; have c9 : 0 ≤ (a2 : Int) := of_decide_eq_true zqd; have d1 : a2 < (l1.length : Int) := of_decide_eq_true zqd; obtain ⟨m4, h2, h3, h4, e5, a5, a6⟩ := at_L1 g3.out a2 c9 d1; cases h4; have a9 := zA a6; have b1 := zA a5; clear a6 a5; replace c9 := eq_true c9; replace d1 := eq_true d1; go_wp2_with (fail); (repeat (go_quiet ((go_at_call 49; (with_reducible refine (laws_rInts.calls k1 _ _ (rd_L1 l0 a2) _ _ (rd_L1 l1 a2) true _ ?side1 ?side2 ?side3 ?side4 A7.out).mono ?_); (case side1 => exact a7.out); (case side2 => exact a8.out); (case side3 => exact a9.out); (case side4 => exact b1.out); rintro e w' ⟨rfl, ⟨nd, rfl⟩⟩; (try exact ⟨rfl, _, Eq.trans (World.drewN_drewN _ _ _) (congrArg (World.drewN _) (Nat.add_assoc _ _ _))⟩))); try go_wp2_with (fail))); go_roundg k1; (case measure => have := g4.out; omega); case rel => exact ⟨(wrap64 (a2 + 1)), (by rfl), H', ⟨by have := g4.out; omega⟩, z20_2⟩
 replace c8 := Bool.eq_false_iff.mpr c8; subst c8; rw [if_neg (show ¬ (false = true) by decide)] at H; obtain rfl := Option.some.inj H; have b9 : 0 ≤ (a2 : Int) := of_decide_eq_true zqd; have c2 : a2 < (l0.length : Int) := of_decide_eq_true zqd; obtain ⟨m3, g8, g9, h1, e4, a3, a4⟩ := at_L1 e1.out a2 b9 c2; cases h1; have a7 := zA a4; have a8 := zA a3; clear a4 a3; replace b9 := eq_true b9; replace c2 := eq_true c2; have c9 : 0 ≤ (a2 : Int) := of_decide_eq_true zqd; have d1 : a2 < (l1.length : Int) := of_decide_eq_true zqd; obtain ⟨m4, h2, h3, h4, e5, a5, a6⟩ := at_L1 g3.out a2 c9 d1; cases h4; have a9 := zA a6; have b1 := zA a5; clear a6 a5; replace c9 := eq_true c9; replace d1 := eq_true d1; go_wp2_with (fail); (repeat (go_quiet ((go_at_call 49; (with_reducible refine (laws_rInts.calls k1 _ _ (rd_L1 l0 a2) _ _ (rd_L1 l1 a2) false _ ?side1 ?side2 ?side3 ?side4 A7.out).mono ?_); (case side1 => exact a7.out); (case side2 => exact a8.out); (case side3 => exact a9.out); (case side4 => exact b1.out); rintro e w' ⟨rfl, ⟨nd, rfl⟩⟩; (try exact ⟨rfl, _, Eq.trans (World.drewN_drewN _ _ _) (congrArg (World.drewN _) (Nat.add_assoc _ _ _))⟩))); try go_wp2_with (fail))); go_ret; exact ⟨by rfl, z20_2⟩
def laws_rPairs.l0 : Nat → List (S72) → List (S72) → Int → Option (Bool)
 | 0, _, _, _ => none
 | k + 1, a, b, c => if c < (a.length : Int) then (if 0 ≤ c then (if c < (b.length : Int) then (if (!(((rd_T72 a c).f0) == ((rd_T72 b c).f0)) || (!(((rd_T72 a c).f1) == ((rd_T72 b c).f1)))) = true then (some false) else (laws_rPairs.l0 k a b (wrap64 (c + 1)))) else (none)) else (none)) else (some true)
def laws_rPairs.f (k : Nat) (a : List (S72)) (b : List (S72)) : Option (Bool) := if (a.length : Int) = (b.length : Int) then (laws_rPairs.l0 k a b 0) else (some false)
theorem laws_rPairs.mono_l : ∀ k, (∀ y0 y1 y2, LeO (laws_rPairs.l0 k y0 y1 y2) (laws_rPairs.l0 (k + 1) y0 y1 y2))
 | 0 => fun _ _ _ r h => by simp [laws_rPairs.l0] at h
 | k + 1 => by
  have d8 := laws_rPairs.mono_l k
  ·intro y0 y1 y2
   unfold laws_rPairs.l0
   repeat' with_reducible first | apply d8 | exact LeO.refl _ | refine LeO.ite ?_ ?_
theorem laws_rPairs.mono : ∀ a0 a1 k, LeO (laws_rPairs.f k a0 a1) (laws_rPairs.f (k + 1) a0 a1) := by
 intro a0 a1 k
 have d8 := laws_rPairs.mono_l k
 unfold laws_rPairs.f
 repeat' with_reducible first | apply d8 | exact LeO.refl _ | refine LeO.ite ?_ ?_
set_option maxHeartbeats 8000000 in
set_option maxRecDepth 100000 in
theorem laws_rPairs.calls (k : Nat) (A0 : Option Addr) (c0 : Nat) (l0 : List (S72)) (A1 : Option Addr) (c1 : Nat) (l1 : List (S72)) (r : Bool) (w : World) (d6 : Kd.C k72 w A0 l0.length l0) (d7 : l0.length ≤ c0) (g1 : Kd.C k72 w A1 l1.length l1) (g2 : l1.length ≤ c1) (h : laws_rPairs.f k l0 l1 = some r) :
  Calls Try.prog 54 #[.slice A0 l0.length c0, .slice A1 l1.length c1] w fun e w' => e = .returned (.bool r) ∧ Drawn0 w w' := by
 have n2 := Try.underlying72; have e1 := zA d6; have m7 := zA d7; clear d6 d7; have g3 := zA g1; have n1 := zA g2; clear g1 g2; unfold laws_rPairs.f at h; revert h; intro H; by_cases c3 : (l0.length : Int) = (l1.length : Int); rotate_left
 ·rw [if_neg c3] at H; have b2 : ((l0.length : Int) == (l1.length : Int)) = false := beq_eq_false_iff_ne.mpr c3; have b3 : ((l0.length : Int) != (l1.length : Int)) = true := bne_iff_ne.mpr c3; (have b4 : (l0.length == l1.length) = false := by (simp at c3 ⊢; omega)); obtain rfl := Option.some.inj H; go_enter Try.func54, Try.ntmps54; go_wp2; go_ret; exact ⟨by rfl, z20_3⟩
 rw [if_pos c3] at H; have b2 : ((l0.length : Int) == (l1.length : Int)) = true := beq_iff_eq.mpr c3; have b3 : ((l0.length : Int) != (l1.length : Int)) = false := bne_eq_false_iff_eq.mpr c3; (have b4 : (l0.length == l1.length) = true := by (simp at c3 ⊢; omega)); clear c3; have H' := zA H; clear H; go_enter Try.func54, Try.ntmps54; go_wp2; go_loopg [5] k (fun kq v5 w' => ∃ (a2 : Int), v5 = .int .i64 a2 ∧ Aside0 (laws_rPairs.l0 kq l0 l1 a2 = some r) ∧ Aside0 (kq ≤ k) ∧ Drawn0 w w'); case atStart => exact ⟨(0), (by rfl), H', ⟨Nat.le_refl _⟩, z20_3⟩
 case round =>
 clear H' b2 b3 b4; obtain ⟨a2, rfl, HA, g4, ⟨m1, rfl⟩⟩ := hrel; cases gk with
 | zero => exact absurd HA.out (by simp [laws_rPairs.l0])
 | succ k1 => ?_
 have H := HA.out; clear HA; simp only [laws_rPairs.l0] at H; by_cases c4 : a2 < (l0.length : Int); rotate_left
 ·rw [if_neg c4] at H; have d9 := decide_eq_false c4; clear c4; obtain rfl := Option.some.inj H; go_wp2; go_ret; exact ⟨by rfl, z20_2⟩
 rw [if_pos c4] at H; have d9 := decide_eq_true c4; clear c4; by_cases c5 : 0 ≤ a2; rotate_left
 ·rw [if_neg c5] at H; exact absurd H (by simp)
 rw [if_pos c5] at H; have h7 := decide_eq_true c5; clear c5; by_cases c6 : a2 < (l1.length : Int); rotate_left
 ·rw [if_neg c6] at H; exact absurd H (by simp)
 rw [if_pos c6] at H; have h8 := decide_eq_true c6; clear c6; by_cases c7 : (!(((rd_T72 l0 a2).f0) == ((rd_T72 l1 a2).f0)) || (!(((rd_T72 l0 a2).f1) == ((rd_T72 l1 a2).f1)))) = true
 ·rw [if_pos c7] at H; have g5 : (!(((rd_T72 l0 a2).f0) == ((rd_T72 l1 a2).f0)) || (!(((rd_T72 l0 a2).f1) == ((rd_T72 l1 a2).f1)))) = true := c7; clear c7; obtain rfl := Option.some.inj H; have d2 : 0 ≤ (a2 : Int) := of_decide_eq_true zqd; have d3 : a2 < (l0.length : Int) := of_decide_eq_true zqd; obtain ⟨m5, h5, e6, e7⟩ := at_T72 e1.out a2 d2 d3; cases h5; replace d2 := eq_true d2; replace d3 := eq_true d3; have d4 : 0 ≤ (a2 : Int) := of_decide_eq_true zqd; have d5 : a2 < (l1.length : Int) := of_decide_eq_true zqd; obtain ⟨m6, h6, e8, e9⟩ := at_T72 g3.out a2 d4 d5; cases h6; replace d4 := eq_true d4; replace d5 := eq_true d5; go_wp2; (repeat (go_quiet (fail); try go_wp2)); go_ret; exact ⟨by rfl, z20_2⟩
 rw [if_neg c7] at H; (have g5 : (!(((rd_T72 l0 a2).f0) == ((rd_T72 l1 a2).f0)) || (!(((rd_T72 l0 a2).f1) == ((rd_T72 l1 a2).f1)))) = false := by simpa using c7); clear c7; have H' := zA H; clear H; have d2 : 0 ≤ (a2 : Int) := of_decide_eq_true zqd; have d3 : a2 < (l0.length : Int) := of_decide_eq_true zqd; obtain ⟨m5, h5, e6, e7⟩ := at_T72 e1.out a2 d2 d3; cases h5; replace d2 := eq_true d2; replace d3 := eq_true d3; have d4 : 0 ≤ (a2 : Int) := of_decide_eq_true zqd; have d5 : a2 < (l1.length : Int) := of_decide_eq_true zqd; obtain ⟨m6, h6, e8, e9⟩ := at_T72 g3.out a2 d4 d5; cases h6; replace d4 := eq_true d4; replace d5 := eq_true d5; go_wp2; (repeat (go_quiet (fail); try go_wp2)); go_roundg k1; (case measure => have := g4.out; omega); case rel => exact ⟨(wrap64 (a2 + 1)), (by rfl), H', ⟨by have := g4.out; omega⟩, z20_2⟩
end Go.Proofs.Ytmekmkhdhakohaa.PFnLevels
