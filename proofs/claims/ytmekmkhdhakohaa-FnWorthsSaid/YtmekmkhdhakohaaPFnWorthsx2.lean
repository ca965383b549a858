-- A text of this session (its program hook.py, over the kit's print.py): not a print of print.sh
-- THIN: one blank for two
import Derived.Test.YtmekmkhdhakohaaPFnWorthsx0
namespace Go.Proofs.Ytmekmkhdhakohaa.PFnWorths
open Go.RowKit Go.Proofs.YtmekmkhdhakohaaW.PrintWords Go.Proofs.YtmekmkhdhakohaaW.PrintLast Go.Proofs.YtmekmkhdhakohaaW.PrintMore
attribute [local go_sem] max2_int min2_int max_two min_two max_three min_three max_four min_four   -- for this text's walks alone
set_option linter.unusedVariables false
set_option linter.unusedSimpArgs false

-- SQUEEZED
theorem z2_A {p : Prop} (h : p) : Aside0 p := Aside0.mk h
theorem z2_1 {p : Prop} (h : p := by rw [hg]; exact (below_size HB.out)) : p := h
theorem z2_2 {p : Prop} (h : p := by (with_reducible assumption)) : p := h
theorem z2_3 {p : Prop} (h : p := by (try simp only [List.map_toArray, List.map_cons, List.map_nil]); rfl) : p := h
theorem z2_4 {p : Prop} (h : p := by rfl) : p := h

/-! ### spec_l6Order: function 68 -/
def spec_l6Order.f (a : Int) (b : List Int) (c : Int) (d : Int) (e : Int) (f : Int) (g : Int) (h : Int) : Option (Int) := if h > g then (some (wrap64 (c + (wrap64 (d * (wrap64 (h - g))))))) else (some 0)
set_option maxHeartbeats 8000000 in
set_option maxRecDepth 100000 in
theorem spec_l6Order.calls (b1 : Int) (b8 : Option Addr) (b7 : Nat) (a9 : List Int) (b2 : Int) (b3 : Int) (b4 : Int) (b5 : Int) (a1 : Int) (a2 : Int) (r : Int) (w : World) (c5 : Kd.C (Kd.int .i64) w b8 a9.length a9) (c8 : a9.length ≤ b7) (h : spec_l6Order.f b1 a9 b2 b3 b4 b5 a1 a2 = some r) :
  Calls Try.prog 68 #[.agg #[.int .i64 b1, .slice b8 a9.length b7, .int .i64 b2, .int .i64 b3, .int .i64 b4, .int .i64 b5], .int .i64 a1, .int .i64 a2] w fun e w' => e = .returned (.int .i64 r) ∧ Below w.heap.size w w' := by
 have g1 := Try.underlying30; have d5 := z2_A c5; have d7 := z2_A c8; clear c5 c8; have HB := z2_A (Below.refl w.heap.size w); unfold spec_l6Order.f at h; revert h; intro H; by_cases c4 : a2 > a1
 ·rw [if_pos c4] at H; have n4 : decide (a1 < a2) = true := decide_eq_true c4; clear c4; obtain rfl := Option.some.inj H; go_enter Try.func68, Try.ntmps68; go_wp2_with ((with_reducible refine gate_dst (N := 3) rfl ?_); refine box_event ?hg (N := 3) ?hd (cs := #[.int .i64 b1, .slice b8 a9.length b7, .int .i64 b2, .int .i64 b3, .int .i64 b4, .int .i64 b5]) (t := 30) ?hr ?_; (case hd => rfl); (case hg => rfl); (case hr => (go_simp; done)); intro d9 hg w5 hbox hb; have g5 := z2_A hbox; have m2 := z2_A (z2_1 : w.heap.size ≤ d9); have m3 := z2_A (z2_1 : w.heap.size ≤ d9); replace HB := z2_A (below_step HB.out hb); clear hb hbox hg; have n5 := zcf6 g5.out); go_ret; exact ⟨z2_4, by exact HB.out⟩
 rw [if_neg c4] at H; have n4 : decide (a1 < a2) = false := decide_eq_false c4; clear c4; obtain rfl := Option.some.inj H; go_enter Try.func68, Try.ntmps68; go_wp2_with ((with_reducible refine gate_dst (N := 3) rfl ?_); refine box_event ?hg (N := 3) ?hd (cs := #[.int .i64 b1, .slice b8 a9.length b7, .int .i64 b2, .int .i64 b3, .int .i64 b4, .int .i64 b5]) (t := 30) ?hr ?_; (case hd => rfl); (case hg => rfl); (case hr => (go_simp; done)); intro d9 hg w7 hbox hb; have g5 := z2_A hbox; have m2 := z2_A (z2_1 : w.heap.size ≤ d9); have m3 := z2_A (z2_1 : w.heap.size ≤ d9); replace HB := z2_A (below_step HB.out hb); clear hb hbox hg); go_ret; exact ⟨z2_4, by exact HB.out⟩
/-! ### spec_l2Sum: function 100 -/
def spec_l2Sum.l0 : Nat → List Int → Int → Int → Option (Int)
 | 0, _, _, _ => none
 | k + 1, a, b, c => if c < (a.length : Int) then (if 0 ≤ c then (spec_l2Sum.l0 k a (wrap64 (b + (rd a c))) (wrap64 (c + 1))) else (none)) else (some b)
def spec_l2Sum.f (k : Nat) (a : List Int) : Option (Int) := spec_l2Sum.l0 k a 0 0
theorem spec_l2Sum.mono_l : ∀ k, (∀ y0 y1 y2, LeO (spec_l2Sum.l0 k y0 y1 y2) (spec_l2Sum.l0 (k + 1) y0 y1 y2))
 | 0 => fun _ _ _ r h => by simp [spec_l2Sum.l0] at h
 | k + 1 => by
  have e4 := spec_l2Sum.mono_l k
  ·intro y0 y1 y2
   unfold spec_l2Sum.l0
   repeat' with_reducible first | apply e4 | exact LeO.refl _ | refine LeO.ite ?_ ?_
theorem spec_l2Sum.mono : ∀ a0 k, LeO (spec_l2Sum.f k a0) (spec_l2Sum.f (k + 1) a0) := by
 intro a0 k
 have e4 := spec_l2Sum.mono_l k
 unfold spec_l2Sum.f
 repeat' with_reducible first | apply e4
set_option maxHeartbeats 8000000 in
set_option maxRecDepth 100000 in
theorem spec_l2Sum.calls (k : Nat) (A0 : Option Addr) (c0 : Nat) (l0 : List Int) (r : Int) (w : World) (o5 : Kd.C (Kd.int .i64) w A0 l0.length l0) (o6 : l0.length ≤ c0) (h : spec_l2Sum.f k l0 = some r) :
  Calls Try.prog 100 #[.slice A0 l0.length c0] w fun e w' => e = .returned (.int .i64 r) ∧ Drawn0 w w' := by
 have p9 := z2_A o5; have q4 := z2_A o6; clear o5 o6; unfold spec_l2Sum.f at h; revert h; intro H; have H' := z2_A H; clear H; go_enter Try.func100, Try.ntmps100; go_wp2; go_loopg [3, 4] k (fun kq v3 v4 w' => ∃ (g2 : Int) (d8 : Int), v3 = .int .i64 g2 ∧ v4 = .int .i64 d8 ∧ Aside0 (spec_l2Sum.l0 kq l0 g2 d8 = some r) ∧ Aside0 (kq ≤ k) ∧ Drawn0 w w'); case atStart => exact ⟨(0), (0), z2_4, z2_4, H', ⟨Nat.le_refl _⟩, by exact Drawn0.refl _⟩
 case round =>
 clear H'; obtain ⟨g2, d8, rfl, rfl, HA, g6, ⟨m1, rfl⟩⟩ := hrel; cases gk with
 | zero => exact absurd HA.out (by simp [spec_l2Sum.l0])
 | succ k1 => ?_
 have H := HA.out; clear HA; simp only [spec_l2Sum.l0] at H; by_cases c2 : d8 < (l0.length : Int); rotate_left
 ·rw [if_neg c2] at H; have n6 := decide_eq_false c2; clear c2; obtain rfl := Option.some.inj H; go_wp2; go_ret; exact ⟨z2_4, by repeat (first | exact Drawn0.refl _ | apply Drawn0.step)⟩
 rw [if_pos c2] at H; have n6 := decide_eq_true c2; clear c2; by_cases c3 : 0 ≤ d8; rotate_left
 ·rw [if_neg c3] at H; exact absurd H (by simp)
 rw [if_pos c3] at H; have g3 := decide_eq_true c3; clear c3; have H' := z2_A H; clear H; have g9 : 0 ≤ (d8 : Int) := of_decide_eq_true z2_2; have h1 : d8 < (l0.length : Int) := of_decide_eq_true z2_2; obtain ⟨o7, n7, m8⟩ := Kd.at_int p9.out d8 g9 h1; cases n7; replace g9 := eq_true g9; replace h1 := eq_true h1; go_wp2; go_roundg k1; (case measure => have := g6.out; omega); case rel => exact ⟨(wrap64 (g2 + (rd l0 d8))), (wrap64 (d8 + 1)), z2_4, z2_4, H', ⟨by have := g6.out; omega⟩, by repeat (first | exact Drawn0.refl _ | apply Drawn0.step)⟩
/-! ### spec_l6Power: function 89 -/
def spec_l6Power.l0 : Nat → Int → Int → Int → Int → Option (Int)
 | 0, _, _, _, _ => none
 | k + 1, a, b, c, d => if d < a then (spec_l6Power.l0 k a (wrap64 (b * c)) c (wrap64 (d + 1))) else (some b)
def spec_l6Power.f (k : Nat) (a : Int) (b : List Int) (c : Int) (d : Int) (e : Int) (f : Int) (g : Int) : Option (Int) := (spec_l2Sum.f k b).bind fun h => (spec_l6Power.l0 k g 1 h 0)
theorem spec_l6Power.mono_l : ∀ k, (∀ y0 y1 y2 y3, LeO (spec_l6Power.l0 k y0 y1 y2 y3) (spec_l6Power.l0 (k + 1) y0 y1 y2 y3))
 | 0 => fun _ _ _ _ r h => by simp [spec_l6Power.l0] at h
 | k + 1 => by
  have e4 := spec_l6Power.mono_l k
  ·intro y0 y1 y2 y3
   unfold spec_l6Power.l0
   repeat' with_reducible first | apply e4 | exact LeO.refl _ | refine LeO.ite ?_ ?_
theorem spec_l6Power.mono : ∀ a0 a1 a2 a3 a4 a5 a6 k, LeO (spec_l6Power.f k a0 a1 a2 a3 a4 a5 a6) (spec_l6Power.f (k + 1) a0 a1 a2 a3 a4 a5 a6) := by
 intro a0 a1 a2 a3 a4 a5 a6 k
 have e4 := spec_l6Power.mono_l k
 unfold spec_l6Power.f
 repeat' with_reducible first | apply e4 | apply spec_l2Sum.mono | refine LeO.bind ?_ (fun _ => ?_)
set_option maxHeartbeats 8000000 in
set_option maxRecDepth 100000 in
theorem spec_l6Power.calls (k : Nat) (b1 : Int) (b8 : Option Addr) (b7 : Nat) (a9 : List Int) (b2 : Int) (b3 : Int) (b4 : Int) (b5 : Int) (a1 : Int) (r : Int) (w : World) (c5 : Kd.C (Kd.int .i64) w b8 a9.length a9) (c8 : a9.length ≤ b7) (h : spec_l6Power.f k b1 a9 b2 b3 b4 b5 a1 = some r) :
  Calls Try.prog 89 #[.agg #[.int .i64 b1, .slice b8 a9.length b7, .int .i64 b2, .int .i64 b3, .int .i64 b4, .int .i64 b5], .int .i64 a1] w fun e w' => e = .returned (.int .i64 r) ∧ Below w.heap.size w w' := by
 have g1 := Try.underlying30; have d5 := z2_A c5; have d7 := z2_A c8; clear c5 c8; have HB := z2_A (Below.refl w.heap.size w); unfold spec_l6Power.f at h; revert h; intro H; obtain ⟨h2, A3, H⟩ := zB H; have H' := z2_A H; clear H; go_enter Try.func89, Try.ntmps89; go_wp2_with (first | ((with_reducible refine gate_dst (N := 2) rfl ?_); refine box_event ?hg (N := 2) ?hd (cs := #[.int .i64 b1, .slice b8 a9.length b7, .int .i64 b2, .int .i64 b3, .int .i64 b4, .int .i64 b5]) (t := 30) ?hr ?_; (case hd => rfl); (case hg => rfl); (case hr => (go_simp; done)); intro e5 hg w4 hbox hb; have e2 := z2_A hbox; have o8 := z2_A (z2_1 : w.heap.size ≤ e5); have o9 := z2_A (z2_1 : w.heap.size ≤ e5); replace HB := z2_A (below_step HB.out hb); clear hb hbox hg; have e6 := zcf6 e2.out) | ((with_reducible refine gate_callee (f := 100) rfl ?_); refine goesL_ (some 10) rfl rfl Try.func100 (by kernel_rfl) rfl #[.slice b8 a9.length b7] rfl z2_3 ?_; (with_reducible refine (spec_l2Sum.calls k _ _ a9 h2 _ ?side1 ?side2 A3.out).mono ?_); (case side1 => exact (Kd.C_below d5.out HB.out)); (case side2 => exact d7.out); rintro e w' ⟨rfl, ⟨nd, rfl⟩⟩; refine ⟨_, rfl, ?_⟩)); go_loopg [5, 7] k (fun kq v5 v7 w' => ∃ (g4 : Int) (e7 : Int), v5 = .int .i64 g4 ∧ v7 = .int .i64 e7 ∧ Aside0 (spec_l6Power.l0 kq a1 g4 h2 e7 = some r) ∧ Aside0 (kq ≤ k) ∧ Aside0 (w'.heap[e5]? = some (.cells #[.int .i64 b1, (.slice b8 a9.length b7), .int .i64 b2, .int .i64 b3, .int .i64 b4, .int .i64 b5] 30 (0, 0))) ∧ Aside0 (Below w.heap.size w w')); case atStart => exact ⟨(1), (0), z2_4, z2_4, H', ⟨Nat.le_refl _⟩, ⟨by (with_reducible repeat (refine blk_drewN ?_ _)); exact e2.out⟩, ⟨by repeat (with_reducible first | exact HB.out | apply pw_below_drewN)⟩⟩
 case round =>
 clear H' e6; obtain ⟨g4, e7, rfl, rfl, HA, g6, e2, HB⟩ := hrel; cases gk with
 | zero => exact absurd HA.out (by simp [spec_l6Power.l0])
 | succ k1 => ?_
 have H := HA.out; clear HA; simp only [spec_l6Power.l0] at H; by_cases c6 : e7 < a1
 ·rw [if_pos c6] at H; have h3 := decide_eq_true c6; clear c6; have H' := z2_A H; clear H; go_wp2; go_roundg k1; (case measure => have := g6.out; omega); case rel => exact ⟨(wrap64 (g4 * h2)), (wrap64 (e7 + 1)), z2_4, z2_4, H', ⟨by have := g6.out; omega⟩, ⟨e2.out⟩, ⟨HB.out⟩⟩
 rw [if_neg c6] at H; have h3 := decide_eq_false c6; clear c6; obtain rfl := Option.some.inj H; go_wp2; go_ret; exact ⟨z2_4, by exact HB.out⟩
/-! ### spec_l6Kept: function 69 -/
def spec_l6Kept.f (a : Int) (b : List Int) (c : Int) (d : Int) (e : Int) (f : Int) (g : Int) : Option (Int) := if g > 0 then (some (wrap64 (e * g))) else (some (wrap64 ((wrap64 (-f)) * g)))
set_option maxHeartbeats 8000000 in
set_option maxRecDepth 100000 in
theorem spec_l6Kept.calls (b1 : Int) (b8 : Option Addr) (b7 : Nat) (a9 : List Int) (b2 : Int) (b3 : Int) (b4 : Int) (b5 : Int) (a1 : Int) (r : Int) (w : World) (c5 : Kd.C (Kd.int .i64) w b8 a9.length a9) (c8 : a9.length ≤ b7) (h : spec_l6Kept.f b1 a9 b2 b3 b4 b5 a1 = some r) :
  Calls Try.prog 69 #[.agg #[.int .i64 b1, .slice b8 a9.length b7, .int .i64 b2, .int .i64 b3, .int .i64 b4, .int .i64 b5], .int .i64 a1] w fun e w' => e = .returned (.int .i64 r) ∧ Below w.heap.size w w' := by
 have g1 := Try.underlying30; have d5 := z2_A c5; have d7 := z2_A c8; clear c5 c8; have HB := z2_A (Below.refl w.heap.size w); unfold spec_l6Kept.f at h; revert h; intro H; by_cases c3 : a1 > 0
 ·rw [if_pos c3] at H; have g3 : decide (0 < a1) = true := decide_eq_true c3; clear c3; obtain rfl := Option.some.inj H; go_enter Try.func69, Try.ntmps69; go_wp2_with ((with_reducible refine gate_dst (N := 2) rfl ?_); refine box_event ?hg (N := 2) ?hd (cs := #[.int .i64 b1, .slice b8 a9.length b7, .int .i64 b2, .int .i64 b3, .int .i64 b4, .int .i64 b5]) (t := 30) ?hr ?_; (case hd => rfl); (case hg => rfl); (case hr => (go_simp; done)); intro e1 hg w4 hbox hb; have e8 := z2_A hbox; have m4 := z2_A (z2_1 : w.heap.size ≤ e1); have m5 := z2_A (z2_1 : w.heap.size ≤ e1); replace HB := z2_A (below_step HB.out hb); clear hb hbox hg; have e6 := zcf6 e8.out); go_ret; exact ⟨z2_4, by exact HB.out⟩
 rw [if_neg c3] at H; have g3 : decide (0 < a1) = false := decide_eq_false c3; clear c3; obtain rfl := Option.some.inj H; go_enter Try.func69, Try.ntmps69; go_wp2_with ((with_reducible refine gate_dst (N := 2) rfl ?_); refine box_event ?hg (N := 2) ?hd (cs := #[.int .i64 b1, .slice b8 a9.length b7, .int .i64 b2, .int .i64 b3, .int .i64 b4, .int .i64 b5]) (t := 30) ?hr ?_; (case hd => rfl); (case hg => rfl); (case hr => (go_simp; done)); intro e1 hg w6 hbox hb; have e8 := z2_A hbox; have m4 := z2_A (z2_1 : w.heap.size ≤ e1); have m5 := z2_A (z2_1 : w.heap.size ≤ e1); replace HB := z2_A (below_step HB.out hb); clear hb hbox hg; have n8 := zcf6 e8.out); go_ret; exact ⟨z2_4, by exact HB.out⟩
/-! ### spec_l6After: function 90 -/
def spec_l6After.l0 : Nat → List Int → Int → Int → Int → Int → Int → List Int → Int → Int → Int → Int → Option (Int)
 | 0, _, _, _, _, _, _, _, _, _, _, _ => none
 | k + 1, a, b, c, d, e, f, g, h, i, j, l => if e < (g.length : Int) then (if 0 ≤ e then ((spec_l6Kept.f f g h i j l (wrap64 (b - e))).bind fun m => ((spec_l6Power.f k f g h i j l (wrap64 (c - 1))).bind fun n => (if 0 ≤ (wrap64 ((wrap64 (b - e)) + 10)) then (if (wrap64 ((wrap64 (b - e)) + 10)) < (a.length : Int) then (spec_l6After.l0 k a b c (wrap64 (d + (wrap64 ((rd g e) * (wrap64 ((wrap64 (m * n)) + (rd a (wrap64 ((wrap64 (b - e)) + 10))))))))) (wrap64 (e + 1)) f g h i j l) else (none)) else (none)))) else (none)) else (some d)
def spec_l6After.f (k : Nat) (a : Int) (b : List Int) (c : Int) (d : Int) (e : Int) (f : Int) (g : List Int) (h : Int) (i : Int) : Option (Int) := spec_l6After.l0 k g h i 0 0 a b c d e f
theorem spec_l6After.mono_l : ∀ k, (∀ y0 y1 y2 y3 y4 y5 y6 y7 y8 y9 n9, LeO (spec_l6After.l0 k y0 y1 y2 y3 y4 y5 y6 y7 y8 y9 n9) (spec_l6After.l0 (k + 1) y0 y1 y2 y3 y4 y5 y6 y7 y8 y9 n9))
 | 0 => fun _ _ _ _ _ _ _ _ _ _ _ r h => by simp [spec_l6After.l0] at h
 | k + 1 => by
  have e4 := spec_l6After.mono_l k
  ·intro y0 y1 y2 y3 y4 y5 y6 y7 y8 y9 n9
   unfold spec_l6After.l0
   repeat' with_reducible first | apply e4 | apply spec_l6Power.mono | exact LeO.refl _ | refine LeO.ite ?_ ?_ | refine LeO.bind ?_ (fun _ => ?_)
theorem spec_l6After.mono : ∀ a0 a1 a2 a3 a4 a5 a6 a7 a8 k, LeO (spec_l6After.f k a0 a1 a2 a3 a4 a5 a6 a7 a8) (spec_l6After.f (k + 1) a0 a1 a2 a3 a4 a5 a6 a7 a8) := by
 intro a0 a1 a2 a3 a4 a5 a6 a7 a8 k
 have e4 := spec_l6After.mono_l k
 unfold spec_l6After.f
 repeat' with_reducible first | apply e4
def spec_l6After.T5 : Bool × List (List Nat × List Nat) := (true, [([], []), ([], []), ([1], [1]), ([], []), ([2, 3], [2, 3]), ([4], [4]), ([], []), ([], []), ([], []), ([7, 8], [7, 8]), ([6, 9], [6, 9]), ([], []), ([], []), ([12], [12]), ([11, 13, 10], [11, 13]), ([10, 14], [10, 14]), ([], []), ([], []), ([], []), ([17, 18], [17, 18]), ([19], [19]), ([16, 20], [16, 20]), ([21], [21]), ([15, 22], [15, 22]), ([5, 23], [5, 23]), ([0, 24], [0, 24]), ([25, 14, 0, 1, 2, 3, 4, 5, 6, 7, 8, 9, 10, 11, 12, 13, 14, 15, 16, 17, 18, 19, 20, 21, 22, 23, 24, 25], [0, 25])])
def spec_l6After.B5 : List Nat := [0, 0, 2, 0, 14, 30, 0, 0, 0, 384, 960, 0, 0, 4096, 16320, 32704, 0, 0, 0, 393216, 917504, 2031616, 4128768, 8388544, 16777214, 33554431, 67108863]
theorem spec_l6After.tab5 : rtab .any (opsOf Try.f90 5) = spec_l6After.T5 := by kernel_rfl
theorem spec_l6After.bits5 : waitsOk spec_l6After.T5.2 spec_l6After.B5 = true := by kernel_rfl
set_option maxHeartbeats 8000000 in
set_option maxRecDepth 100000 in
theorem spec_l6After.calls (k : Nat) (b1 : Int) (b8 : Option Addr) (b7 : Nat) (a9 : List Int) (b2 : Int) (b3 : Int) (b4 : Int) (b5 : Int) (A1 : Option Addr) (c1 : Nat) (l1 : List Int) (a2 : Int) (a3 : Int) (r : Int) (w : World) (c5 : Kd.C (Kd.int .i64) w b8 a9.length a9) (c8 : a9.length ≤ b7) (p1 : Kd.C (Kd.int .i64) w A1 l1.length l1) (p2 : l1.length ≤ c1) (h : spec_l6After.f k b1 a9 b2 b3 b4 b5 l1 a2 a3 = some r) :
  Calls Try.prog 90 #[.agg #[.int .i64 b1, .slice b8 a9.length b7, .int .i64 b2, .int .i64 b3, .int .i64 b4, .int .i64 b5], .slice A1 l1.length c1, .int .i64 a2, .int .i64 a3] w fun e w' => e = .returned (.int .i64 r) ∧ Below w.heap.size w w' := by
 have g1 := Try.underlying30; have d5 := z2_A c5; have d7 := z2_A c8; clear c5 c8; have q1 := z2_A p1; have q5 := z2_A p2; clear p1 p2; have HB := z2_A (Below.refl w.heap.size w); unfold spec_l6After.f at h; revert h; intro H; have H' := z2_A H; clear H; go_enter Try.func90, Try.ntmps90; go_wp2_with ((with_reducible refine gate_dst (N := 4) rfl ?_); refine box_event ?hg (N := 4) ?hd (cs := #[.int .i64 b1, .slice b8 a9.length b7, .int .i64 b2, .int .i64 b3, .int .i64 b4, .int .i64 b5]) (t := 30) ?hr ?_; (case hd => rfl); (case hg => rfl); (case hr => (go_simp; done)); intro d2 hg w5 hbox hb; have b9 := z2_A hbox; have p3 := z2_A (z2_1 : w.heap.size ≤ d2); have p4 := z2_A (z2_1 : w.heap.size ≤ d2); replace HB := z2_A (below_step HB.out hb); clear hb hbox hg); go_loopg [9, 10] k (fun kq v9 q2 w' => ∃ (e9 : Int) (b6 : Int), v9 = .int .i64 e9 ∧ q2 = .int .i64 b6 ∧ Aside0 (spec_l6After.l0 kq l1 a2 a3 e9 b6 b1 a9 b2 b3 b4 b5 = some r) ∧ Aside0 (kq ≤ k) ∧ Aside0 (w'.heap[d2]? = some (.cells #[.int .i64 b1, (.slice b8 a9.length b7), .int .i64 b2, .int .i64 b3, .int .i64 b4, .int .i64 b5] 30 (0, 0))) ∧ Aside0 (Below w.heap.size w w')); case atStart => exact ⟨(0), (0), z2_4, z2_4, H', ⟨Nat.le_refl _⟩, ⟨b9.out⟩, ⟨HB.out⟩⟩
 case round =>
 clear H'; obtain ⟨e9, b6, rfl, rfl, HA, g6, b9, HB⟩ := hrel; cases gk with
 | zero => exact absurd HA.out (by simp [spec_l6After.l0])
 | succ k1 => ?_
 have H := HA.out; clear HA; simp only [spec_l6After.l0] at H; by_cases c6 : b6 < (a9.length : Int); rotate_left
 ·rw [if_neg c6] at H; have h3 := decide_eq_false c6; clear c6; obtain rfl := Option.some.inj H; have m9 := zcf6 b9.out; go_wp2; go_ret; exact ⟨z2_4, by exact HB.out⟩
 rw [if_pos c6] at H; have h3 := decide_eq_true c6; clear c6; by_cases c7 : 0 ≤ b6; rotate_left
 ·rw [if_neg c7] at H; exact absurd H (by simp)
 rw [if_pos c7] at H; have q3 := decide_eq_true c7; clear c7; obtain ⟨h4, A8, H⟩ := zB H; obtain ⟨h5, A9, H⟩ := zB H; obtain ⟨d6, g7⟩ : ∃ j_ : Int, (wrap64 ((wrap64 (a2 - b6)) + 10)) = j_ := ⟨_, rfl⟩; (replace H : (if 0 ≤ (d6) then (if (d6) < (l1.length : Int) then (spec_l6After.l0 k1 l1 a2 a3 (wrap64 (e9 + (wrap64 ((rd a9 b6) * (wrap64 ((wrap64 (h4 * h5)) + (rd l1 (d6)))))))) (wrap64 (b6 + 1)) b1 a9 b2 b3 b4 b5) else (none)) else (none)) = some r := by (rw [g7] at H; exact H)); have o1 : (IntKind.i64.wrap ((wrap64 (a2 - b6)) + 10)) = d6 := (i64_w _).trans g7; by_cases n1 : 0 ≤ (d6); rotate_left
 ·rw [if_neg n1] at H; exact absurd H (by simp)
 rw [if_pos n1] at H; have p5 := decide_eq_true n1; clear n1; by_cases n2 : (d6) < (l1.length : Int); rotate_left
 ·rw [if_neg n2] at H; exact absurd H (by simp)
 rw [if_pos n2] at H; have p6 := decide_eq_true n2; clear n2; have H' := z2_A H; clear H; have n3 := zcf6 b9.out; (try go_wp2); replace b9 := z2_A (blk_drew b9.out); replace HB := z2_A (below_drew1 HB.out); have h6 : 0 ≤ (b6 : Int) := of_decide_eq_true z2_2; have h7 : b6 < (a9.length : Int) := of_decide_eq_true z2_2; obtain ⟨e3, o2, d3⟩ := Kd.at_int d5.out b6 h6 h7; have c9 := d3; cases o2; replace d3 := (HB.out.cell (World.block_lt_of_cell? w _ d3)).trans d3; replace h6 := eq_true h6; replace h7 := eq_true h7; have h8 : 0 ≤ ((d6) : Int) := of_decide_eq_true z2_2; have h9 : (d6) < (l1.length : Int) := of_decide_eq_true z2_2; obtain ⟨m6, o3, d4⟩ := Kd.at_int q1.out (d6) h8 h9; have d1 := d4; cases o3; replace d4 := (HB.out.cell (World.block_lt_of_cell? w _ d4)).trans d4; replace h8 := eq_true h8; replace h9 := eq_true h9; refine start_ (n := 27) (S := fun w' => w'.cell? ⟨d2, 0, none⟩ = some (.int .i64 b1) ∧ w'.cell? ⟨d2, 1, none⟩ = some (.slice (some e3) a9.length b7) ∧ w'.cell? ⟨d2, 2, none⟩ = some (.int .i64 b2) ∧ w'.cell? ⟨d2, 3, none⟩ = some (.int .i64 b3) ∧ w'.cell? ⟨d2, 4, none⟩ = some (.int .i64 b4) ∧ w'.cell? ⟨d2, 5, none⟩ = some (.int .i64 b5) ∧ w'.cell? (e3.add (b6).toNat) = some (.int .i64 (rd a9 b6)) ∧ w'.cell? (m6.add ((d6)).toNat) = some (.int .i64 (rd l1 (d6)))) (ds := []) #[false, false, false, false, false, false, false, false, false, false, false, false, false, false, false, false, false, false, false, false, false, false, false, false, false, false, false] (by kernel_rfl) rfl rfl (zk6 b9.out ⟨((HB.out.cell (World.block_lt_of_cell? w _ c9)).trans c9), ((HB.out.cell (World.block_lt_of_cell? w _ d1)).trans d1)⟩) (fun hHeld => ?_); refine with_tabW spec_l6After.tab5 spec_l6After.bits5 (fun HT_ HW_ => ?_); generalize wr.drew = q6 at b9 HB d3 d4 hHeld ⊢; refine zP 0 18 ?_; refine zP 1 19 ?_; refine zP 3 21 ?_; refine zP 7 25 ?_; refine zP 8 26 ?_; refine zP 9 27 ?_; refine zP 12 30 ?_; refine zP 13 31 ?_; refine zP 16 34 ?_; refine zP 17 35 ?_; refine zP 18 36 ?_; refine zP 19 37 ?_; refine zP 20 38 ?_; refine zP 21 39 ?_; refine zT 2 20 ?_; refine zP 4 22 ?_; refine zT 5 23 ?_; refine zT 6 24 ?_; refine zT 11 29 ?_; refine zT 22 40 ?_; refine zO 10 28 (fun K hK => ?_); refine goes_ Try.func69 (by kernel_rfl) rfl #[.agg #[.int .i64 b1, .slice (some e3) a9.length b7, .int .i64 b2, .int .i64 b3, .int .i64 b4, .int .i64 b5], .int .i64 (wrap64 (a2 - b6))] z2_4 rfl rfl z2_3 ?_; (with_reducible refine (spec_l6Kept.calls b1 _ _ a9 b2 b3 b4 b5 (wrap64 (a2 - b6)) h4 _ ?side1 ?side2 A8.out).mono ?_); (case side1 => exact (Kd.C_below d5.out HB.out)); (case side2 => exact d7.out); rintro e q7 ⟨rfl, hb⟩; refine ⟨_, rfl, ?_⟩; replace b9 := z2_A (blk_below b9.out hb); replace HB := z2_A (below_step HB.out hb); clear hb; refine hK.out _ _ (zk6 b9.out ⟨((HB.out.cell (World.block_lt_of_cell? w _ c9)).trans c9), ((HB.out.cell (World.block_lt_of_cell? w _ d1)).trans d1)⟩) (fun hHeld => ?_); clear hK K; refine zN 28 ?_; refine zO 14 32 (fun K hK => ?_); refine goes_ Try.func89 (by kernel_rfl) rfl #[.agg #[.int .i64 b1, .slice (some e3) a9.length b7, .int .i64 b2, .int .i64 b3, .int .i64 b4, .int .i64 b5], .int .i64 (wrap64 (a3 - 1))] z2_4 rfl rfl z2_3 ?_; (with_reducible refine (spec_l6Power.calls k1 b1 _ _ a9 b2 b3 b4 b5 (wrap64 (a3 - 1)) h5 _ ?side1 ?side2 A9.out).mono ?_); (case side1 => exact (Kd.C_below d5.out HB.out)); (case side2 => exact d7.out); rintro e q8 ⟨rfl, hb⟩; refine ⟨_, rfl, ?_⟩; replace b9 := z2_A (blk_below b9.out hb); replace HB := z2_A (below_step HB.out hb); clear hb; refine hK.out _ _ (zk6 b9.out ⟨((HB.out.cell (World.block_lt_of_cell? w _ c9)).trans c9), ((HB.out.cell (World.block_lt_of_cell? w _ d1)).trans d1)⟩) (fun hHeld => ?_); clear hK K; refine zN 32 ?_; refine zP 15 33 ?_; refine zP 23 41 ?_; refine zP 24 42 ?_; refine zP 25 43 ?_; refine zP 26 9 ?_; refine zD ?_; (try go_wp2); go_roundg k1; (case measure => have := g6.out; omega); case rel => exact ⟨(wrap64 (e9 + (wrap64 ((rd a9 b6) * (wrap64 ((wrap64 (h4 * h5)) + (rd l1 (d6)))))))), (wrap64 (b6 + 1)), z2_4, z2_4, H', ⟨by have := g6.out; omega⟩, ⟨b9.out⟩, ⟨HB.out⟩⟩
/-! ### spec_l6Floor: function 106 -/
def spec_l6Floor.f (a : Int) (b : List Int) (c : Int) (d : Int) (e : Int) (f : Int) : Option (Int) := some (wrap64 ((wrap64 ((b.length : Int) - 1)) - 10))
set_option maxHeartbeats 8000000 in
set_option maxRecDepth 100000 in
theorem spec_l6Floor.calls (b1 : Int) (b8 : Option Addr) (b7 : Nat) (a9 : List Int) (b2 : Int) (b3 : Int) (b4 : Int) (b5 : Int) (r : Int) (w : World) (c5 : Kd.C (Kd.int .i64) w b8 a9.length a9) (c8 : a9.length ≤ b7) (h : spec_l6Floor.f b1 a9 b2 b3 b4 b5 = some r) :
  Calls Try.prog 106 #[.agg #[.int .i64 b1, .slice b8 a9.length b7, .int .i64 b2, .int .i64 b3, .int .i64 b4, .int .i64 b5]] w fun e w' => e = .returned (.int .i64 r) ∧ Below w.heap.size w w' := by
 have g1 := Try.underlying30; have d5 := z2_A c5; have d7 := z2_A c8; clear c5 c8; have HB := z2_A (Below.refl w.heap.size w); unfold spec_l6Floor.f at h; revert h; intro H; obtain rfl := Option.some.inj H; go_enter Try.func106, Try.ntmps106; go_wp2_with ((with_reducible refine gate_dst (N := 1) rfl ?_); refine box_event ?hg (N := 1) ?hd (cs := #[.int .i64 b1, .slice b8 a9.length b7, .int .i64 b2, .int .i64 b3, .int .i64 b4, .int .i64 b5]) (t := 30) ?hr ?_; (case hd => rfl); (case hg => rfl); (case hr => (go_simp; done)); intro g8 hg w2 hbox hb; have m7 := z2_A hbox; have p7 := z2_A (z2_1 : w.heap.size ≤ g8); have p8 := z2_A (z2_1 : w.heap.size ≤ g8); replace HB := z2_A (below_step HB.out hb); clear hb hbox hg; have o4 := zcf6 m7.out); go_ret; exact ⟨z2_4, by exact HB.out⟩
/-! ### spec_l1Most: function 108 -/
def spec_l1Most.f (a : Int) (b : Int) : Option (Int) := if a > b then (some a) else (some b)
set_option maxHeartbeats 8000000 in
set_option maxRecDepth 100000 in
theorem spec_l1Most.calls (a0 : Int) (a1 : Int) (r : Int) (w : World) (h : spec_l1Most.f a0 a1 = some r) :
  Calls Try.prog 108 #[.int .i64 a0, .int .i64 a1] w fun e w' => e = .returned (.int .i64 r) ∧ Drawn0 w w' := by
 unfold spec_l1Most.f at h; revert h; intro H; by_cases c3 : a0 > a1
 ·rw [if_pos c3] at H; have g3 : decide (a1 < a0) = true := decide_eq_true c3; clear c3; obtain rfl := Option.some.inj H; go_enter Try.func108, Try.ntmps108; go_wp2; go_ret; exact ⟨z2_4, by exact Drawn0.refl _⟩
 rw [if_neg c3] at H; have g3 : decide (a1 < a0) = false := decide_eq_false c3; clear c3; obtain rfl := Option.some.inj H; go_enter Try.func108, Try.ntmps108; go_wp2; go_ret; exact ⟨z2_4, by exact Drawn0.refl _⟩
end Go.Proofs.Ytmekmkhdhakohaa.PFnWorths
