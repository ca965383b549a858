-- A text of this session (its program hook.py, over the kit's print.py): not a print of print.sh
-- THIN: one blank for two
import Derived.Test.YtmekmkhdhakohaaPFnWorthsx0
import Derived.Test.YtmekmkhdhakohaaPFnWorthsx1
import Derived.Test.YtmekmkhdhakohaaPFnWorthsx4
import Derived.Test.YtmekmkhdhakohaaPFnWorthsx5
import Derived.Test.YtmekmkhdhakohaaPFnWorthsx11
import Derived.Test.YtmekmkhdhakohaaPFnWorthsx15
namespace Go.Proofs.Ytmekmkhdhakohaa.PFnWorths
open Go.RowKit Go.Proofs.YtmekmkhdhakohaaW.PrintWords Go.Proofs.YtmekmkhdhakohaaW.PrintLast Go.Proofs.YtmekmkhdhakohaaW.PrintMore
attribute [local go_sem] max2_int min2_int max_two min_two max_three min_three max_four min_four   -- for this text's walks alone
set_option linter.unusedVariables false
set_option linter.unusedSimpArgs false

attribute [local go_sem high] eqA72
-- SQUEEZED
theorem z25_A {p : Prop} (h : p) : Aside0 p := Aside0.mk h
theorem z25_1 {p : Prop} (h : p := by (with_reducible assumption)) : p := h
theorem z25_2 {p : Prop} (h : p := by (try simp only [List.map_toArray, List.map_cons, List.map_nil]); rfl) : p := h
theorem z25_3 {p : Prop} (h : p := by repeat (first | exact Drawn0.refl _ | apply Drawn0.step)) : p := h
theorem z25_4 {p : Prop} (h : p := by rw [hg]; exact (below_size HB.out)) : p := h
theorem z25_5 {p : Prop} (h : p := by kernel_rfl) : p := h
theorem z25_6 {p : Prop} (h : p := by exact Drawn0.refl _) : p := h

/-! ### laws_rInts: function 49 -/
def laws_rInts.l0 : Nat → List Int → List Int → Int → Option (Bool)
 | 0, _, _, _ => none
 | k + 1, a, b, c => if c < (a.length : Int) then (if 0 ≤ c then (if c < (b.length : Int) then (if (rd a c) = (rd b c) then (laws_rInts.l0 k a b (wrap64 (c + 1))) else (some false)) else (none)) else (none)) else (some true)
def laws_rInts.f (k : Nat) (a : List Int) (b : List Int) : Option (Bool) := if (a.length : Int) = (b.length : Int) then (laws_rInts.l0 k a b 0) else (some false)
theorem laws_rInts.mono_l : ∀ k, (∀ y0 y1 y2, LeO (laws_rInts.l0 k y0 y1 y2) (laws_rInts.l0 (k + 1) y0 y1 y2))
 | 0 => fun _ _ _ r h => by simp [laws_rInts.l0] at h
 | k + 1 => by
  have h5 := laws_rInts.mono_l k
  ·intro y0 y1 y2
   unfold laws_rInts.l0
   repeat' with_reducible first | apply h5 | exact LeO.refl _ | refine LeO.ite ?_ ?_
theorem laws_rInts.mono : ∀ a0 a1 k, LeO (laws_rInts.f k a0 a1) (laws_rInts.f (k + 1) a0 a1) := by
 intro a0 a1 k
 have h5 := laws_rInts.mono_l k
 unfold laws_rInts.f
 repeat' with_reducible first | apply h5 | exact LeO.refl _ | refine LeO.ite ?_ ?_
set_option maxHeartbeats 8000000 in
set_option maxRecDepth 100000 in
theorem laws_rInts.calls (k : Nat) (A0 : Option Addr) (c0 : Nat) (l0 : List Int) (A1 : Option Addr) (c1 : Nat) (l1 : List Int) (r : Bool) (w : World) (m9 : Kd.C (Kd.int .i64) w A0 l0.length l0) (n1 : l0.length ≤ c0) (h2 : Kd.C (Kd.int .i64) w A1 l1.length l1) (h3 : l1.length ≤ c1) (h : laws_rInts.f k l0 l1 = some r) :
  Calls Try.prog 49 #[.slice A0 l0.length c0, .slice A1 l1.length c1] w fun e w' => e = .returned (.bool r) ∧ Drawn0 w w' := by
 have n2 := z25_A m9; have r9 := z25_A n1; clear m9 n1; have h4 := z25_A h2; have o7 := z25_A h3; clear h2 h3; unfold laws_rInts.f at h; revert h; intro H; by_cases c3 : (l0.length : Int) = (l1.length : Int); rotate_left
 ·rw [if_neg c3] at H; have e3 : ((l0.length : Int) == (l1.length : Int)) = false := beq_eq_false_iff_ne.mpr c3; have e4 : ((l0.length : Int) != (l1.length : Int)) = true := bne_iff_ne.mpr c3; (have e5 : (l0.length == l1.length) = false := by (simp at c3 ⊢; omega)); obtain rfl := Option.some.inj H; go_enter Try.func49, Try.ntmps49; go_wp2; go_ret; exact ⟨by rfl, z25_6⟩
 rw [if_pos c3] at H; have e3 : ((l0.length : Int) == (l1.length : Int)) = true := beq_iff_eq.mpr c3; have e4 : ((l0.length : Int) != (l1.length : Int)) = false := bne_eq_false_iff_eq.mpr c3; (have e5 : (l0.length == l1.length) = true := by (simp at c3 ⊢; omega)); clear c3; have H' := z25_A H; clear H; go_enter Try.func49, Try.ntmps49; go_wp2; go_loopg [5] k (fun kq v5 w' => ∃ (a7 : Int), v5 = .int .i64 a7 ∧ Aside0 (laws_rInts.l0 kq l0 l1 a7 = some r) ∧ Aside0 (kq ≤ k) ∧ Drawn0 w w'); case atStart => exact ⟨(0), (by rfl), H', ⟨Nat.le_refl _⟩, z25_6⟩
 case round =>
 clear H' e3 e4 e5; obtain ⟨a7, rfl, HA, n3, ⟨m1, rfl⟩⟩ := hrel; cases gk with
 | zero => exact absurd HA.out (by simp [laws_rInts.l0])
 | succ k1 => ?_
 have H := HA.out; clear HA; simp only [laws_rInts.l0] at H; by_cases c4 : a7 < (l0.length : Int); rotate_left
 ·rw [if_neg c4] at H; have h6 := decide_eq_false c4; clear c4; obtain rfl := Option.some.inj H; go_wp2; go_ret; exact ⟨by rfl, z25_3⟩
 rw [if_pos c4] at H; have h6 := decide_eq_true c4; clear c4; by_cases c5 : 0 ≤ a7; rotate_left
 ·rw [if_neg c5] at H; exact absurd H (by simp)
 rw [if_pos c5] at H; have o8 := decide_eq_true c5; clear c5; by_cases c6 : a7 < (l1.length : Int); rotate_left
 ·rw [if_neg c6] at H; exact absurd H (by simp)
 rw [if_pos c6] at H; have o9 := decide_eq_true c6; clear c6; by_cases c7 : (rd l0 a7) = (rd l1 a7); rotate_left
 ·rw [if_neg c7] at H; have n4 : ((rd l0 a7) == (rd l1 a7)) = false := beq_eq_false_iff_ne.mpr c7; have q6 : ((rd l0 a7) != (rd l1 a7)) = true := bne_iff_ne.mpr c7; obtain rfl := Option.some.inj H; have e8 : 0 ≤ (a7 : Int) := of_decide_eq_true z25_1; have e9 : a7 < (l0.length : Int) := of_decide_eq_true z25_1; obtain ⟨p1, n5, h8⟩ := Kd.at_int n2.out a7 e8 e9; cases n5; replace e8 := eq_true e8; replace e9 := eq_true e9; have g1 : 0 ≤ (a7 : Int) := of_decide_eq_true z25_1; have g2 : a7 < (l1.length : Int) := of_decide_eq_true z25_1; obtain ⟨p2, n6, h9⟩ := Kd.at_int h4.out a7 g1 g2; cases n6; replace g1 := eq_true g1; replace g2 := eq_true g2; go_wp2; (repeat (go_quiet (fail); try go_wp2)); go_ret; exact ⟨by rfl, z25_3⟩
 rw [if_pos c7] at H; have n4 : ((rd l0 a7) == (rd l1 a7)) = true := beq_iff_eq.mpr c7; have q6 : ((rd l0 a7) != (rd l1 a7)) = false := bne_eq_false_iff_eq.mpr c7; clear c7; have H' := z25_A H; clear H; have e8 : 0 ≤ (a7 : Int) := of_decide_eq_true z25_1; have e9 : a7 < (l0.length : Int) := of_decide_eq_true z25_1; obtain ⟨p1, n5, h8⟩ := Kd.at_int n2.out a7 e8 e9; cases n5; replace e8 := eq_true e8; replace e9 := eq_true e9; have g1 : 0 ≤ (a7 : Int) := of_decide_eq_true z25_1; have g2 : a7 < (l1.length : Int) := of_decide_eq_true z25_1; obtain ⟨p2, n6, h9⟩ := Kd.at_int h4.out a7 g1 g2; cases n6; replace g1 := eq_true g1; replace g2 := eq_true g2; go_wp2; (repeat (go_quiet (fail); try go_wp2)); go_roundg k1; (case measure => have := n3.out; omega); case rel => exact ⟨(wrap64 (a7 + 1)), (by rfl), H', ⟨by have := n3.out; omega⟩, z25_3⟩
/-! ### impl_IsPolicy: function 50 -/
def impl_IsPolicy.f (k : Nat) (a : Int) (b : List Int) (c : Int) (d : Int) (e : Int) (f : Int) (g : List (S72)) : Option (Bool × Bool) := (impl_IsProcess.f k a b c d e f).bind fun h => (if h = true then ((impl_Process_isPolicy.f k a b c d e f g).bind fun i => (some (i, true))) else (some (false, false)))
theorem impl_IsPolicy.mono : ∀ a0 a1 a2 a3 a4 a5 a6 k, LeO (impl_IsPolicy.f k a0 a1 a2 a3 a4 a5 a6) (impl_IsPolicy.f (k + 1) a0 a1 a2 a3 a4 a5 a6) := by
 intro a0 a1 a2 a3 a4 a5 a6 k
 unfold impl_IsPolicy.f
 repeat' with_reducible first | apply impl_IsProcess.mono | apply impl_Process_isPolicy.mono | exact LeO.refl _ | refine LeO.ite ?_ ?_ | refine LeO.bind ?_ (fun _ => ?_)
set_option maxHeartbeats 8000000 in
set_option maxRecDepth 100000 in
theorem impl_IsPolicy.calls (k : Nat) (a9 : Int) (b6 : Option Addr) (b7 : Nat) (a8 : List Int) (b1 : Int) (b2 : Int) (b3 : Int) (b4 : Int) (A1 : Option Addr) (c1 : Nat) (l1 : List (S72)) (r1 : Bool) (r2 : Bool) (w : World) (d6 : Kd.C (Kd.int .i64) w b6 a8.length a8) (d7 : a8.length ≤ b7) (h2 : Kd.C k72 w A1 l1.length l1) (h3 : l1.length ≤ c1) (h : impl_IsPolicy.f k a9 a8 b1 b2 b3 b4 l1 = some (r1, r2)) :
  Calls Try.prog 50 #[.agg #[.int .i64 a9, .slice b6 a8.length b7, .int .i64 b1, .int .i64 b2, .int .i64 b3, .int .i64 b4], .slice A1 l1.length c1] w fun e w' => e = .returned (.tuple #[.bool r1, .bool r2]) ∧ Below w.heap.size w w' := by
 have p3 := Try.underlying30; have b8 := z25_A d6; have b9 := z25_A d7; clear d6 d7; have h4 := z25_A h2; have o7 := z25_A h3; clear h2 h3; have HB := z25_A (Below.refl w.heap.size w); unfold impl_IsPolicy.f at h; revert h; intro H; obtain ⟨q7, A3, H⟩ := zB H; by_cases c4 : q7 = true
 ·subst c4; rw [if_pos rfl] at H; obtain ⟨q8, A5, H⟩ := zB H; simp only [Option.some.injEq, Prod.mk.injEq] at H; obtain ⟨rfl, rfl⟩ := H; go_enter Try.func50, Try.ntmps50; go_wp2_with (first | ((with_reducible refine gate_dst (N := 2) rfl ?_); refine box_event ?hg (N := 2) ?hd (cs := #[.int .i64 a9, .slice b6 a8.length b7, .int .i64 b1, .int .i64 b2, .int .i64 b3, .int .i64 b4]) (t := 30) ?hr ?_; (case hd => rfl); (case hg => rfl); (case hr => (go_simp; done)); intro e6 hg w6 hbox hb; have c9 := z25_A hbox; have p4 := z25_A (z25_4 : w.heap.size ≤ e6); have p5 := z25_A (z25_4 : w.heap.size ≤ e6); replace HB := z25_A (below_step HB.out hb); clear hb hbox hg; have h7 := zcf6 c9.out) | ((with_reducible refine gate_callee (f := 52) rfl ?_); refine goesL_ (some 7) rfl rfl Try.func52 z25_5 rfl #[.agg #[.int .i64 a9, .slice b6 a8.length b7, .int .i64 b1, .int .i64 b2, .int .i64 b3, .int .i64 b4]] rfl z25_2 ?_; (with_reducible refine (impl_IsProcess.calls k a9 _ _ a8 b1 b2 b3 b4 true _ ?side1 ?side2 A3.out).mono ?_); (case side1 => exact (Kd.C_below b8.out HB.out)); (case side2 => exact b9.out); rintro e w8 ⟨rfl, hb⟩; refine ⟨_, rfl, ?_⟩; replace c9 := z25_A (blk_below c9.out hb); replace HB := z25_A (below_step HB.out hb); clear hb; have n7 := zcf6 c9.out) | ((with_reducible refine gate_callee (f := 72) rfl ?_); refine goesL_ (some 11) rfl rfl Try.func72 z25_5 rfl #[.agg #[.int .i64 a9, .slice b6 a8.length b7, .int .i64 b1, .int .i64 b2, .int .i64 b3, .int .i64 b4], .slice A1 l1.length c1] rfl z25_2 ?_; (with_reducible refine (impl_Process_isPolicy.calls k a9 _ _ a8 b1 b2 b3 b4 _ _ l1 q8 _ ?side1 ?side2 ?side3 ?side4 A5.out).mono ?_); (case side1 => exact (Kd.C_below b8.out HB.out)); (case side2 => exact b9.out); (case side3 => exact (Kd.C_below h4.out HB.out)); (case side4 => exact o7.out); rintro e s1 ⟨rfl, hb⟩; refine ⟨_, rfl, ?_⟩; replace c9 := z25_A (blk_below c9.out hb); replace HB := z25_A (below_step HB.out hb); clear hb)); go_ret2; exact ⟨by rfl, by exact HB.out⟩
 replace c4 := Bool.eq_false_iff.mpr c4; subst c4; rw [if_neg (show ¬ (false = true) by decide)] at H; simp only [Option.some.injEq, Prod.mk.injEq] at H; obtain ⟨rfl, rfl⟩ := H; go_enter Try.func50, Try.ntmps50; go_wp2_with (first | ((with_reducible refine gate_dst (N := 2) rfl ?_); refine box_event ?hg (N := 2) ?hd (cs := #[.int .i64 a9, .slice b6 a8.length b7, .int .i64 b1, .int .i64 b2, .int .i64 b3, .int .i64 b4]) (t := 30) ?hr ?_; (case hd => rfl); (case hg => rfl); (case hr => (go_simp; done)); intro e6 hg s2 hbox hb; have c9 := z25_A hbox; have p4 := z25_A (z25_4 : w.heap.size ≤ e6); have p5 := z25_A (z25_4 : w.heap.size ≤ e6); replace HB := z25_A (below_step HB.out hb); clear hb hbox hg; have m2 := zcf6 c9.out) | ((with_reducible refine gate_callee (f := 52) rfl ?_); refine goesL_ (some 7) rfl rfl Try.func52 z25_5 rfl #[.agg #[.int .i64 a9, .slice b6 a8.length b7, .int .i64 b1, .int .i64 b2, .int .i64 b3, .int .i64 b4]] rfl z25_2 ?_; (with_reducible refine (impl_IsProcess.calls k a9 _ _ a8 b1 b2 b3 b4 false _ ?side1 ?side2 A3.out).mono ?_); (case side1 => exact (Kd.C_below b8.out HB.out)); (case side2 => exact b9.out); rintro e s3 ⟨rfl, hb⟩; refine ⟨_, rfl, ?_⟩; replace c9 := z25_A (blk_below c9.out hb); replace HB := z25_A (below_step HB.out hb); clear hb)); go_ret2; exact ⟨by rfl, by exact HB.out⟩
/-! ### spec_IsPolicy: function 51 -/
def spec_IsPolicy.f (k : Nat) (a : Int) (b : List Int) (c : Int) (d : Int) (e : Int) (f : Int) (g : List (S72)) : Option (Bool × Bool) := (spec_l6Good.f k a b c d e f).bind fun h => (if h = true then ((spec_l6Policy.f k a b c d e f g).bind fun i => (some (i, true))) else (some (false, false)))
theorem spec_IsPolicy.mono : ∀ a0 a1 a2 a3 a4 a5 a6 k, LeO (spec_IsPolicy.f k a0 a1 a2 a3 a4 a5 a6) (spec_IsPolicy.f (k + 1) a0 a1 a2 a3 a4 a5 a6) := by
 intro a0 a1 a2 a3 a4 a5 a6 k
 unfold spec_IsPolicy.f
 repeat' with_reducible first | apply spec_l6Good.mono | apply spec_l6Policy.mono | exact LeO.refl _ | refine LeO.ite ?_ ?_ | refine LeO.bind ?_ (fun _ => ?_)
set_option maxHeartbeats 8000000 in
set_option maxRecDepth 100000 in
theorem spec_IsPolicy.calls (k : Nat) (a9 : Int) (b6 : Option Addr) (b7 : Nat) (a8 : List Int) (b1 : Int) (b2 : Int) (b3 : Int) (b4 : Int) (A1 : Option Addr) (c1 : Nat) (l1 : List (S72)) (r1 : Bool) (r2 : Bool) (w : World) (d6 : Kd.C (Kd.int .i64) w b6 a8.length a8) (d7 : a8.length ≤ b7) (h2 : Kd.C k72 w A1 l1.length l1) (h3 : l1.length ≤ c1) (h : spec_IsPolicy.f k a9 a8 b1 b2 b3 b4 l1 = some (r1, r2)) :
  Calls Try.prog 51 #[.agg #[.int .i64 a9, .slice b6 a8.length b7, .int .i64 b1, .int .i64 b2, .int .i64 b3, .int .i64 b4], .slice A1 l1.length c1] w fun e w' => e = .returned (.tuple #[.bool r1, .bool r2]) ∧ Below w.heap.size w w' := by
 have p3 := Try.underlying30; have b8 := z25_A d6; have b9 := z25_A d7; clear d6 d7; have h4 := z25_A h2; have o7 := z25_A h3; clear h2 h3; have HB := z25_A (Below.refl w.heap.size w); unfold spec_IsPolicy.f at h; revert h; intro H; obtain ⟨q9, A3, H⟩ := zB H; by_cases c4 : q9 = true
 ·subst c4; rw [if_pos rfl] at H; obtain ⟨r4, A5, H⟩ := zB H; simp only [Option.some.injEq, Prod.mk.injEq] at H; obtain ⟨rfl, rfl⟩ := H; go_enter Try.func51, Try.ntmps51; go_wp2_with (first | ((with_reducible refine gate_dst (N := 2) rfl ?_); refine box_event ?hg (N := 2) ?hd (cs := #[.int .i64 a9, .slice b6 a8.length b7, .int .i64 b1, .int .i64 b2, .int .i64 b3, .int .i64 b4]) (t := 30) ?hr ?_; (case hd => rfl); (case hg => rfl); (case hr => (go_simp; done)); intro e7 hg w6 hbox hb; have d1 := z25_A hbox; have p6 := z25_A (z25_4 : w.heap.size ≤ e7); have p7 := z25_A (z25_4 : w.heap.size ≤ e7); replace HB := z25_A (below_step HB.out hb); clear hb hbox hg; have h7 := zcf6 d1.out) | ((with_reducible refine gate_callee (f := 83) rfl ?_); refine goesL_ (some 7) rfl rfl Try.func83 z25_5 rfl #[.agg #[.int .i64 a9, .slice b6 a8.length b7, .int .i64 b1, .int .i64 b2, .int .i64 b3, .int .i64 b4]] rfl z25_2 ?_; (with_reducible refine (spec_l6Good.calls k a9 _ _ a8 b1 b2 b3 b4 true _ ?side1 ?side2 A3.out).mono ?_); (case side1 => exact (Kd.C_below b8.out HB.out)); (case side2 => exact b9.out); rintro e w8 ⟨rfl, hb⟩; refine ⟨_, rfl, ?_⟩; replace d1 := z25_A (blk_below d1.out hb); replace HB := z25_A (below_step HB.out hb); clear hb; have n7 := zcf6 d1.out) | ((with_reducible refine gate_callee (f := 64) rfl ?_); refine goesL_ (some 11) rfl rfl Try.func64 z25_5 rfl #[.agg #[.int .i64 a9, .slice b6 a8.length b7, .int .i64 b1, .int .i64 b2, .int .i64 b3, .int .i64 b4], .slice A1 l1.length c1] rfl z25_2 ?_; (with_reducible refine (spec_l6Policy.calls k a9 _ _ a8 b1 b2 b3 b4 _ _ l1 r4 _ ?side1 ?side2 ?side3 ?side4 A5.out).mono ?_); (case side1 => exact (Kd.C_below b8.out HB.out)); (case side2 => exact b9.out); (case side3 => exact (Kd.C_below h4.out HB.out)); (case side4 => exact o7.out); rintro e s1 ⟨rfl, hb⟩; refine ⟨_, rfl, ?_⟩; replace d1 := z25_A (blk_below d1.out hb); replace HB := z25_A (below_step HB.out hb); clear hb)); go_ret2; exact ⟨by rfl, by exact HB.out⟩
 replace c4 := Bool.eq_false_iff.mpr c4; subst c4; rw [if_neg (show ¬ (false = true) by decide)] at H; simp only [Option.some.injEq, Prod.mk.injEq] at H; obtain ⟨rfl, rfl⟩ := H; go_enter Try.func51, Try.ntmps51; go_wp2_with (first | ((with_reducible refine gate_dst (N := 2) rfl ?_); refine box_event ?hg (N := 2) ?hd (cs := #[.int .i64 a9, .slice b6 a8.length b7, .int .i64 b1, .int .i64 b2, .int .i64 b3, .int .i64 b4]) (t := 30) ?hr ?_; (case hd => rfl); (case hg => rfl); (case hr => (go_simp; done)); intro e7 hg s2 hbox hb; have d1 := z25_A hbox; have p6 := z25_A (z25_4 : w.heap.size ≤ e7); have p7 := z25_A (z25_4 : w.heap.size ≤ e7); replace HB := z25_A (below_step HB.out hb); clear hb hbox hg; have m2 := zcf6 d1.out) | ((with_reducible refine gate_callee (f := 83) rfl ?_); refine goesL_ (some 7) rfl rfl Try.func83 z25_5 rfl #[.agg #[.int .i64 a9, .slice b6 a8.length b7, .int .i64 b1, .int .i64 b2, .int .i64 b3, .int .i64 b4]] rfl z25_2 ?_; (with_reducible refine (spec_l6Good.calls k a9 _ _ a8 b1 b2 b3 b4 false _ ?side1 ?side2 A3.out).mono ?_); (case side1 => exact (Kd.C_below b8.out HB.out)); (case side2 => exact b9.out); rintro e s3 ⟨rfl, hb⟩; refine ⟨_, rfl, ?_⟩; replace d1 := z25_A (blk_below d1.out hb); replace HB := z25_A (below_step HB.out hb); clear hb)); go_ret2; exact ⟨by rfl, by exact HB.out⟩
/-! ### laws_rTable: function 53 -/
def laws_rTable.l0 : Nat → List (List Int) → List (List Int) → Int → Option (Bool)
 | 0, _, _, _ => none
 | k + 1, a, b, c => if c < (a.length : Int) then (if 0 ≤ c then (if c < (b.length : Int) then ((laws_rInts.f k (rd_L1 a c) (rd_L1 b c)).bind fun d => (if d = true then (laws_rTable.l0 k a b (wrap64 (c + 1))) else (some false))) else (none)) else (none)) else (some true)
def laws_rTable.f (k : Nat) (a : List (List Int)) (b : List (List Int)) : Option (Bool) := if (a.length : Int) = (b.length : Int) then (laws_rTable.l0 k a b 0) else (some false)
theorem laws_rTable.mono_l : ∀ k, (∀ y0 y1 y2, LeO (laws_rTable.l0 k y0 y1 y2) (laws_rTable.l0 (k + 1) y0 y1 y2))
 | 0 => fun _ _ _ r h => by simp [laws_rTable.l0] at h
 | k + 1 => by
  have h5 := laws_rTable.mono_l k
  ·intro y0 y1 y2
   unfold laws_rTable.l0
   repeat' with_reducible first | apply h5 | apply laws_rInts.mono | exact LeO.refl _ | refine LeO.ite ?_ ?_ | refine LeO.bind ?_ (fun _ => ?_)
theorem laws_rTable.mono : ∀ a0 a1 k, LeO (laws_rTable.f k a0 a1) (laws_rTable.f (k + 1) a0 a1) := by
 intro a0 a1 k
 have h5 := laws_rTable.mono_l k
 unfold laws_rTable.f
 repeat' with_reducible first | apply h5 | exact LeO.refl _ | refine LeO.ite ?_ ?_
set_option maxHeartbeats 8000000 in
set_option maxRecDepth 100000 in
theorem laws_rTable.calls (k : Nat) (A0 : Option Addr) (c0 : Nat) (l0 : List (List Int)) (A1 : Option Addr) (c1 : Nat) (l1 : List (List Int)) (r : Bool) (w : World) (m9 : Kd.C (Kd.slice 3 (Kd.int .i64)) w A0 l0.length l0) (n1 : l0.length ≤ c0) (h2 : Kd.C (Kd.slice 3 (Kd.int .i64)) w A1 l1.length l1) (h3 : l1.length ≤ c1) (h : laws_rTable.f k l0 l1 = some r) :
  Calls Try.prog 53 #[.slice A0 l0.length c0, .slice A1 l1.length c1] w fun e w' => e = .returned (.bool r) ∧ Drawn0 w w' := by
 have n2 := z25_A m9; have r9 := z25_A n1; clear m9 n1; have h4 := z25_A h2; have o7 := z25_A h3; clear h2 h3; unfold laws_rTable.f at h; revert h; intro H; by_cases c3 : (l0.length : Int) = (l1.length : Int); rotate_left
 ·rw [if_neg c3] at H; have e3 : ((l0.length : Int) == (l1.length : Int)) = false := beq_eq_false_iff_ne.mpr c3; have e4 : ((l0.length : Int) != (l1.length : Int)) = true := bne_iff_ne.mpr c3; (have e5 : (l0.length == l1.length) = false := by (simp at c3 ⊢; omega)); obtain rfl := Option.some.inj H; go_enter Try.func53, Try.ntmps53; go_wp2; go_ret; exact ⟨by rfl, z25_6⟩
 rw [if_pos c3] at H; have e3 : ((l0.length : Int) == (l1.length : Int)) = true := beq_iff_eq.mpr c3; have e4 : ((l0.length : Int) != (l1.length : Int)) = false := bne_eq_false_iff_eq.mpr c3; (have e5 : (l0.length == l1.length) = true := by (simp at c3 ⊢; omega)); clear c3; have H' := z25_A H; clear H; go_enter Try.func53, Try.ntmps53; go_wp2; go_loopg [5] k (fun kq v5 w' => ∃ (a7 : Int), v5 = .int .i64 a7 ∧ Aside0 (laws_rTable.l0 kq l0 l1 a7 = some r) ∧ Aside0 (kq ≤ k) ∧ Drawn0 w w'); case atStart => exact ⟨(0), (by rfl), H', ⟨Nat.le_refl _⟩, z25_6⟩
 case round =>
 clear H' e3 e4 e5; obtain ⟨a7, rfl, HA, n3, ⟨m1, rfl⟩⟩ := hrel; cases gk with
 | zero => exact absurd HA.out (by simp [laws_rTable.l0])
 | succ k1 => ?_
 have H := HA.out; clear HA; simp only [laws_rTable.l0] at H; by_cases c4 : a7 < (l0.length : Int); rotate_left
 ·rw [if_neg c4] at H; have h6 := decide_eq_false c4; clear c4; obtain rfl := Option.some.inj H; go_wp2; go_ret; exact ⟨by rfl, z25_3⟩
 rw [if_pos c4] at H; have h6 := decide_eq_true c4; clear c4; by_cases c5 : 0 ≤ a7; rotate_left
 ·rw [if_neg c5] at H; exact absurd H (by simp)
 rw [if_pos c5] at H; have o8 := decide_eq_true c5; clear c5; by_cases c6 : a7 < (l1.length : Int); rotate_left
 ·rw [if_neg c6] at H; exact absurd H (by simp)
 rw [if_pos c6] at H; have o9 := decide_eq_true c6; clear c6; obtain ⟨r5, A7, H⟩ := zB H; by_cases c8 : r5 = true
 ·subst c8; rw [if_pos rfl] at H; have H' := z25_A H; clear H; have g3 : 0 ≤ (a7 : Int) := of_decide_eq_true z25_1; have g4 : a7 < (l0.length : Int) := of_decide_eq_true z25_1; obtain ⟨p8, n8, n9, o1, m3, d2, d3⟩ := at_L1 n2.out a7 g3 g4; cases o1; have d8 := z25_A d3; have d9 := z25_A d2; clear d3 d2; replace g3 := eq_true g3; replace g4 := eq_true g4; have g5 : 0 ≤ (a7 : Int) := of_decide_eq_true z25_1; have g6 : a7 < (l1.length : Int) := of_decide_eq_true z25_1; obtain ⟨p9, o2, o3, o4, m4, d4, d5⟩ := at_L1 h4.out a7 g5 g6; cases o4; have e1 := z25_A d5; have e2 := z25_A d4; clear d5 d4; replace g5 := eq_true g5; replace g6 := eq_true g6; go_wp2_with (fail); (repeat (go_quiet ((go_at_call 49; (with_reducible refine (laws_rInts.calls k1 _ _ (rd_L1 l0 a7) _ _ (rd_L1 l1 a7) true _ ?side1 ?side2 ?side3 ?side4 A7.out).mono ?_); (case side1 => exact d8.out); (case side2 => exact d9.out); (case side3 => exact e1.out); (case side4 => exact e2.out); rintro e w' ⟨rfl, ⟨nd, rfl⟩⟩; (try exact ⟨rfl, _, Eq.trans (World.drewN_drewN _ _ _) (congrArg (World.drewN _) (Nat.add_assoc _ _ _))⟩))); try go_wp2_with (fail))); go_roundg k1; (case measure => have := n3.out; omega); case rel => exact ⟨(wrap64 (a7 + 1)), (by rfl), H', ⟨by have := n3.out; omega⟩, z25_3⟩
 replace c8 := Bool.eq_false_iff.mpr c8; subst c8; rw [if_neg (show ¬ (false = true) by decide)] at H; obtain rfl := Option.some.inj H; have g3 : 0 ≤ (a7 : Int) := of_decide_eq_true z25_1; have g4 : a7 < (l0.length : Int) := of_decide_eq_true z25_1; obtain ⟨p8, n8, n9, o1, m3, d2, d3⟩ := at_L1 n2.out a7 g3 g4; cases o1; have d8 := z25_A d3; have d9 := z25_A d2; clear d3 d2; replace g3 := eq_true g3; replace g4 := eq_true g4; have g5 : 0 ≤ (a7 : Int) := of_decide_eq_true z25_1; have g6 : a7 < (l1.length : Int) := of_decide_eq_true z25_1; obtain ⟨p9, o2, o3, o4, m4, d4, d5⟩ := at_L1 h4.out a7 g5 g6; cases o4; have e1 := z25_A d5; have e2 := z25_A d4; clear d5 d4; replace g5 := eq_true g5; replace g6 := eq_true g6; go_wp2_with (fail); (repeat (go_quiet ((go_at_call 49; (with_reducible refine (laws_rInts.calls k1 _ _ (rd_L1 l0 a7) _ _ (rd_L1 l1 a7) false _ ?side1 ?side2 ?side3 ?side4 A7.out).mono ?_); (case side1 => exact d8.out); (case side2 => exact d9.out); (case side3 => exact e1.out); (case side4 => exact e2.out); rintro e w' ⟨rfl, ⟨nd, rfl⟩⟩; (try exact ⟨rfl, _, Eq.trans (World.drewN_drewN _ _ _) (congrArg (World.drewN _) (Nat.add_assoc _ _ _))⟩))); try go_wp2_with (fail))); go_ret; exact ⟨by rfl, z25_3⟩
/-! ### laws_rPairs: function 54 -/
def laws_rPairs.l0 : Nat → List (S72) → List (S72) → Int → Option (Bool)
 | 0, _, _, _ => none
 | k + 1, a, b, c => if c < (a.length : Int) then (if 0 ≤ c then (if c < (b.length : Int) then (if (!(((rd_T72 a c).f0) == ((rd_T72 b c).f0)) || (!(((rd_T72 a c).f1) == ((rd_T72 b c).f1)))) = true then (some false) else (laws_rPairs.l0 k a b (wrap64 (c + 1)))) else (none)) else (none)) else (some true)
def laws_rPairs.f (k : Nat) (a : List (S72)) (b : List (S72)) : Option (Bool) := if (a.length : Int) = (b.length : Int) then (laws_rPairs.l0 k a b 0) else (some false)
theorem laws_rPairs.mono_l : ∀ k, (∀ y0 y1 y2, LeO (laws_rPairs.l0 k y0 y1 y2) (laws_rPairs.l0 (k + 1) y0 y1 y2))
 | 0 => fun _ _ _ r h => by simp [laws_rPairs.l0] at h
 | k + 1 => by
  have h5 := laws_rPairs.mono_l k
  ·intro y0 y1 y2
   unfold laws_rPairs.l0
   repeat' with_reducible first | apply h5 | exact LeO.refl _ | refine LeO.ite ?_ ?_
theorem laws_rPairs.mono : ∀ a0 a1 k, LeO (laws_rPairs.f k a0 a1) (laws_rPairs.f (k + 1) a0 a1) := by
 intro a0 a1 k
 have h5 := laws_rPairs.mono_l k
 unfold laws_rPairs.f
 repeat' with_reducible first | apply h5 | exact LeO.refl _ | refine LeO.ite ?_ ?_
set_option maxHeartbeats 8000000 in
set_option maxRecDepth 100000 in
theorem laws_rPairs.calls (k : Nat) (A0 : Option Addr) (c0 : Nat) (l0 : List (S72)) (A1 : Option Addr) (c1 : Nat) (l1 : List (S72)) (r : Bool) (w : World) (m9 : Kd.C k72 w A0 l0.length l0) (n1 : l0.length ≤ c0) (h2 : Kd.C k72 w A1 l1.length l1) (h3 : l1.length ≤ c1) (h : laws_rPairs.f k l0 l1 = some r) :
  Calls Try.prog 54 #[.slice A0 l0.length c0, .slice A1 l1.length c1] w fun e w' => e = .returned (.bool r) ∧ Drawn0 w w' := by
 have s4 := Try.underlying72; have n2 := z25_A m9; have r9 := z25_A n1; clear m9 n1; have h4 := z25_A h2; have o7 := z25_A h3; clear h2 h3; unfold laws_rPairs.f at h; revert h; intro H; by_cases c3 : (l0.length : Int) = (l1.length : Int); rotate_left
 ·rw [if_neg c3] at H; have e3 : ((l0.length : Int) == (l1.length : Int)) = false := beq_eq_false_iff_ne.mpr c3; have e4 : ((l0.length : Int) != (l1.length : Int)) = true := bne_iff_ne.mpr c3; (have e5 : (l0.length == l1.length) = false := by (simp at c3 ⊢; omega)); obtain rfl := Option.some.inj H; go_enter Try.func54, Try.ntmps54; go_wp2; go_ret; exact ⟨by rfl, z25_6⟩
 rw [if_pos c3] at H; have e3 : ((l0.length : Int) == (l1.length : Int)) = true := beq_iff_eq.mpr c3; have e4 : ((l0.length : Int) != (l1.length : Int)) = false := bne_eq_false_iff_eq.mpr c3; (have e5 : (l0.length == l1.length) = true := by (simp at c3 ⊢; omega)); clear c3; have H' := z25_A H; clear H; go_enter Try.func54, Try.ntmps54; go_wp2; go_loopg [5] k (fun kq v5 w' => ∃ (a7 : Int), v5 = .int .i64 a7 ∧ Aside0 (laws_rPairs.l0 kq l0 l1 a7 = some r) ∧ Aside0 (kq ≤ k) ∧ Drawn0 w w'); case atStart => exact ⟨(0), (by rfl), H', ⟨Nat.le_refl _⟩, z25_6⟩
 case round =>
 clear H' e3 e4 e5; obtain ⟨a7, rfl, HA, n3, ⟨m1, rfl⟩⟩ := hrel; cases gk with
 | zero => exact absurd HA.out (by simp [laws_rPairs.l0])
 | succ k1 => ?_
 have H := HA.out; clear HA; simp only [laws_rPairs.l0] at H; by_cases c4 : a7 < (l0.length : Int); rotate_left
 ·rw [if_neg c4] at H; have h6 := decide_eq_false c4; clear c4; obtain rfl := Option.some.inj H; go_wp2; go_ret; exact ⟨by rfl, z25_3⟩
 rw [if_pos c4] at H; have h6 := decide_eq_true c4; clear c4; by_cases c5 : 0 ≤ a7; rotate_left
 ·rw [if_neg c5] at H; exact absurd H (by simp)
 rw [if_pos c5] at H; have o8 := decide_eq_true c5; clear c5; by_cases c6 : a7 < (l1.length : Int); rotate_left
 ·rw [if_neg c6] at H; exact absurd H (by simp)
 rw [if_pos c6] at H; have o9 := decide_eq_true c6; clear c6; by_cases c7 : (!(((rd_T72 l0 a7).f0) == ((rd_T72 l1 a7).f0)) || (!(((rd_T72 l0 a7).f1) == ((rd_T72 l1 a7).f1)))) = true
 ·rw [if_pos c7] at H; have n4 : (!(((rd_T72 l0 a7).f0) == ((rd_T72 l1 a7).f0)) || (!(((rd_T72 l0 a7).f1) == ((rd_T72 l1 a7).f1)))) = true := c7; clear c7; obtain rfl := Option.some.inj H; have g7 : 0 ≤ (a7 : Int) := of_decide_eq_true z25_1; have g8 : a7 < (l0.length : Int) := of_decide_eq_true z25_1; obtain ⟨q1, o5, m5, m6⟩ := at_T72 n2.out a7 g7 g8; cases o5; replace g7 := eq_true g7; replace g8 := eq_true g8; have g9 : 0 ≤ (a7 : Int) := of_decide_eq_true z25_1; have h1 : a7 < (l1.length : Int) := of_decide_eq_true z25_1; obtain ⟨q2, o6, m7, m8⟩ := at_T72 h4.out a7 g9 h1; cases o6; replace g9 := eq_true g9; replace h1 := eq_true h1; go_wp2; (repeat (go_quiet (fail); try go_wp2)); go_ret; exact ⟨by rfl, z25_3⟩
 rw [if_neg c7] at H; (have n4 : (!(((rd_T72 l0 a7).f0) == ((rd_T72 l1 a7).f0)) || (!(((rd_T72 l0 a7).f1) == ((rd_T72 l1 a7).f1)))) = false := by simpa using c7); clear c7; have H' := z25_A H; clear H; have g7 : 0 ≤ (a7 : Int) := of_decide_eq_true z25_1; have g8 : a7 < (l0.length : Int) := of_decide_eq_true z25_1; obtain ⟨q1, o5, m5, m6⟩ := at_T72 n2.out a7 g7 g8; cases o5; replace g7 := eq_true g7; replace g8 := eq_true g8; have g9 : 0 ≤ (a7 : Int) := of_decide_eq_true z25_1; have h1 : a7 < (l1.length : Int) := of_decide_eq_true z25_1; obtain ⟨q2, o6, m7, m8⟩ := at_T72 h4.out a7 g9 h1; cases o6; replace g9 := eq_true g9; replace h1 := eq_true h1; go_wp2; (repeat (go_quiet (fail); try go_wp2)); go_roundg k1; (case measure => have := n3.out; omega); case rel => exact ⟨(wrap64 (a7 + 1)), (by rfl), H', ⟨by have := n3.out; omega⟩, z25_3⟩
/-! ### impl_WholeOf: function 55 -/
def impl_WholeOf.f (k : Nat) (a : Int) (b : List Int) (c : Int) (d : Int) (e : Int) (f : Int) : Option (Int × Int × Bool) := (impl_IsProcess.f k a b c d e f).bind fun g => (if g = true then ((impl_Process_whole.f k a b c d e f 1).bind fun h => ((impl_Process_whole.f k a b c d e f a).bind fun i => (some (h, i, true)))) else (some (0, 0, false)))
theorem impl_WholeOf.mono : ∀ a0 a1 a2 a3 a4 a5 k, LeO (impl_WholeOf.f k a0 a1 a2 a3 a4 a5) (impl_WholeOf.f (k + 1) a0 a1 a2 a3 a4 a5) := by
 intro a0 a1 a2 a3 a4 a5 k
 unfold impl_WholeOf.f
 repeat' with_reducible first | apply impl_IsProcess.mono | apply impl_Process_whole.mono | exact LeO.refl _ | refine LeO.ite ?_ ?_ | refine LeO.bind ?_ (fun _ => ?_)
def impl_WholeOf.T3 : Bool × List (List Nat × List Nat) := (true, [([], []), ([0], [0]), ([], []), ([], []), ([3], [3]), ([2, 4, 1], [2, 4]), ([1, 5, 0, 1], [1]), ([5, 6, 0, 1, 2, 3, 4, 5, 6], [5]), ([7, 0, 1, 2, 3, 4, 5, 6, 7], [])])
def impl_WholeOf.B3 : List Nat := [0, 1, 0, 0, 8, 31, 63, 127, 255]
theorem impl_WholeOf.tab3 : rtab .any (opsOf Try.f55 3) = impl_WholeOf.T3 := z25_5
theorem impl_WholeOf.bits3 : waitsOk impl_WholeOf.T3.2 impl_WholeOf.B3 = true := z25_5
set_option maxHeartbeats 8000000 in
set_option maxRecDepth 100000 in
theorem impl_WholeOf.calls (k : Nat) (a9 : Int) (b6 : Option Addr) (b7 : Nat) (a8 : List Int) (b1 : Int) (b2 : Int) (b3 : Int) (b4 : Int) (r1 : Int) (r2 : Int) (r3 : Bool) (w : World) (d6 : Kd.C (Kd.int .i64) w b6 a8.length a8) (d7 : a8.length ≤ b7) (h : impl_WholeOf.f k a9 a8 b1 b2 b3 b4 = some (r1, r2, r3)) :
  Calls Try.prog 55 #[.agg #[.int .i64 a9, .slice b6 a8.length b7, .int .i64 b1, .int .i64 b2, .int .i64 b3, .int .i64 b4]] w fun e w' => e = .returned (.tuple #[.int .i64 r1, .int .i64 r2, .bool r3]) ∧ Below w.heap.size w w' := by
 have p3 := Try.underlying30; have b8 := z25_A d6; have b9 := z25_A d7; clear d6 d7; have HB := z25_A (Below.refl w.heap.size w); unfold impl_WholeOf.f at h; revert h; intro H; obtain ⟨r6, A2, H⟩ := zB H; by_cases c3 : r6 = true; rotate_left
 ·replace c3 := Bool.eq_false_iff.mpr c3; subst c3; rw [if_neg (show ¬ (false = true) by decide)] at H; simp only [Option.some.injEq, Prod.mk.injEq] at H; obtain ⟨rfl, rfl, rfl⟩ := H; go_enter Try.func55, Try.ntmps55; go_wp2_with (first | ((with_reducible refine gate_dst (N := 1) rfl ?_); refine box_event ?hg (N := 1) ?hd (cs := #[.int .i64 a9, .slice b6 a8.length b7, .int .i64 b1, .int .i64 b2, .int .i64 b3, .int .i64 b4]) (t := 30) ?hr ?_; (case hd => rfl); (case hg => rfl); (case hr => (go_simp; done)); intro c2 hg s5 hbox hb; have b5 := z25_A hbox; have q3 := z25_A (z25_4 : w.heap.size ≤ c2); have q4 := z25_A (z25_4 : w.heap.size ≤ c2); replace HB := z25_A (below_step HB.out hb); clear hb hbox hg; have q5 := zcf6 b5.out) | ((with_reducible refine gate_callee (f := 52) rfl ?_); refine goesL_ (some 6) rfl rfl Try.func52 z25_5 rfl #[.agg #[.int .i64 a9, .slice b6 a8.length b7, .int .i64 b1, .int .i64 b2, .int .i64 b3, .int .i64 b4]] rfl z25_2 ?_; (with_reducible refine (impl_IsProcess.calls k a9 _ _ a8 b1 b2 b3 b4 false _ ?side1 ?side2 A2.out).mono ?_); (case side1 => exact (Kd.C_below b8.out HB.out)); (case side2 => exact b9.out); rintro e s6 ⟨rfl, hb⟩; refine ⟨_, rfl, ?_⟩; replace b5 := z25_A (blk_below b5.out hb); replace HB := z25_A (below_step HB.out hb); clear hb)); go_ret3; exact ⟨by rfl, by exact HB.out⟩
 subst c3; rw [if_pos rfl] at H; obtain ⟨r7, A4, H⟩ := zB H; obtain ⟨r8, A5, H⟩ := zB H; simp only [Option.some.injEq, Prod.mk.injEq] at H; obtain ⟨rfl, rfl, rfl⟩ := H; go_enter Try.func55, Try.ntmps55; (try go_wp2_with (first | ((with_reducible refine gate_dst (N := 1) rfl ?_); refine box_event ?hg (N := 1) ?hd (cs := #[.int .i64 a9, .slice b6 a8.length b7, .int .i64 b1, .int .i64 b2, .int .i64 b3, .int .i64 b4]) (t := 30) ?hr ?_; (case hd => rfl); (case hg => rfl); (case hr => (go_simp; done)); intro c2 hg w6 hbox hb; have b5 := z25_A hbox; have q3 := z25_A (z25_4 : w.heap.size ≤ c2); have q4 := z25_A (z25_4 : w.heap.size ≤ c2); replace HB := z25_A (below_step HB.out hb); clear hb hbox hg; have h7 := zcf6 b5.out) | ((with_reducible refine gate_callee (f := 52) rfl ?_); refine goesL_ (some 6) rfl rfl Try.func52 z25_5 rfl #[.agg #[.int .i64 a9, .slice b6 a8.length b7, .int .i64 b1, .int .i64 b2, .int .i64 b3, .int .i64 b4]] rfl z25_2 ?_; (with_reducible refine (impl_IsProcess.calls k a9 _ _ a8 b1 b2 b3 b4 true _ ?side1 ?side2 A2.out).mono ?_); (case side1 => exact (Kd.C_below b8.out HB.out)); (case side2 => exact b9.out); rintro e w8 ⟨rfl, hb⟩; refine ⟨_, rfl, ?_⟩; replace b5 := z25_A (blk_below b5.out hb); replace HB := z25_A (below_step HB.out hb); clear hb))); replace b5 := z25_A (blk_drew b5.out); replace HB := z25_A (below_drew1 HB.out); refine start_ (n := 9) (S := fun w' => w'.cell? ⟨c2, 0, none⟩ = some (.int .i64 a9) ∧ w'.cell? ⟨c2, 1, none⟩ = some (.slice b6 a8.length b7) ∧ w'.cell? ⟨c2, 2, none⟩ = some (.int .i64 b1) ∧ w'.cell? ⟨c2, 3, none⟩ = some (.int .i64 b2) ∧ w'.cell? ⟨c2, 4, none⟩ = some (.int .i64 b3) ∧ w'.cell? ⟨c2, 5, none⟩ = some (.int .i64 b4)) (ds := []) #[false, false, false, false, false, false, false, false, false] z25_5 rfl rfl (zc6 b5.out) (fun hHeld => ?_); refine with_tabW impl_WholeOf.tab3 impl_WholeOf.bits3 (fun HT_ HW_ => ?_); generalize w8.drew = w9 at b5 HB hHeld ⊢; refine zP 3 11 ?_; refine zT 0 8 ?_; refine zT 2 10 ?_; refine zT 4 12 ?_; refine zO 1 9 (fun K hK => ?_); refine goes_ Try.func93 z25_5 rfl #[.agg #[.int .i64 a9, .slice b6 a8.length b7, .int .i64 b1, .int .i64 b2, .int .i64 b3, .int .i64 b4], .int .i64 1] (by rfl) rfl rfl z25_2 ?_; (with_reducible refine (impl_Process_whole.calls k a9 _ _ a8 b1 b2 b3 b4 1 r7 _ ?side1 ?side2 A4.out).mono ?_); (case side1 => exact (Kd.C_below b8.out HB.out)); (case side2 => exact b9.out); rintro e s1 ⟨rfl, hb⟩; refine ⟨_, rfl, ?_⟩; replace b5 := z25_A (blk_below b5.out hb); replace HB := z25_A (below_step HB.out hb); clear hb; refine hK.out _ _ (zc6 b5.out) (fun hHeld => ?_); clear hK K; refine zN 9 ?_; refine zO 5 13 (fun K hK => ?_); refine goes_ Try.func93 z25_5 rfl #[.agg #[.int .i64 a9, .slice b6 a8.length b7, .int .i64 b1, .int .i64 b2, .int .i64 b3, .int .i64 b4], .int .i64 a9] (by rfl) rfl rfl z25_2 ?_; (with_reducible refine (impl_Process_whole.calls k a9 _ _ a8 b1 b2 b3 b4 a9 r8 _ ?side1 ?side2 A5.out).mono ?_); (case side1 => exact (Kd.C_below b8.out HB.out)); (case side2 => exact b9.out); rintro e s2 ⟨rfl, hb⟩; refine ⟨_, rfl, ?_⟩; replace b5 := z25_A (blk_below b5.out hb); replace HB := z25_A (below_step HB.out hb); clear hb; refine hK.out _ _ (zc6 b5.out) (fun hHeld => ?_); clear hK K; refine zN 13 ?_; refine zP 6 2 ?_; refine zP 7 3 ?_; refine zP 8 4 ?_; refine zD ?_; (try go_wp2); go_ret3; exact ⟨by rfl, by exact HB.out⟩
end Go.Proofs.Ytmekmkhdhakohaa.PFnWorths
