-- A text of this session (its program hook.py, over the kit's print.py): not a print of print.sh
-- THIN: one blank for two
import Derived.Test.YtmekmkhdhakohaaPFnWorthsx0
import Derived.Test.YtmekmkhdhakohaaPFnWorthsx2
import Derived.Test.YtmekmkhdhakohaaPFnWorthsx4
import Derived.Test.YtmekmkhdhakohaaPFnWorthsx5
namespace Go.Proofs.Ytmekmkhdhakohaa.PFnWorths
open Go.RowKit Go.Proofs.YtmekmkhdhakohaaW.PrintWords Go.Proofs.YtmekmkhdhakohaaW.PrintLast Go.Proofs.YtmekmkhdhakohaaW.PrintMore
attribute [local go_sem] max2_int min2_int max_two min_two max_three min_three max_four min_four   -- for this text's walks alone
set_option linter.unusedVariables false
set_option linter.unusedSimpArgs false

-- SQUEEZED
theorem z26_A {p : Prop} (h : p) : Aside0 p := Aside0.mk h
theorem z26_1 {p : Prop} (h : p := by repeat (first | exact Drawn0.refl _ | apply Drawn0.step)) : p := h
theorem z26_2 {p : Prop} (h : p := by (with_reducible assumption)) : p := h
theorem z26_3 {p : Prop} (h : p := by (try simp only [List.map_toArray, List.map_cons, List.map_nil]); rfl) : p := h
theorem z26_4 {p : Prop} (h : p := by rw [hg]; exact (below_size HB.out)) : p := h

/-! ### spec_WholeOf: function 56 -/
def spec_WholeOf.f (k : Nat) (a : Int) (b : List Int) (c : Int) (d : Int) (e : Int) (f : Int) : Option (Int × Int × Bool) := (spec_l6Good.f k a b c d e f).bind fun g => (if g = true then ((spec_l2Sum.f k b).bind fun h => ((spec_l6Power.f k a b c d e f a).bind fun i => (some (h, i, true)))) else (some (0, 0, false)))
theorem spec_WholeOf.mono : ∀ a0 a1 a2 a3 a4 a5 k, LeO (spec_WholeOf.f k a0 a1 a2 a3 a4 a5) (spec_WholeOf.f (k + 1) a0 a1 a2 a3 a4 a5) := by
 intro a0 a1 a2 a3 a4 a5 k
 unfold spec_WholeOf.f
 repeat' with_reducible first | apply spec_l2Sum.mono | apply spec_l6Good.mono | apply spec_l6Power.mono | exact LeO.refl _ | refine LeO.ite ?_ ?_ | refine LeO.bind ?_ (fun _ => ?_)
def spec_WholeOf.T3 : Bool × List (List Nat × List Nat) := (true, [([], []), ([0], [0]), ([1], [1]), ([], []), ([], []), ([4], [4]), ([3, 5, 2], [3, 5]), ([2, 6, 0, 1, 2], [2]), ([6, 7, 0, 1, 2, 3, 4, 5, 6, 7], [6]), ([8, 0, 1, 2, 3, 4, 5, 6, 7, 8], [])])
def spec_WholeOf.B3 : List Nat := [0, 1, 3, 0, 0, 16, 63, 127, 255, 511]
theorem spec_WholeOf.tab3 : rtab .any (opsOf Try.f56 3) = spec_WholeOf.T3 := by kernel_rfl
theorem spec_WholeOf.bits3 : waitsOk spec_WholeOf.T3.2 spec_WholeOf.B3 = true := by kernel_rfl
set_option maxHeartbeats 8000000 in
set_option maxRecDepth 100000 in
theorem spec_WholeOf.calls (k : Nat) (b2 : Int) (b9 : Option Addr) (c1 : Nat) (b1 : List Int) (b4 : Int) (b5 : Int) (b6 : Int) (b7 : Int) (r1 : Int) (r2 : Int) (r3 : Bool) (w : World) (e8 : Kd.C (Kd.int .i64) w b9 b1.length b1) (e9 : b1.length ≤ c1) (h : spec_WholeOf.f k b2 b1 b4 b5 b6 b7 = some (r1, r2, r3)) :
  Calls Try.prog 56 #[.agg #[.int .i64 b2, .slice b9 b1.length c1, .int .i64 b4, .int .i64 b5, .int .i64 b6, .int .i64 b7]] w fun e w' => e = .returned (.tuple #[.int .i64 r1, .int .i64 r2, .bool r3]) ∧ Below w.heap.size w w' := by
 have p4 := Try.underlying30; have d6 := z26_A e8; have d7 := z26_A e9; clear e8 e9; have HB := z26_A (Below.refl w.heap.size w); unfold spec_WholeOf.f at h; revert h; intro H; obtain ⟨n1, A2, H⟩ := zB H; by_cases c3 : n1 = true; rotate_left
 ·replace c3 := Bool.eq_false_iff.mpr c3; subst c3; rw [if_neg (show ¬ (false = true) by decide)] at H; simp only [Option.some.injEq, Prod.mk.injEq] at H; obtain ⟨rfl, rfl, rfl⟩ := H; go_enter Try.func56, Try.ntmps56; go_wp2_with (first | ((with_reducible refine gate_dst (N := 1) rfl ?_); refine box_event ?hg (N := 1) ?hd (cs := #[.int .i64 b2, .slice b9 b1.length c1, .int .i64 b4, .int .i64 b5, .int .i64 b6, .int .i64 b7]) (t := 30) ?hr ?_; (case hd => rfl); (case hg => rfl); (case hr => (go_simp; done)); intro a9 hg p7 hbox hb; have a8 := z26_A hbox; have h3 := z26_A (z26_4 : w.heap.size ≤ a9); have h4 := z26_A (z26_4 : w.heap.size ≤ a9); replace HB := z26_A (below_step HB.out hb); clear hb hbox hg; have h9 := zcf6 a8.out) | ((with_reducible refine gate_callee (f := 83) rfl ?_); refine goesL_ (some 6) rfl rfl Try.func83 (by kernel_rfl) rfl #[.agg #[.int .i64 b2, .slice b9 b1.length c1, .int .i64 b4, .int .i64 b5, .int .i64 b6, .int .i64 b7]] rfl z26_3 ?_; (with_reducible refine (spec_l6Good.calls k b2 _ _ b1 b4 b5 b6 b7 false _ ?side1 ?side2 A2.out).mono ?_); (case side1 => exact (Kd.C_below d6.out HB.out)); (case side2 => exact d7.out); rintro e p8 ⟨rfl, hb⟩; refine ⟨_, rfl, ?_⟩; replace a8 := z26_A (blk_below a8.out hb); replace HB := z26_A (below_step HB.out hb); clear hb)); go_ret3; exact ⟨by rfl, by exact HB.out⟩
 subst c3; rw [if_pos rfl] at H; obtain ⟨n2, A4, H⟩ := zB H; obtain ⟨n3, A5, H⟩ := zB H; simp only [Option.some.injEq, Prod.mk.injEq] at H; obtain ⟨rfl, rfl, rfl⟩ := H; go_enter Try.func56, Try.ntmps56; (try go_wp2_with (first | ((with_reducible refine gate_dst (N := 1) rfl ?_); refine box_event ?hg (N := 1) ?hd (cs := #[.int .i64 b2, .slice b9 b1.length c1, .int .i64 b4, .int .i64 b5, .int .i64 b6, .int .i64 b7]) (t := 30) ?hr ?_; (case hd => rfl); (case hg => rfl); (case hr => (go_simp; done)); intro a9 hg w6 hbox hb; have a8 := z26_A hbox; have h3 := z26_A (z26_4 : w.heap.size ≤ a9); have h4 := z26_A (z26_4 : w.heap.size ≤ a9); replace HB := z26_A (below_step HB.out hb); clear hb hbox hg; have n4 := zcf6 a8.out) | ((with_reducible refine gate_callee (f := 83) rfl ?_); refine goesL_ (some 6) rfl rfl Try.func83 (by kernel_rfl) rfl #[.agg #[.int .i64 b2, .slice b9 b1.length c1, .int .i64 b4, .int .i64 b5, .int .i64 b6, .int .i64 b7]] rfl z26_3 ?_; (with_reducible refine (spec_l6Good.calls k b2 _ _ b1 b4 b5 b6 b7 true _ ?side1 ?side2 A2.out).mono ?_); (case side1 => exact (Kd.C_below d6.out HB.out)); (case side2 => exact d7.out); rintro e w8 ⟨rfl, hb⟩; refine ⟨_, rfl, ?_⟩; replace a8 := z26_A (blk_below a8.out hb); replace HB := z26_A (below_step HB.out hb); clear hb))); replace a8 := z26_A (blk_drew a8.out); replace HB := z26_A (below_drew1 HB.out); refine start_ (n := 10) (S := fun w' => w'.cell? ⟨a9, 0, none⟩ = some (.int .i64 b2) ∧ w'.cell? ⟨a9, 1, none⟩ = some (.slice b9 b1.length c1) ∧ w'.cell? ⟨a9, 2, none⟩ = some (.int .i64 b4) ∧ w'.cell? ⟨a9, 3, none⟩ = some (.int .i64 b5) ∧ w'.cell? ⟨a9, 4, none⟩ = some (.int .i64 b6) ∧ w'.cell? ⟨a9, 5, none⟩ = some (.int .i64 b7)) (ds := []) #[false, false, false, false, false, false, false, false, false, false] (by kernel_rfl) rfl rfl (zc6 a8.out) (fun hHeld => ?_); refine with_tabW spec_WholeOf.tab3 spec_WholeOf.bits3 (fun HT_ HW_ => ?_); generalize w8.drew = w9 at a8 HB hHeld ⊢; refine zP 0 8 ?_; refine zP 4 12 ?_; refine zT 1 9 ?_; refine zT 3 11 ?_; refine zT 5 13 ?_; refine zO 2 10 (fun K hK => ?_); refine goes_ Try.func100 (by kernel_rfl) rfl #[.slice b9 b1.length c1] (by rfl) rfl rfl z26_3 ?_; (with_reducible refine (spec_l2Sum.calls k _ _ b1 n2 _ ?side1 ?side2 A4.out).mono ?_); (case side1 => exact (Kd.C_below d6.out HB.out)); (case side2 => exact d7.out); rintro e w' ⟨rfl, ⟨nd, rfl⟩⟩; refine ⟨_, rfl, ?_⟩; refine hK.out _ _ (zc6 a8.out) (fun hHeld => ?_); clear hK K; refine zN 10 ?_; refine zO 6 14 (fun K hK => ?_); refine goes_ Try.func89 (by kernel_rfl) rfl #[.agg #[.int .i64 b2, .slice b9 b1.length c1, .int .i64 b4, .int .i64 b5, .int .i64 b6, .int .i64 b7], .int .i64 b2] (by rfl) rfl rfl z26_3 ?_; (with_reducible refine (spec_l6Power.calls k b2 _ _ b1 b4 b5 b6 b7 b2 n3 _ ?side1 ?side2 A5.out).mono ?_); (case side1 => exact (Kd.C_below d6.out (by repeat (with_reducible first | exact HB.out | apply pw_below_drewN)))); (case side2 => exact d7.out); rintro e p9 ⟨rfl, hb⟩; refine ⟨_, rfl, ?_⟩; replace a8 := z26_A (blk_below (g := a9) (o := .cells #[.int .i64 b2, .slice b9 b1.length c1, .int .i64 b4, .int .i64 b5, .int .i64 b6, .int .i64 b7] 30 (0, 0)) (by (with_reducible repeat (refine blk_drewN ?_ _)); exact a8.out) hb); replace HB := z26_A (below_step (by repeat (with_reducible first | exact HB.out | apply pw_below_drewN)) hb); clear hb; refine hK.out _ _ (zc6 a8.out) (fun hHeld => ?_); clear hK K; refine zN 14 ?_; refine zP 7 2 ?_; refine zP 8 3 ?_; refine zP 9 4 ?_; refine zD ?_; (try go_wp2); go_ret3; exact ⟨by rfl, by exact HB.out⟩
/-! ### impl_IsConvexFor: function 57 -/
mutual
def impl_IsConvexFor.j0 : Nat → List Int → Int → Bool → Option (Bool × Bool)
 | 0, _, _, _ => none
 | k + 1, a, b, c => if c = true then (some (false, false)) else (impl_IsConvexFor.l0 k a b (a.length : Int) 0)
def impl_IsConvexFor.l0 : Nat → List Int → Int → Int → Int → Option (Bool × Bool)
 | 0, _, _, _, _ => none
 | k + 1, a, b, c, d => if d < c then (impl_IsConvexFor.l1 k a b d (wrap64 (d + 1)) c d) else (some (true, true))
def impl_IsConvexFor.l1 : Nat → List Int → Int → Int → Int → Int → Int → Option (Bool × Bool)
 | 0, _, _, _, _, _, _ => none
 | k + 1, a, b, c, d, e, f => if d < (a.length : Int) then (impl_IsConvexFor.l2 k a b c d (wrap64 (d + 1)) e f) else (impl_IsConvexFor.l0 k a b e (wrap64 (f + 1)))
def impl_IsConvexFor.l2 : Nat → List Int → Int → Int → Int → Int → Int → Int → Option (Bool × Bool)
 | 0, _, _, _, _, _, _, _ => none
 | k + 1, a, b, c, d, e, f, g => if e < (a.length : Int) then (if 0 ≤ e then (if 0 ≤ d then (if d < (a.length : Int) then (if 0 ≤ c then (if c < (a.length : Int) then (if (wrap64 ((wrap64 (d - c)) * (wrap64 (b + (rd a e))))) < (wrap64 ((wrap64 ((wrap64 (d - c)) * (rd a d))) + (wrap64 ((wrap64 (e - d)) * (wrap64 ((rd a d) - (rd a c))))))) then (some (false, true)) else (impl_IsConvexFor.l2 k a b c d (wrap64 (e + 1)) f g)) else (none)) else (none)) else (none)) else (none)) else (none)) else (impl_IsConvexFor.l1 k a b c (wrap64 (d + 1)) f g)
end
def impl_IsConvexFor.f (k : Nat) (a : List Int) (b : Int) : Option (Bool × Bool) := if (a.length : Int) > 41 then (impl_IsConvexFor.j0 k a b true) else ((impl_allWithin.f k a (-1000000000000) 1000000000000).bind fun c => (if c = true then ((impl_within.f b 0 1000000000000).bind fun d => (impl_IsConvexFor.j0 k a b (!d))) else (impl_IsConvexFor.j0 k a b true)))
theorem impl_IsConvexFor.mono_l : ∀ k, (∀ y0 y1 y2, LeO (impl_IsConvexFor.j0 k y0 y1 y2) (impl_IsConvexFor.j0 (k + 1) y0 y1 y2)) ∧ (∀ y0 y1 y2 y3, LeO (impl_IsConvexFor.l0 k y0 y1 y2 y3) (impl_IsConvexFor.l0 (k + 1) y0 y1 y2 y3)) ∧ (∀ y0 y1 y2 y3 y4 y5, LeO (impl_IsConvexFor.l1 k y0 y1 y2 y3 y4 y5) (impl_IsConvexFor.l1 (k + 1) y0 y1 y2 y3 y4 y5)) ∧ (∀ y0 y1 y2 y3 y4 y5 y6, LeO (impl_IsConvexFor.l2 k y0 y1 y2 y3 y4 y5 y6) (impl_IsConvexFor.l2 (k + 1) y0 y1 y2 y3 y4 y5 y6))
 | 0 => by refine ⟨?_, ?_, ?_, ?_⟩ <;> intros <;> intro _ h <;> simp [impl_IsConvexFor.j0, impl_IsConvexFor.l0, impl_IsConvexFor.l1, impl_IsConvexFor.l2] at h
 | k + 1 => by
  obtain ⟨n9, o1, o2, o3⟩ := impl_IsConvexFor.mono_l k
  refine ⟨?_, ?_, ?_, ?_⟩ <;> intros <;> (first | unfold impl_IsConvexFor.j0 | unfold impl_IsConvexFor.l0 | unfold impl_IsConvexFor.l1 | unfold impl_IsConvexFor.l2) <;> repeat' with_reducible first | apply o1 | apply o2 | apply o3 | exact LeO.refl _ | refine LeO.ite ?_ ?_
theorem impl_IsConvexFor.mono : ∀ a0 a1 k, LeO (impl_IsConvexFor.f k a0 a1) (impl_IsConvexFor.f (k + 1) a0 a1) := by
 intro a0 a1 k
 obtain ⟨n9, o1, o2, o3⟩ := impl_IsConvexFor.mono_l k
 unfold impl_IsConvexFor.f
 repeat' with_reducible first | apply n9 | apply impl_allWithin.mono | exact LeO.refl _ | refine LeO.ite ?_ ?_ | refine LeO.bind ?_ (fun _ => ?_)
set_option maxHeartbeats 8000000 in
set_option maxRecDepth 100000 in
theorem impl_IsConvexFor.calls (k : Nat) (A0 : Option Addr) (c0 : Nat) (l0 : List Int) (a1 : Int) (r1 : Bool) (r2 : Bool) (w : World) (o4 : Kd.C (Kd.int .i64) w A0 l0.length l0) (o5 : l0.length ≤ c0) (h : impl_IsConvexFor.f k l0 a1 = some (r1, r2)) :
  Calls Try.prog 57 #[.slice A0 l0.length c0, .int .i64 a1] w fun e w' => e = .returned (.tuple #[.bool r1, .bool r2]) ∧ Drawn0 w w' := by
 have e3 := z26_A o4; have o6 := z26_A o5; clear o4 o5; unfold impl_IsConvexFor.f at h; revert h; intro H; have n5 := z26_A H; clear H; go_enter Try.func57, Try.ntmps57; go_upto_region 1 with (fail); go_cut [23] (fun p5 wc => ∃ (kq : Nat) (d8 : Bool), p5 = .bool d8 ∧ Aside0 (impl_IsConvexFor.j0 kq l0 a1 d8 = some (r1, r2)) ∧ Aside0 (kq ≤ k) ∧ Drawn0 w wc)
 case first =>
  have H := n5.out; clear n5; by_cases c4 : (l0.length : Int) > 41
  ·rw [if_pos c4] at H; have n6 : decide (41 < (l0.length : Int)) = true := decide_eq_true c4; have n7 : decide (41 < l0.length) = true := decide_eq_true (by omega); clear c4; have H' := z26_A H; clear H; go_wp2; go_meet; case rel => exact ⟨_, (true), (by rfl), H', ⟨by omega⟩, by exact Drawn0.refl _⟩
  rw [if_neg c4] at H; have n6 : decide (41 < (l0.length : Int)) = false := decide_eq_false c4; have n7 : decide (41 < l0.length) = false := decide_eq_false (by omega); clear c4; obtain ⟨n8, A5, H⟩ := zB H; by_cases c6 : n8 = true
  ·subst c6; rw [if_pos rfl] at H; obtain ⟨h5, A7, H⟩ := zB H; have H' := z26_A H; clear H; go_wp2_with (first | (go_at_call 87; (with_reducible refine (impl_allWithin.calls k _ _ l0 (-1000000000000) 1000000000000 true _ ?side1 ?side2 A5.out).mono ?_); (case side1 => exact e3.out); (case side2 => exact o6.out); rintro e w' ⟨rfl, ⟨nd, rfl⟩⟩) | (go_at_call 98; (with_reducible refine (impl_within.calls a1 0 1000000000000 h5 _ A7.out).mono ?_); rintro e w' ⟨rfl, ⟨nd, rfl⟩⟩)); go_meet; case rel => exact ⟨_, (!h5), (by rfl), H', ⟨by omega⟩, z26_1⟩
  replace c6 := Bool.eq_false_iff.mpr c6; subst c6; rw [if_neg (show ¬ (false = true) by decide)] at H; have H' := z26_A H; clear H; go_wp2_with (go_at_call 87; (with_reducible refine (impl_allWithin.calls k _ _ l0 (-1000000000000) 1000000000000 false _ ?side1 ?side2 A5.out).mono ?_); (case side1 => exact e3.out); (case side2 => exact o6.out); rintro e w' ⟨rfl, ⟨nd, rfl⟩⟩); go_meet; case rel => exact ⟨_, (true), (by rfl), H', ⟨by omega⟩, z26_1⟩
 case rest =>
 clear n5; obtain ⟨kq, d8, rfl, HA, g6, ⟨q1, rfl⟩⟩ := hcut; cases kq with
 | zero => exact absurd HA.out (by simp [impl_IsConvexFor.j0])
 | succ o7 => ?_
 have H := HA.out; clear HA; simp only [impl_IsConvexFor.j0] at H; by_cases c8 : d8 = true
 ·subst c8; rw [if_pos rfl] at H; simp only [Option.some.injEq, Prod.mk.injEq] at H; obtain ⟨rfl, rfl⟩ := H; go_wp2; go_ret2; exact ⟨by rfl, z26_1⟩
 replace c8 := Bool.eq_false_iff.mpr c8; subst c8; rw [if_neg (show ¬ (false = true) by decide)] at H; have H' := z26_A H; clear H; go_wp2; go_loopg [26] o7 (fun kq p6 w' => ∃ (a6 : Int), p6 = .int .i64 a6 ∧ Aside0 (impl_IsConvexFor.l0 kq l0 a1 (l0.length : Int) a6 = some (r1, r2)) ∧ Aside0 (kq ≤ o7) ∧ Drawn0 w w'); case atStart => exact ⟨(0), (by rfl), H', ⟨Nat.le_refl _⟩, z26_1⟩
 case round =>
 clear H'; obtain ⟨a6, rfl, HA, g7, ⟨m2, rfl⟩⟩ := hrel; cases gk with
 | zero => exact absurd HA.out (by simp [impl_IsConvexFor.l0])
 | succ k2 => ?_
 have H := HA.out; clear HA; simp only [impl_IsConvexFor.l0] at H; by_cases c9 : a6 < (l0.length : Int)
 ·rw [if_pos c9] at H; have h6 := decide_eq_true c9; clear c9; have H' := z26_A H; clear H; go_wp2; go_loopg [7] k2 (fun kq v7 w' => ∃ (a7 : Int), v7 = .int .i64 a7 ∧ Aside0 (impl_IsConvexFor.l1 kq l0 a1 a6 a7 (l0.length : Int) a6 = some (r1, r2)) ∧ Aside0 (kq ≤ k2) ∧ Drawn0 w w'); case atStart => exact ⟨(wrap64 (a6 + 1)), (by rfl), H', ⟨Nat.le_refl _⟩, z26_1⟩
  case round =>
  clear H' h6; obtain ⟨a7, rfl, HA, g8, ⟨m3, rfl⟩⟩ := hrel; cases gk with
  | zero => exact absurd HA.out (by simp [impl_IsConvexFor.l1])
  | succ k3 => ?_
  have H := HA.out; clear HA; simp only [impl_IsConvexFor.l1] at H; by_cases g9 : a7 < (l0.length : Int)
  ·rw [if_pos g9] at H; have g1 := decide_eq_true g9; clear g9; have H' := z26_A H; clear H; go_wp2; go_loopg [8] k3 (fun kq v8 w' => ∃ (b3 : Int), v8 = .int .i64 b3 ∧ Aside0 (impl_IsConvexFor.l2 kq l0 a1 a6 a7 b3 (l0.length : Int) a6 = some (r1, r2)) ∧ Aside0 (kq ≤ k3) ∧ Drawn0 w w'); case atStart => exact ⟨(wrap64 (a7 + 1)), (by rfl), H', ⟨Nat.le_refl _⟩, z26_1⟩
   case round =>
   clear H' g1; obtain ⟨b3, rfl, HA, m1, ⟨m4, rfl⟩⟩ := hrel; cases gk with
   | zero => exact absurd HA.out (by simp [impl_IsConvexFor.l2])
   | succ k4 => ?_
   have H := HA.out; clear HA; simp only [impl_IsConvexFor.l2] at H; by_cases h1 : b3 < (l0.length : Int); rotate_left
   ·rw [if_neg h1] at H; have h7 := decide_eq_false h1; clear h1; have H' := z26_A H; clear H; go_wp2; go_roundg k4; (case measure => have := g6.out; have := g7.out; have := g8.out; have := m1.out; omega); case rel => exact ⟨(wrap64 (a7 + 1)), (by rfl), H', ⟨by have := g6.out; have := g7.out; have := g8.out; have := m1.out; omega⟩, z26_1⟩
   rw [if_pos h1] at H; have h7 := decide_eq_true h1; clear h1; by_cases m5 : 0 ≤ b3; rotate_left
   ·rw [if_neg m5] at H; exact absurd H (by simp)
   rw [if_pos m5] at H; have o8 := decide_eq_true m5; clear m5; by_cases m6 : 0 ≤ a7; rotate_left
   ·rw [if_neg m6] at H; exact absurd H (by simp)
   rw [if_pos m6] at H; have o9 := decide_eq_true m6; clear m6; by_cases m7 : a7 < (l0.length : Int); rotate_left
   ·rw [if_neg m7] at H; exact absurd H (by simp)
   rw [if_pos m7] at H; have p1 := decide_eq_true m7; clear m7; by_cases m8 : 0 ≤ a6; rotate_left
   ·rw [if_neg m8] at H; exact absurd H (by simp)
   rw [if_pos m8] at H; have p2 := decide_eq_true m8; clear m8; by_cases m9 : a6 < (l0.length : Int); rotate_left
   ·rw [if_neg m9] at H; exact absurd H (by simp)
   rw [if_pos m9] at H; have p3 := decide_eq_true m9; clear m9; by_cases h2 : (wrap64 ((wrap64 (a7 - a6)) * (wrap64 (a1 + (rd l0 b3))))) < (wrap64 ((wrap64 ((wrap64 (a7 - a6)) * (rd l0 a7))) + (wrap64 ((wrap64 (b3 - a7)) * (wrap64 ((rd l0 a7) - (rd l0 a6)))))))
   ·rw [if_pos h2] at H; have h8 := decide_eq_true h2; clear h2; simp only [Option.some.injEq, Prod.mk.injEq] at H; obtain ⟨rfl, rfl⟩ := H; have c2 : 0 ≤ (b3 : Int) := of_decide_eq_true z26_2; have c5 : b3 < (l0.length : Int) := of_decide_eq_true z26_2; obtain ⟨b8, g2, e4⟩ := Kd.at_int e3.out b3 c2 c5; cases g2; replace c2 := eq_true c2; replace c5 := eq_true c5; have c7 : 0 ≤ (a7 : Int) := of_decide_eq_true z26_2; have d1 : a7 < (l0.length : Int) := of_decide_eq_true z26_2; obtain ⟨d9, g3, e5⟩ := Kd.at_int e3.out a7 c7 d1; obtain rfl : b8 = d9 := (by injection g3); replace c7 := eq_true c7; replace d1 := eq_true d1; have d2 : 0 ≤ (a7 : Int) := of_decide_eq_true z26_2; have d3 : a7 < (l0.length : Int) := of_decide_eq_true z26_2; obtain ⟨e1, g4, e6⟩ := Kd.at_int e3.out a7 d2 d3; obtain rfl : b8 = e1 := (by injection g4); replace d2 := eq_true d2; replace d3 := eq_true d3; have d4 : 0 ≤ (a6 : Int) := of_decide_eq_true z26_2; have d5 : a6 < (l0.length : Int) := of_decide_eq_true z26_2; obtain ⟨e2, g5, e7⟩ := Kd.at_int e3.out a6 d4 d5; obtain rfl : b8 = e2 := (by injection g5); replace d4 := eq_true d4; replace d5 := eq_true d5; go_wp2; (repeat (go_quiet (fail); try go_wp2)); go_ret2; exact ⟨by rfl, z26_1⟩
   rw [if_neg h2] at H; have h8 := decide_eq_false h2; clear h2; have H' := z26_A H; clear H; have c2 : 0 ≤ (b3 : Int) := of_decide_eq_true z26_2; have c5 : b3 < (l0.length : Int) := of_decide_eq_true z26_2; obtain ⟨b8, g2, e4⟩ := Kd.at_int e3.out b3 c2 c5; cases g2; replace c2 := eq_true c2; replace c5 := eq_true c5; have c7 : 0 ≤ (a7 : Int) := of_decide_eq_true z26_2; have d1 : a7 < (l0.length : Int) := of_decide_eq_true z26_2; obtain ⟨d9, g3, e5⟩ := Kd.at_int e3.out a7 c7 d1; obtain rfl : b8 = d9 := (by injection g3); replace c7 := eq_true c7; replace d1 := eq_true d1; have d2 : 0 ≤ (a7 : Int) := of_decide_eq_true z26_2; have d3 : a7 < (l0.length : Int) := of_decide_eq_true z26_2; obtain ⟨e1, g4, e6⟩ := Kd.at_int e3.out a7 d2 d3; obtain rfl : b8 = e1 := (by injection g4); replace d2 := eq_true d2; replace d3 := eq_true d3; have d4 : 0 ≤ (a6 : Int) := of_decide_eq_true z26_2; have d5 : a6 < (l0.length : Int) := of_decide_eq_true z26_2; obtain ⟨e2, g5, e7⟩ := Kd.at_int e3.out a6 d4 d5; obtain rfl : b8 = e2 := (by injection g5); replace d4 := eq_true d4; replace d5 := eq_true d5; go_wp2; (repeat (go_quiet (fail); try go_wp2)); go_roundg k4; (case measure => have := g6.out; have := g7.out; have := g8.out; have := m1.out; omega); case rel => exact ⟨(wrap64 (b3 + 1)), (by rfl), H', ⟨by have := g6.out; have := g7.out; have := g8.out; have := m1.out; omega⟩, z26_1⟩
  rw [if_neg g9] at H; have g1 := decide_eq_false g9; clear g9; have H' := z26_A H; clear H; go_wp2; go_roundg k3; (case measure => have := g6.out; have := g7.out; have := g8.out; omega); case rel => exact ⟨(wrap64 (a6 + 1)), (by rfl), H', ⟨by have := g6.out; have := g7.out; have := g8.out; omega⟩, z26_1⟩
 rw [if_neg c9] at H; have h6 := decide_eq_false c9; clear c9; simp only [Option.some.injEq, Prod.mk.injEq] at H; obtain ⟨rfl, rfl⟩ := H; go_wp2; go_ret2; exact ⟨by rfl, z26_1⟩
end Go.Proofs.Ytmekmkhdhakohaa.PFnWorths
