-- A text of this session (its program hook.py, over the kit's print.py): not a print of print.sh
-- THIN: one blank for two
import Derived.Test.YtmekmkhdhakohaaPFnExactPolicyWorthx0
import Derived.Test.YtmekmkhdhakohaaPFnExactPolicyWorthx3
namespace Go.Proofs.Ytmekmkhdhakohaa.PFnExactPolicyWorth
open Go.RowKit Go.Proofs.YtmekmkhdhakohaaW.PrintWords Go.Proofs.YtmekmkhdhakohaaW.PrintLast Go.Proofs.YtmekmkhdhakohaaW.PrintMore
attribute [local go_sem] max2_int min2_int max_two min_two max_three min_three max_four min_four   -- for this text's walks alone
set_option linter.unusedVariables false
set_option linter.unusedSimpArgs false

-- SQUEEZED
private theorem bcz {w : World} {g : Nat} {t : TypeId} {cs : Array Value} (h : w.heap[g]? = some (.cells cs t (0, 0))) (i : Nat) {v : Value} (e : cs[i]? = some v) : w.cell? ⟨g, i, none⟩ = some v := (blk_cell h i).trans e
private theorem F2z {P : Nat → Prop} (h : ∀ i, P i) : P 0 ∧ P 1 := ⟨h 0, h 1⟩
private theorem F4z {P : Nat → Prop} (h : ∀ i, P i) : P 0 ∧ P 1 ∧ P 2 ∧ P 3 := ⟨h 0, h 1, h 2, h 3⟩
theorem z5_A {p : Prop} (h : p) : Aside0 p := Aside0.mk h
theorem z5_C {p : Prop} (h : p := by repeat (first | exact zh | (with_reducible refine Kd.C_alloc ?_ _) | (with_reducible refine Kd.C_drewN ?_ _) | (with_reducible refine Kd.C_drew ?_))) : p := h
theorem z5_1 {p : Prop} (h : p := by repeat (first | (with_reducible first | exact HB.out | apply below_alloc | apply pw_below_drewN | apply below_drew1) | exact HB.out)) : p := h
theorem z5_2 {p : Prop} (h : p := by repeat (first | (with_reducible first | exact HB.out | apply below_alloc | apply pw_below_drewN | apply below_drew1 | refine below_set ?_ GE156.out) | exact HB.out)) : p := h
theorem z5_3 {p : Prop} (h : p := by first | rfl | (simp [errW_none, errW_some] <;> rfl) | (simp [*, errW_none, errW_some] <;> rfl)) : p := h
theorem z5_4 {p : Prop} (h : p := by (try simp only [List.map_toArray, List.map_cons, List.map_nil]); first | done | rfl | (simp only [List.length_drop, List.length_take]; rfl)) : p := h
theorem z5_5 {p : Prop} (h : p := by repeat (first | (with_reducible first | exact HB.out | apply below_alloc | apply pw_below_drewN | apply below_drew1 | refine below_set ?_ GE149.out) | exact HB.out)) : p := h
theorem z5_6 {p : Prop} (h : p := by (with_reducible repeat (first | refine blk_drewN ?_ _ | refine blk_drew ?_ | refine blk_alloc ?_ _)); exact BK149.out) : p := h
theorem z5_7 {p : Prop} (h : p := by rw [hg]; exact (below_size z5_1)) : p := h
theorem z5_8 {p : Prop} (h : p := by repeat (first | (with_reducible first | exact HB.out | apply below_alloc | apply pw_below_drewN | apply below_drew1 | refine below_set ?_ GE149.out | refine below_set ?_ GE150.out) | exact HB.out)) : p := h
theorem z5_9 {p : Prop} (h : p := by first | rfl | (simp; done) | (simp [*]; done)) : p := h
theorem z5_10 {p : Prop} (h : p := by rw [hg]; exact Nat.ne_of_lt (blk_lt (g := gb149) (o := .cells #[.int .i64 a0_0, .slice A0_1 l0_1.length c0_1, .int .i64 a0_2, .int .i64 a0_3, .int .i64 a0_4, .int .i64 a0_5] 30 (0, 0)) z5_6)) : p := h
theorem z5_11 {p : Prop} (h : p := by rw [hg]; exact Nat.ne_of_gt (blk_lt (g := gb149) (o := .cells #[.int .i64 a0_0, .slice A0_1 l0_1.length c0_1, .int .i64 a0_2, .int .i64 a0_3, .int .i64 a0_4, .int .i64 a0_5] 30 (0, 0)) z5_6)) : p := h
theorem z5_12 {p : Prop} (h : p := by rw [if_neg (show ¬ (false = true) by decide)] at H; exact H) : p := h
theorem z5_13 {p : Prop} (h : p := by repeat (first | exact Drawn0.refl _ | apply Drawn0.step)) : p := h
theorem z5_14 {p : Prop} (h : p := by repeat (first | (with_reducible first | exact HB.out | apply below_alloc | apply pw_below_drewN | apply below_drew1 | refine below_set ?_ GE165.out) | exact HB.out)) : p := h
theorem z5_15 {p : Prop} (h : p := by first | (with_reducible assumption) | assumption) : p := h
theorem z5_16 {p : Prop} (h : p := by rw [if_pos rfl] at H; exact H) : p := h
theorem z5_17 {p : Prop} (h : p := by repeat (first | (with_reducible first | exact HB.out | apply below_alloc | apply pw_below_drewN | apply below_drew1 | refine below_set ?_ GE167.out) | exact HB.out)) : p := h
theorem z5_18 {p : Prop} (h : p := by repeat (first | (with_reducible first | exact HB.out | apply below_alloc | apply pw_below_drewN | apply below_drew1 | refine below_set ?_ GE152.out) | exact HB.out)) : p := h
theorem z5_19 {p : Prop} (h : p := by rw [hg]; exact (below_size z5_5)) : p := h
theorem z5_20 {p : Prop} (h : p := by (with_reducible repeat (first | refine blk_drewN ?_ _ | refine blk_drew ?_ | refine blk_alloc ?_ _)); exact BK165.out) : p := h
theorem z5_21 {p : Prop} (h : p := by (with_reducible repeat (first | refine blk_drewN ?_ _ | refine blk_drew ?_ | refine blk_alloc ?_ _)); exact BK150.out) : p := h
theorem z5_22 {p : Prop} (h : p := by kernel_rfl) : p := h

/-! ### spec_l6Up: function 67 -/
def spec_l6Up.f (a0_0 : Int) (l0_1 : List Int) (a0_2 : Int) (a0_3 : Int) (a0_4 : Int) (a0_5 : Int) (a1_0 : Int) (a1_1 : Int) (a2 : Int) : Option (Int) := if a2 < a1_0 then (some a1_1) else ((spec_l6Floor.f a0_0 l0_1 a0_2 a0_3 a0_4 a0_5).bind fun t151 => (if a2 < t151 then (some a1_1) else (some a2)))
set_option maxHeartbeats 8000000 in
set_option maxRecDepth 100000 in
theorem spec_l6Up.calls (a0_0 : Int) (A0_1 : Option Addr) (c0_1 : Nat) (l0_1 : List Int) (a0_2 : Int) (a0_3 : Int) (a0_4 : Int) (a0_5 : Int) (a1_0 : Int) (a1_1 : Int) (a2 : Int) (r : Int) (w : World) (hr0_1 : Kd.C (Kd.int .i64) w A0_1 l0_1.length l0_1) (hc0_1 : l0_1.length ≤ c0_1) (h : spec_l6Up.f a0_0 l0_1 a0_2 a0_3 a0_4 a0_5 a1_0 a1_1 a2 = some r) :
  Calls Try.prog 67 #[.agg #[.int .i64 a0_0, .slice A0_1 l0_1.length c0_1, .int .i64 a0_2, .int .i64 a0_3, .int .i64 a0_4, .int .i64 a0_5], .agg #[.int .i64 a1_0, .int .i64 a1_1], .int .i64 a2] w fun e w' => e = .returned (.int .i64 r) ∧ Below w.heap.size w w' := by
 have hu30 := Try.underlying30
 have hu72 := Try.underlying72
 have HR0_1 := z5_A hr0_1
 have HC0_1 := z5_A hc0_1
 clear hr0_1 hc0_1
 have HB := z5_A (Below.refl w.heap.size w)
 have H : (if a2 < a1_0 then (some a1_1) else ((spec_l6Floor.f a0_0 l0_1 a0_2 a0_3 a0_4 a0_5).bind fun t151 => (if a2 < t151 then (some a1_1) else (some a2)))) = some r := h
 clear h
 by_cases c4 : a2 < a1_0
 ·rw [if_pos c4] at H
  have c4b0 : decide (a2 < a1_0) = true := decide_eq_true c4
  clear c4
  obtain rfl := Option.some.inj H
  go_enter Try.func67, Try.ntmps67
  go_wp2_with (first | ((with_reducible refine gate_dst (N := 3) rfl ?_); refine box_event ?hg (N := 3) ?hd (cs := #[.int .i64 a0_0, .slice A0_1 l0_1.length c0_1, .int .i64 a0_2, .int .i64 a0_3, .int .i64 a0_4, .int .i64 a0_5]) (t := 30) ?hr ?_; (case hd => rfl); (case hg => rfl); (case hr => first | (go_simp; done) | (go_simp; rfl)); intro gb149 hg w5 hbox hb; have n0_ := z5_A (below_step z5_1 hb); have n1_ := z5_A (hbox); have n2_ := z5_A ((z5_7 : w.heap.size ≤ gb149)); have n3_ := z5_A ((z5_7 : w.heap.size ≤ gb149)); clear HB; revert n0_ n1_ n2_ n3_; intro HB BK149 GW149 GE149; clear hb hbox hg) | ((with_reducible refine gate_dst (N := 4) rfl ?_); refine box_event ?hg (N := 4) ?hd (cs := #[.int .i64 a1_0, .int .i64 a1_1]) (t := 72) ?hr ?_; (case hd => rfl); (case hg => rfl); (case hr => first | (go_simp; done) | (go_simp; rfl)); intro gb150 hg w6 hbox hb; have n0_ := z5_A (blk_below (g := gb149) (o := .cells #[.int .i64 a0_0, .slice A0_1 l0_1.length c0_1, .int .i64 a0_2, .int .i64 a0_3, .int .i64 a0_4, .int .i64 a0_5] 30 (0, 0)) z5_6 hb); have n1_ := z5_A (below_step z5_5 hb); have n2_ := z5_A (hbox); have n3_ := z5_A ((z5_19 : w.heap.size ≤ gb150)); have n4_ := z5_A ((z5_19 : w.heap.size ≤ gb150)); have n5_ := z5_A ((z5_10 : gb149 ≠ gb150)); have n6_ := z5_A ((z5_11 : gb150 ≠ gb149)); clear BK149 HB; revert n0_ n1_ n2_ n3_ n4_ n5_ n6_; intro BK149 HB BK150 GW150 GE150 NB149_150 NB150_149; clear hb hbox hg; have hnb7 := NB150_149.out; have hnc7 := NB149_150.out; have hcz8_0 : w6.cell? ⟨gb150, 0, none⟩ = some (.int .i64 a1_0) := bcz BK150.out 0 rfl; have hcz8_1 : w6.cell? ⟨gb150, 1, none⟩ = some (.int .i64 a1_1) := bcz BK150.out 1 rfl; obtain ⟨hfz8_0, hfz8_1⟩ := F2z (blk_frozen BK150.out)))
  go_ret
  exact ⟨z5_3, z5_8⟩
 ·rw [if_neg c4] at H
  have c4b0 : decide (a2 < a1_0) = false := decide_eq_false c4
  clear c4
  replace H := Option.bind_eq_some_iff.mp H
  obtain ⟨t151, A90, H⟩ := H
  (try dsimp only at H)
  have A9 := z5_A A90
  clear A90
  by_cases c10 : a2 < t151
  ·rw [if_pos c10] at H
   have c10b0 : decide (a2 < t151) = true := decide_eq_true c10
   clear c10
   obtain rfl := Option.some.inj H
   go_enter Try.func67, Try.ntmps67
   go_wp2_with (first | ((with_reducible refine gate_dst (N := 3) rfl ?_); refine box_event ?hg (N := 3) ?hd (cs := #[.int .i64 a0_0, .slice A0_1 l0_1.length c0_1, .int .i64 a0_2, .int .i64 a0_3, .int .i64 a0_4, .int .i64 a0_5]) (t := 30) ?hr ?_; (case hd => rfl); (case hg => rfl); (case hr => first | (go_simp; done) | (go_simp; rfl)); intro gb149 hg w11 hbox hb; have n0_ := z5_A (below_step z5_1 hb); have n1_ := z5_A (hbox); have n2_ := z5_A ((z5_7 : w.heap.size ≤ gb149)); have n3_ := z5_A ((z5_7 : w.heap.size ≤ gb149)); clear HB; revert n0_ n1_ n2_ n3_; intro HB BK149 GW149 GE149; clear hb hbox hg) | ((with_reducible refine gate_dst (N := 4) rfl ?_); refine box_event ?hg (N := 4) ?hd (cs := #[.int .i64 a1_0, .int .i64 a1_1]) (t := 72) ?hr ?_; (case hd => rfl); (case hg => rfl); (case hr => first | (go_simp; done) | (go_simp; rfl)); intro gb150 hg w12 hbox hb; have n0_ := z5_A (blk_below (g := gb149) (o := .cells #[.int .i64 a0_0, .slice A0_1 l0_1.length c0_1, .int .i64 a0_2, .int .i64 a0_3, .int .i64 a0_4, .int .i64 a0_5] 30 (0, 0)) z5_6 hb); have n1_ := z5_A (below_step z5_5 hb); have n2_ := z5_A (hbox); have n3_ := z5_A ((z5_19 : w.heap.size ≤ gb150)); have n4_ := z5_A ((z5_19 : w.heap.size ≤ gb150)); have n5_ := z5_A ((z5_10 : gb149 ≠ gb150)); have n6_ := z5_A ((z5_11 : gb150 ≠ gb149)); clear BK149 HB; revert n0_ n1_ n2_ n3_ n4_ n5_ n6_; intro BK149 HB BK150 GW150 GE150 NB149_150 NB150_149; clear hb hbox hg; have hnb13 := NB150_149.out; have hnc13 := NB149_150.out; have hcz14_0 : w12.cell? ⟨gb150, 0, none⟩ = some (.int .i64 a1_0) := bcz BK150.out 0 rfl; have hcz14_1 : w12.cell? ⟨gb150, 1, none⟩ = some (.int .i64 a1_1) := bcz BK150.out 1 rfl; obtain ⟨hfz14_0, hfz14_1⟩ := F2z (blk_frozen BK150.out); have hcz15_0 : w12.cell? ⟨gb149, 0, none⟩ = some (.int .i64 a0_0) := bcz BK149.out 0 rfl; have hcz15_1 : w12.cell? ⟨gb149, 1, none⟩ = some (.slice A0_1 l0_1.length c0_1) := bcz BK149.out 1 rfl; have hcz15_2 : w12.cell? ⟨gb149, 2, none⟩ = some (.int .i64 a0_2) := bcz BK149.out 2 rfl; have hcz15_3 : w12.cell? ⟨gb149, 3, none⟩ = some (.int .i64 a0_3) := bcz BK149.out 3 rfl; have hcz15_4 : w12.cell? ⟨gb149, 4, none⟩ = some (.int .i64 a0_4) := bcz BK149.out 4 rfl; have hcz15_5 : w12.cell? ⟨gb149, 5, none⟩ = some (.int .i64 a0_5) := bcz BK149.out 5 rfl; obtain ⟨hfz15_0, hfz15_1, hfz15_2, hfz15_3⟩ := F4z (blk_frozen BK149.out); have hfz15_4 := blk_frozen BK149.out 4; have hfz15_5 := blk_frozen BK149.out 5) | (go_at_call 106; (with_reducible refine (spec_l6Floor.calls a0_0 _ _ l0_1 a0_2 a0_3 a0_4 a0_5 t151 _ ?side1 ?side2 A9.out).mono ?_); (case side1 => have zh := (Kd.C_below HR0_1.out HB.out); exact z5_C); (case side2 => exact HC0_1.out); rintro e w16 ⟨rfl, hb⟩; have n0_ := z5_A (blk_below (g := gb149) (o := .cells #[.int .i64 a0_0, .slice A0_1 l0_1.length c0_1, .int .i64 a0_2, .int .i64 a0_3, .int .i64 a0_4, .int .i64 a0_5] 30 (0, 0)) z5_6 hb); have n1_ := z5_A (blk_below (g := gb150) (o := .cells #[.int .i64 a1_0, .int .i64 a1_1] 72 (0, 0)) z5_21 hb); have n2_ := z5_A (below_step z5_8 hb); clear BK149 BK150 HB; revert n0_ n1_ n2_; intro BK149 BK150 HB; (try clear hb); (try clear hb2); (try clear hk); (try clear hi); have hcz17_0 : w16.cell? ⟨gb150, 0, none⟩ = some (.int .i64 a1_0) := bcz BK150.out 0 rfl; have hcz17_1 : w16.cell? ⟨gb150, 1, none⟩ = some (.int .i64 a1_1) := bcz BK150.out 1 rfl; obtain ⟨hfz17_0, hfz17_1⟩ := F2z (blk_frozen BK150.out)))
   go_ret
   exact ⟨z5_3, z5_8⟩
  ·rw [if_neg c10] at H
   have c10b0 : decide (a2 < t151) = false := decide_eq_false c10
   clear c10
   obtain rfl := Option.some.inj H
   go_enter Try.func67, Try.ntmps67
   go_wp2_with (first | ((with_reducible refine gate_dst (N := 3) rfl ?_); refine box_event ?hg (N := 3) ?hd (cs := #[.int .i64 a0_0, .slice A0_1 l0_1.length c0_1, .int .i64 a0_2, .int .i64 a0_3, .int .i64 a0_4, .int .i64 a0_5]) (t := 30) ?hr ?_; (case hd => rfl); (case hg => rfl); (case hr => first | (go_simp; done) | (go_simp; rfl)); intro gb149 hg w18 hbox hb; have n0_ := z5_A (below_step z5_1 hb); have n1_ := z5_A (hbox); have n2_ := z5_A ((z5_7 : w.heap.size ≤ gb149)); have n3_ := z5_A ((z5_7 : w.heap.size ≤ gb149)); clear HB; revert n0_ n1_ n2_ n3_; intro HB BK149 GW149 GE149; clear hb hbox hg) | ((with_reducible refine gate_dst (N := 4) rfl ?_); refine box_event ?hg (N := 4) ?hd (cs := #[.int .i64 a1_0, .int .i64 a1_1]) (t := 72) ?hr ?_; (case hd => rfl); (case hg => rfl); (case hr => first | (go_simp; done) | (go_simp; rfl)); intro gb150 hg w19 hbox hb; have n0_ := z5_A (blk_below (g := gb149) (o := .cells #[.int .i64 a0_0, .slice A0_1 l0_1.length c0_1, .int .i64 a0_2, .int .i64 a0_3, .int .i64 a0_4, .int .i64 a0_5] 30 (0, 0)) z5_6 hb); have n1_ := z5_A (below_step z5_5 hb); have n2_ := z5_A (hbox); have n3_ := z5_A ((z5_19 : w.heap.size ≤ gb150)); have n4_ := z5_A ((z5_19 : w.heap.size ≤ gb150)); have n5_ := z5_A ((z5_10 : gb149 ≠ gb150)); have n6_ := z5_A ((z5_11 : gb150 ≠ gb149)); clear BK149 HB; revert n0_ n1_ n2_ n3_ n4_ n5_ n6_; intro BK149 HB BK150 GW150 GE150 NB149_150 NB150_149; clear hb hbox hg; have hnb20 := NB150_149.out; have hnc20 := NB149_150.out; have hcz21_0 : w19.cell? ⟨gb150, 0, none⟩ = some (.int .i64 a1_0) := bcz BK150.out 0 rfl; have hcz21_1 : w19.cell? ⟨gb150, 1, none⟩ = some (.int .i64 a1_1) := bcz BK150.out 1 rfl; obtain ⟨hfz21_0, hfz21_1⟩ := F2z (blk_frozen BK150.out); have hcz22_0 : w19.cell? ⟨gb149, 0, none⟩ = some (.int .i64 a0_0) := bcz BK149.out 0 rfl; have hcz22_1 : w19.cell? ⟨gb149, 1, none⟩ = some (.slice A0_1 l0_1.length c0_1) := bcz BK149.out 1 rfl; have hcz22_2 : w19.cell? ⟨gb149, 2, none⟩ = some (.int .i64 a0_2) := bcz BK149.out 2 rfl; have hcz22_3 : w19.cell? ⟨gb149, 3, none⟩ = some (.int .i64 a0_3) := bcz BK149.out 3 rfl; have hcz22_4 : w19.cell? ⟨gb149, 4, none⟩ = some (.int .i64 a0_4) := bcz BK149.out 4 rfl; have hcz22_5 : w19.cell? ⟨gb149, 5, none⟩ = some (.int .i64 a0_5) := bcz BK149.out 5 rfl; obtain ⟨hfz22_0, hfz22_1, hfz22_2, hfz22_3⟩ := F4z (blk_frozen BK149.out); have hfz22_4 := blk_frozen BK149.out 4; have hfz22_5 := blk_frozen BK149.out 5) | (go_at_call 106; (with_reducible refine (spec_l6Floor.calls a0_0 _ _ l0_1 a0_2 a0_3 a0_4 a0_5 t151 _ ?side1 ?side2 A9.out).mono ?_); (case side1 => have zh := (Kd.C_below HR0_1.out HB.out); exact z5_C); (case side2 => exact HC0_1.out); rintro e w23 ⟨rfl, hb⟩; have n0_ := z5_A (blk_below (g := gb149) (o := .cells #[.int .i64 a0_0, .slice A0_1 l0_1.length c0_1, .int .i64 a0_2, .int .i64 a0_3, .int .i64 a0_4, .int .i64 a0_5] 30 (0, 0)) z5_6 hb); have n1_ := z5_A (blk_below (g := gb150) (o := .cells #[.int .i64 a1_0, .int .i64 a1_1] 72 (0, 0)) z5_21 hb); have n2_ := z5_A (below_step z5_8 hb); clear BK149 BK150 HB; revert n0_ n1_ n2_; intro BK149 BK150 HB; (try clear hb); (try clear hb2); (try clear hk); (try clear hi)))
   go_ret
   exact ⟨z5_3, z5_8⟩

/-! ### spec_l6Order: function 68 -/
def spec_l6Order.f (a0_0 : Int) (l0_1 : List Int) (a0_2 : Int) (a0_3 : Int) (a0_4 : Int) (a0_5 : Int) (a1 : Int) (a2 : Int) : Option (Int) := if a2 > a1 then (some (wrap64 (a0_2 + (wrap64 (a0_3 * (wrap64 (a2 - a1))))))) else (some 0)
set_option maxHeartbeats 8000000 in
set_option maxRecDepth 100000 in
theorem spec_l6Order.calls (a0_0 : Int) (A0_1 : Option Addr) (c0_1 : Nat) (l0_1 : List Int) (a0_2 : Int) (a0_3 : Int) (a0_4 : Int) (a0_5 : Int) (a1 : Int) (a2 : Int) (r : Int) (w : World) (hr0_1 : Kd.C (Kd.int .i64) w A0_1 l0_1.length l0_1) (hc0_1 : l0_1.length ≤ c0_1) (h : spec_l6Order.f a0_0 l0_1 a0_2 a0_3 a0_4 a0_5 a1 a2 = some r) :
  Calls Try.prog 68 #[.agg #[.int .i64 a0_0, .slice A0_1 l0_1.length c0_1, .int .i64 a0_2, .int .i64 a0_3, .int .i64 a0_4, .int .i64 a0_5], .int .i64 a1, .int .i64 a2] w fun e w' => e = .returned (.int .i64 r) ∧ Below w.heap.size w w' := by
 have hu30 := Try.underlying30
 have HR0_1 := z5_A hr0_1
 have HC0_1 := z5_A hc0_1
 clear hr0_1 hc0_1
 have HB := z5_A (Below.refl w.heap.size w)
 have H : (if a2 > a1 then (some (wrap64 (a0_2 + (wrap64 (a0_3 * (wrap64 (a2 - a1))))))) else (some 0)) = some r := h
 clear h
 by_cases c4 : a2 > a1
 ·rw [if_pos c4] at H
  have c4b0 : decide (a1 < a2) = true := decide_eq_true c4
  clear c4
  obtain rfl := Option.some.inj H
  go_enter Try.func68, Try.ntmps68
  go_wp2_with (first | ((with_reducible refine gate_dst (N := 3) rfl ?_); refine box_event ?hg (N := 3) ?hd (cs := #[.int .i64 a0_0, .slice A0_1 l0_1.length c0_1, .int .i64 a0_2, .int .i64 a0_3, .int .i64 a0_4, .int .i64 a0_5]) (t := 30) ?hr ?_; (case hd => rfl); (case hg => rfl); (case hr => first | (go_simp; done) | (go_simp; rfl)); intro gb152 hg w5 hbox hb; have n0_ := z5_A (below_step z5_1 hb); have n1_ := z5_A (hbox); have n2_ := z5_A ((z5_7 : w.heap.size ≤ gb152)); have n3_ := z5_A ((z5_7 : w.heap.size ≤ gb152)); clear HB; revert n0_ n1_ n2_ n3_; intro HB BK152 GW152 GE152; clear hb hbox hg; have hcz6_0 : w5.cell? ⟨gb152, 0, none⟩ = some (.int .i64 a0_0) := bcz BK152.out 0 rfl; have hcz6_1 : w5.cell? ⟨gb152, 1, none⟩ = some (.slice A0_1 l0_1.length c0_1) := bcz BK152.out 1 rfl; have hcz6_2 : w5.cell? ⟨gb152, 2, none⟩ = some (.int .i64 a0_2) := bcz BK152.out 2 rfl; have hcz6_3 : w5.cell? ⟨gb152, 3, none⟩ = some (.int .i64 a0_3) := bcz BK152.out 3 rfl; have hcz6_4 : w5.cell? ⟨gb152, 4, none⟩ = some (.int .i64 a0_4) := bcz BK152.out 4 rfl; have hcz6_5 : w5.cell? ⟨gb152, 5, none⟩ = some (.int .i64 a0_5) := bcz BK152.out 5 rfl; obtain ⟨hfz6_0, hfz6_1, hfz6_2, hfz6_3⟩ := F4z (blk_frozen BK152.out); have hfz6_4 := blk_frozen BK152.out 4; have hfz6_5 := blk_frozen BK152.out 5))
  go_ret
  exact ⟨z5_3, z5_18⟩
 ·rw [if_neg c4] at H
  have c4b0 : decide (a1 < a2) = false := decide_eq_false c4
  clear c4
  obtain rfl := Option.some.inj H
  go_enter Try.func68, Try.ntmps68
  go_wp2_with (first | ((with_reducible refine gate_dst (N := 3) rfl ?_); refine box_event ?hg (N := 3) ?hd (cs := #[.int .i64 a0_0, .slice A0_1 l0_1.length c0_1, .int .i64 a0_2, .int .i64 a0_3, .int .i64 a0_4, .int .i64 a0_5]) (t := 30) ?hr ?_; (case hd => rfl); (case hg => rfl); (case hr => first | (go_simp; done) | (go_simp; rfl)); intro gb152 hg w7 hbox hb; have n0_ := z5_A (below_step z5_1 hb); have n1_ := z5_A (hbox); have n2_ := z5_A ((z5_7 : w.heap.size ≤ gb152)); have n3_ := z5_A ((z5_7 : w.heap.size ≤ gb152)); clear HB; revert n0_ n1_ n2_ n3_; intro HB BK152 GW152 GE152; clear hb hbox hg))
  go_ret
  exact ⟨z5_3, z5_18⟩

/-! ### spec_l2Sum: function 100 -/
def spec_l2Sum.l0 : Nat → List Int → Int → Int → Option (Int)
 | 0, _, _, _ => none
 | k + 1, x0, x3, x4 => if x4 < (x0.length : Int) then (if 0 ≤ x4 then (spec_l2Sum.l0 k x0 (wrap64 (x3 + (rd x0 x4))) (wrap64 (x4 + 1))) else (none)) else (some x3)
def spec_l2Sum.f (k : Nat) (l0 : List Int) : Option (Int) := spec_l2Sum.l0 k l0 0 0
theorem spec_l2Sum.mono_l : ∀ k, (∀ y0 y1 y2, LeO (spec_l2Sum.l0 k y0 y1 y2) (spec_l2Sum.l0 (k + 1) y0 y1 y2))
 | 0 => fun _ _ _ r h => by simp [spec_l2Sum.l0] at h
 | k + 1 => by
  have ih0 := spec_l2Sum.mono_l k
  ·intro y0 y1 y2
   unfold spec_l2Sum.l0
   repeat' first
   | (with_reducible exact ih0 _ _ _)
   | (with_reducible exact LeO.refl _)
   | (with_reducible exact LeO.none _)
   | (with_reducible refine LeO.ite ?_ ?_)
   | (with_reducible refine LeO.bind ?_ (fun _ => ?_))
   | exact ih0 _ _ _
   | exact LeO.none _
   | refine LeO.ite ?_ ?_
   | refine LeO.bind ?_ (fun _ => ?_)
theorem spec_l2Sum.mono : ∀ a0 k, LeO (spec_l2Sum.f k a0) (spec_l2Sum.f (k + 1) a0) := by
 intro a0 k
 have ih0 := spec_l2Sum.mono_l k
 unfold spec_l2Sum.f
 repeat' first
   | (with_reducible exact ih0 _ _ _)
   | (with_reducible exact LeO.refl _)
   | (with_reducible exact LeO.none _)
   | (with_reducible refine LeO.ite ?_ ?_)
   | (with_reducible refine LeO.bind ?_ (fun _ => ?_))
   | exact ih0 _ _ _
   | exact LeO.none _
   | refine LeO.ite ?_ ?_
   | refine LeO.bind ?_ (fun _ => ?_)
set_option maxHeartbeats 8000000 in
set_option maxRecDepth 100000 in
theorem spec_l2Sum.calls (k : Nat) (A0 : Option Addr) (c0 : Nat) (l0 : List Int) (r : Int) (w : World) (hr0 : Kd.C (Kd.int .i64) w A0 l0.length l0) (hc0 : l0.length ≤ c0) (h : spec_l2Sum.f k l0 = some r) :
  Calls Try.prog 100 #[.slice A0 l0.length c0] w fun e w' => e = .returned (.int .i64 r) ∧ Drawn0 w w' := by
 have HR0 := z5_A hr0
 have HC0 := z5_A hc0
 clear hr0 hc0
 have H : (spec_l2Sum.l0 k l0 0 0) = some r := h
 clear h
 have H' := z5_A H
 clear H
 go_enter Try.func100, Try.ntmps100
 go_wp2
 go_loopg [3, 4] k (fun kq v3 v4 w' => ∃ (x3_1 : Int) (x4_1 : Int), v3 = .int .i64 x3_1 ∧ v4 = .int .i64 x4_1 ∧ Aside0 (spec_l2Sum.l0 kq l0 x3_1 x4_1 = some r) ∧ Aside0 (kq ≤ k) ∧ Drawn0 w w')
 case atStart => exact ⟨(0), (0), z5_9, z5_9, H', ⟨Nat.le_refl _⟩, z5_13⟩
 case round =>
  clear H'
  try clear c1
  obtain ⟨x3_1, x4_1, rfl, rfl, HA, HK1, ⟨m1, rfl⟩⟩ := hrel
  cases gk with
  | zero => exact absurd HA.out (by simp [spec_l2Sum.l0])
  | succ k1 =>
   have H := HA.out
   clear HA
   simp only [spec_l2Sum.l0] at H
   by_cases c2 : x4_1 < (l0.length : Int)
   ·rw [if_pos c2] at H
    have c2b0 : decide (x4_1 < (l0.length : Int)) = true := decide_eq_true c2
    clear c2
    by_cases c3 : 0 ≤ x4_1
    ·rw [if_pos c3] at H
     have c3b0 : decide (0 ≤ x4_1) = true := decide_eq_true c3
     clear c3
     have H' := z5_A H
     clear H
     have p153 : 0 ≤ (x4_1 : Int) := of_decide_eq_true z5_15
     have q153 : x4_1 < (l0.length : Int) := of_decide_eq_true z5_15
     obtain ⟨ad153, e153, hx153_0⟩ := Kd.at_int HR0.out x4_1 p153 q153
     cases e153
     replace p153 := eq_true p153
     replace q153 := eq_true q153
     go_wp2
     go_roundg k1
     case measure => have := HK1.out; omega
     case rel => exact ⟨(wrap64 (x3_1 + (rd l0 x4_1))), (wrap64 (x4_1 + 1)), z5_9, z5_9, H', ⟨by have := HK1.out; omega⟩, z5_13⟩
    ·rw [if_neg c3] at H
     exact absurd H (by simp)
   ·rw [if_neg c2] at H
    have c2b0 : decide (x4_1 < (l0.length : Int)) = false := decide_eq_false c2
    clear c2
    obtain rfl := Option.some.inj H
    go_wp2
    go_ret
    exact ⟨z5_9, z5_13⟩

/-! ### spec_l2Row: function 110 -/
def spec_l2Row.l0 : Nat → List Int → Int → Int → Int → Option (Bool)
 | 0, _, _, _, _ => none
 | k + 1, x0, x1, x2, x7 => if x7 < (x0.length : Int) then (if 0 ≤ x7 then ((spec_l1In.f (rd x0 x7) 0 x2).bind fun t155 => (if t155 = true then (spec_l2Row.l0 k x0 x1 x2 (wrap64 (x7 + 1))) else (some false))) else (none)) else (some ((x0.length : Int) == x1))
def spec_l2Row.f (k : Nat) (l0 : List Int) (a1 : Int) (a2 : Int) : Option (Bool) := spec_l2Row.l0 k l0 a1 a2 0
theorem spec_l2Row.mono_l : ∀ k, (∀ y0 y1 y2 y3, LeO (spec_l2Row.l0 k y0 y1 y2 y3) (spec_l2Row.l0 (k + 1) y0 y1 y2 y3))
 | 0 => fun _ _ _ _ r h => by simp [spec_l2Row.l0] at h
 | k + 1 => by
  have ih0 := spec_l2Row.mono_l k
  ·intro y0 y1 y2 y3
   unfold spec_l2Row.l0
   repeat' first
   | (with_reducible exact ih0 _ _ _ _)
   | (with_reducible exact LeO.refl _)
   | (with_reducible exact LeO.none _)
   | (with_reducible refine LeO.ite ?_ ?_)
   | (with_reducible refine LeO.bind ?_ (fun _ => ?_))
   | exact ih0 _ _ _ _
   | exact LeO.none _
   | refine LeO.ite ?_ ?_
   | refine LeO.bind ?_ (fun _ => ?_)
theorem spec_l2Row.mono : ∀ a0 a1 a2 k, LeO (spec_l2Row.f k a0 a1 a2) (spec_l2Row.f (k + 1) a0 a1 a2) := by
 intro a0 a1 a2 k
 have ih0 := spec_l2Row.mono_l k
 unfold spec_l2Row.f
 repeat' first
   | (with_reducible exact ih0 _ _ _ _)
   | (with_reducible exact LeO.refl _)
   | (with_reducible exact LeO.none _)
   | (with_reducible refine LeO.ite ?_ ?_)
   | (with_reducible refine LeO.bind ?_ (fun _ => ?_))
   | exact ih0 _ _ _ _
   | exact LeO.none _
   | refine LeO.ite ?_ ?_
   | refine LeO.bind ?_ (fun _ => ?_)
set_option maxHeartbeats 8000000 in
set_option maxRecDepth 100000 in
theorem spec_l2Row.calls (k : Nat) (A0 : Option Addr) (c0 : Nat) (l0 : List Int) (a1 : Int) (a2 : Int) (r : Bool) (w : World) (hr0 : Kd.C (Kd.int .i64) w A0 l0.length l0) (hc0 : l0.length ≤ c0) (h : spec_l2Row.f k l0 a1 a2 = some r) :
  Calls Try.prog 110 #[.slice A0 l0.length c0, .int .i64 a1, .int .i64 a2] w fun e w' => e = .returned (.bool r) ∧ Drawn0 w w' := by
 have HR0 := z5_A hr0
 have HC0 := z5_A hc0
 clear hr0 hc0
 have H : (spec_l2Row.l0 k l0 a1 a2 0) = some r := h
 clear h
 have H' := z5_A H
 clear H
 go_enter Try.func110, Try.ntmps110
 go_wp2
 go_loopg [7] k (fun kq v7 w' => ∃ (x7_1 : Int), v7 = .int .i64 x7_1 ∧ Aside0 (spec_l2Row.l0 kq l0 a1 a2 x7_1 = some r) ∧ Aside0 (kq ≤ k) ∧ Drawn0 w w')
 case atStart => exact ⟨(0), z5_9, H', ⟨Nat.le_refl _⟩, z5_13⟩
 case round =>
  clear H'
  skip
  obtain ⟨x7_1, rfl, HA, HK1, ⟨m1, rfl⟩⟩ := hrel
  cases gk with
  | zero => exact absurd HA.out (by simp [spec_l2Row.l0])
  | succ k1 =>
   have H := HA.out
   clear HA
   simp only [spec_l2Row.l0] at H
   by_cases c4 : x7_1 < (l0.length : Int)
   ·rw [if_pos c4] at H
    have c4b0 : decide (x7_1 < (l0.length : Int)) = true := decide_eq_true c4
    clear c4
    by_cases c5 : 0 ≤ x7_1
    ·rw [if_pos c5] at H
     have c5b0 : decide (0 ≤ x7_1) = true := decide_eq_true c5
     clear c5
     replace H := Option.bind_eq_some_iff.mp H
     obtain ⟨t155, A60, H⟩ := H
     (try dsimp only at H)
     have A6 := z5_A A60
     clear A60
     by_cases c7 : t155 = true
     ·subst c7
      have H1 : (spec_l2Row.l0 k1 l0 a1 a2 (wrap64 (x7_1 + 1))) = some r := z5_16
      clear H
      have H := H1
      clear H1
      have H' := z5_A H
      clear H
      have p154 : 0 ≤ (x7_1 : Int) := of_decide_eq_true z5_15
      have q154 : x7_1 < (l0.length : Int) := of_decide_eq_true z5_15
      obtain ⟨ad154, e154, hx154_0⟩ := Kd.at_int HR0.out x7_1 p154 q154
      cases e154
      replace p154 := eq_true p154
      replace q154 := eq_true q154
      go_wp2_with (first | ((with_reducible refine gate_callee (f := 101) rfl ?_); refine goesL_ (some 19) rfl rfl Try.func101 z5_22 rfl #[.int .i64 (rd l0 x7_1), .int .i64 0, .int .i64 a2] rfl z5_4 ?_; (with_reducible refine (spec_l1In.calls (rd l0 x7_1) 0 a2 true _ A6.out).mono ?_); rintro e w' ⟨rfl, ⟨nd, rfl⟩⟩; refine ⟨_, rfl, ?_⟩))
      go_roundg k1
      case measure => have := HK1.out; omega
      case rel => exact ⟨(wrap64 (x7_1 + 1)), z5_9, H', ⟨by have := HK1.out; omega⟩, z5_13⟩
     ·replace c7 := Bool.eq_false_iff.mpr c7
      subst c7
      have H1 : (some false) = some r := z5_12
      clear H
      have H := H1
      clear H1
      obtain rfl := Option.some.inj H
      have p154 : 0 ≤ (x7_1 : Int) := of_decide_eq_true z5_15
      have q154 : x7_1 < (l0.length : Int) := of_decide_eq_true z5_15
      obtain ⟨ad154, e154, hx154_0⟩ := Kd.at_int HR0.out x7_1 p154 q154
      cases e154
      replace p154 := eq_true p154
      replace q154 := eq_true q154
      go_wp2_with (first | ((with_reducible refine gate_callee (f := 101) rfl ?_); refine goesL_ (some 19) rfl rfl Try.func101 z5_22 rfl #[.int .i64 (rd l0 x7_1), .int .i64 0, .int .i64 a2] rfl z5_4 ?_; (with_reducible refine (spec_l1In.calls (rd l0 x7_1) 0 a2 false _ A6.out).mono ?_); rintro e w' ⟨rfl, ⟨nd, rfl⟩⟩; refine ⟨_, rfl, ?_⟩))
      go_ret
      exact ⟨z5_9, z5_13⟩
    ·rw [if_neg c5] at H
     exact absurd H (by simp)
   ·rw [if_neg c4] at H
    have c4b0 : decide (x7_1 < (l0.length : Int)) = false := decide_eq_false c4
    clear c4
    obtain rfl := Option.some.inj H
    go_wp2
    go_ret
    exact ⟨z5_9, z5_13⟩

/-! ### spec_l6Good: function 83 -/
def spec_l6Good.f (k : Nat) (a0_0 : Int) (l0_1 : List Int) (a0_2 : Int) (a0_3 : Int) (a0_4 : Int) (a0_5 : Int) : Option (Bool) := (spec_l1In.f a0_0 0 5).bind fun t157 => (if t157 = true then ((spec_l1In.f (l0_1.length : Int) 1 5).bind fun t158 => (if t158 = true then ((spec_l2Row.f k l0_1 (l0_1.length : Int) 4).bind fun t159 => (if t159 = true then ((spec_l2Sum.f k l0_1).bind fun t160 => (if t160 > 0 then ((spec_l1In.f a0_2 0 99).bind fun t161 => (if t161 = true then ((spec_l1In.f a0_3 0 9).bind fun t162 => (if t162 = true then ((spec_l1In.f a0_4 0 9).bind fun t163 => (if t163 = true then ((spec_l1In.f a0_5 0 9).bind fun t164 => (some t164)) else (some false))) else (some false))) else (some false))) else (some false))) else (some false))) else (some false))) else (some false))
theorem spec_l6Good.mono : ∀ a0 a1 a2 a3 a4 a5 k, LeO (spec_l6Good.f k a0 a1 a2 a3 a4 a5) (spec_l6Good.f (k + 1) a0 a1 a2 a3 a4 a5) := by
 intro a0 a1 a2 a3 a4 a5 k
 unfold spec_l6Good.f
 repeat' first
   | (with_reducible exact spec_l2Row.mono _ _ _ _)
   | (with_reducible exact spec_l2Sum.mono _ _)
   | (with_reducible exact LeO.refl _)
   | (with_reducible exact LeO.none _)
   | (with_reducible refine LeO.ite ?_ ?_)
   | (with_reducible refine LeO.bind ?_ (fun _ => ?_))
   | exact spec_l2Row.mono _ _ _ _
   | exact spec_l2Sum.mono _ _
   | exact LeO.none _
   | refine LeO.ite ?_ ?_
   | refine LeO.bind ?_ (fun _ => ?_)
set_option maxHeartbeats 8000000 in
set_option maxRecDepth 100000 in
theorem spec_l6Good.calls (k : Nat) (a0_0 : Int) (A0_1 : Option Addr) (c0_1 : Nat) (l0_1 : List Int) (a0_2 : Int) (a0_3 : Int) (a0_4 : Int) (a0_5 : Int) (r : Bool) (w : World) (hr0_1 : Kd.C (Kd.int .i64) w A0_1 l0_1.length l0_1) (hc0_1 : l0_1.length ≤ c0_1) (h : spec_l6Good.f k a0_0 l0_1 a0_2 a0_3 a0_4 a0_5 = some r) :
  Calls Try.prog 83 #[.agg #[.int .i64 a0_0, .slice A0_1 l0_1.length c0_1, .int .i64 a0_2, .int .i64 a0_3, .int .i64 a0_4, .int .i64 a0_5]] w fun e w' => e = .returned (.bool r) ∧ Below w.heap.size w w' := by
 have hu30 := Try.underlying30
 have HR0_1 := z5_A hr0_1
 have HC0_1 := z5_A hc0_1
 clear hr0_1 hc0_1
 have HB := z5_A (Below.refl w.heap.size w)
 have H : ((spec_l1In.f a0_0 0 5).bind fun t157 => (if t157 = true then ((spec_l1In.f (l0_1.length : Int) 1 5).bind fun t158 => (if t158 = true then ((spec_l2Row.f k l0_1 (l0_1.length : Int) 4).bind fun t159 => (if t159 = true then ((spec_l2Sum.f k l0_1).bind fun t160 => (if t160 > 0 then ((spec_l1In.f a0_2 0 99).bind fun t161 => (if t161 = true then ((spec_l1In.f a0_3 0 9).bind fun t162 => (if t162 = true then ((spec_l1In.f a0_4 0 9).bind fun t163 => (if t163 = true then ((spec_l1In.f a0_5 0 9).bind fun t164 => (some t164)) else (some false))) else (some false))) else (some false))) else (some false))) else (some false))) else (some false))) else (some false))) = some r := h
 clear h
 replace H := Option.bind_eq_some_iff.mp H
 obtain ⟨t157, A20, H⟩ := H
 (try dsimp only at H)
 have A2 := z5_A A20
 clear A20
 by_cases c3 : t157 = true
 ·subst c3
  have H1 : ((spec_l1In.f (l0_1.length : Int) 1 5).bind fun t158 => (if t158 = true then ((spec_l2Row.f k l0_1 (l0_1.length : Int) 4).bind fun t159 => (if t159 = true then ((spec_l2Sum.f k l0_1).bind fun t160 => (if t160 > 0 then ((spec_l1In.f a0_2 0 99).bind fun t161 => (if t161 = true then ((spec_l1In.f a0_3 0 9).bind fun t162 => (if t162 = true then ((spec_l1In.f a0_4 0 9).bind fun t163 => (if t163 = true then ((spec_l1In.f a0_5 0 9).bind fun t164 => (some t164)) else (some false))) else (some false))) else (some false))) else (some false))) else (some false))) else (some false))) = some r := z5_16
  clear H
  have H := H1
  clear H1
  replace H := Option.bind_eq_some_iff.mp H
  obtain ⟨t158, A40, H⟩ := H
  (try dsimp only at H)
  have A4 := z5_A A40
  clear A40
  by_cases c5 : t158 = true
  ·subst c5
   have H1 : ((spec_l2Row.f k l0_1 (l0_1.length : Int) 4).bind fun t159 => (if t159 = true then ((spec_l2Sum.f k l0_1).bind fun t160 => (if t160 > 0 then ((spec_l1In.f a0_2 0 99).bind fun t161 => (if t161 = true then ((spec_l1In.f a0_3 0 9).bind fun t162 => (if t162 = true then ((spec_l1In.f a0_4 0 9).bind fun t163 => (if t163 = true then ((spec_l1In.f a0_5 0 9).bind fun t164 => (some t164)) else (some false))) else (some false))) else (some false))) else (some false))) else (some false))) = some r := z5_16
   clear H
   have H := H1
   clear H1
   replace H := Option.bind_eq_some_iff.mp H
   obtain ⟨t159, A60, H⟩ := H
   (try dsimp only at H)
   have A6 := z5_A A60
   clear A60
   by_cases c7 : t159 = true
   ·subst c7
    have H1 : ((spec_l2Sum.f k l0_1).bind fun t160 => (if t160 > 0 then ((spec_l1In.f a0_2 0 99).bind fun t161 => (if t161 = true then ((spec_l1In.f a0_3 0 9).bind fun t162 => (if t162 = true then ((spec_l1In.f a0_4 0 9).bind fun t163 => (if t163 = true then ((spec_l1In.f a0_5 0 9).bind fun t164 => (some t164)) else (some false))) else (some false))) else (some false))) else (some false))) = some r := z5_16
    clear H
    have H := H1
    clear H1
    replace H := Option.bind_eq_some_iff.mp H
    obtain ⟨t160, A80, H⟩ := H
    (try dsimp only at H)
    have A8 := z5_A A80
    clear A80
    by_cases c9 : t160 > 0
    ·rw [if_pos c9] at H
     have c9b0 : decide (0 < t160) = true := decide_eq_true c9
     clear c9
     replace H := Option.bind_eq_some_iff.mp H
     obtain ⟨t161, A100, H⟩ := H
     (try dsimp only at H)
     have A10 := z5_A A100
     clear A100
     by_cases c11 : t161 = true
     ·subst c11
      have H1 : ((spec_l1In.f a0_3 0 9).bind fun t162 => (if t162 = true then ((spec_l1In.f a0_4 0 9).bind fun t163 => (if t163 = true then ((spec_l1In.f a0_5 0 9).bind fun t164 => (some t164)) else (some false))) else (some false))) = some r := z5_16
      clear H
      have H := H1
      clear H1
      replace H := Option.bind_eq_some_iff.mp H
      obtain ⟨t162, A120, H⟩ := H
      (try dsimp only at H)
      have A12 := z5_A A120
      clear A120
      by_cases c13 : t162 = true
      ·subst c13
       have H1 : ((spec_l1In.f a0_4 0 9).bind fun t163 => (if t163 = true then ((spec_l1In.f a0_5 0 9).bind fun t164 => (some t164)) else (some false))) = some r := z5_16
       clear H
       have H := H1
       clear H1
       replace H := Option.bind_eq_some_iff.mp H
       obtain ⟨t163, A140, H⟩ := H
       (try dsimp only at H)
       have A14 := z5_A A140
       clear A140
       by_cases c15 : t163 = true
       ·subst c15
        have H1 : ((spec_l1In.f a0_5 0 9).bind fun t164 => (some t164)) = some r := z5_16
        clear H
        have H := H1
        clear H1
        replace H := Option.bind_eq_some_iff.mp H
        obtain ⟨t164, A160, H⟩ := H
        (try dsimp only at H)
        have A16 := z5_A A160
        clear A160
        obtain rfl := Option.some.inj H
        go_enter Try.func83, Try.ntmps83
        go_wp2_with (first | ((with_reducible refine gate_dst (N := 1) rfl ?_); (try (refine gate_guard (by rfl) ?_; dsimp only)); refine box_event ?hg (N := 1) ?hd (cs := #[.int .i64 a0_0, .slice A0_1 l0_1.length c0_1, .int .i64 a0_2, .int .i64 a0_3, .int .i64 a0_4, .int .i64 a0_5]) (t := 30) ?hr ?_; (case hd => rfl); (case hg => rfl); (case hr => first | (go_simp; done) | (go_simp; rfl)); intro gb156 hg w17 hbox hb; have n0_ := z5_A (below_step z5_1 hb); have n1_ := z5_A (hbox); have n2_ := z5_A ((z5_7 : w.heap.size ≤ gb156)); have n3_ := z5_A ((z5_7 : w.heap.size ≤ gb156)); clear HB; revert n0_ n1_ n2_ n3_; intro HB BK156 GW156 GE156; clear hb hbox hg; have hcz18_0 : w17.cell? ⟨gb156, 0, none⟩ = some (.int .i64 a0_0) := bcz BK156.out 0 rfl; have hcz18_1 : w17.cell? ⟨gb156, 1, none⟩ = some (.slice A0_1 l0_1.length c0_1) := bcz BK156.out 1 rfl; have hcz18_2 : w17.cell? ⟨gb156, 2, none⟩ = some (.int .i64 a0_2) := bcz BK156.out 2 rfl; have hcz18_3 : w17.cell? ⟨gb156, 3, none⟩ = some (.int .i64 a0_3) := bcz BK156.out 3 rfl; have hcz18_4 : w17.cell? ⟨gb156, 4, none⟩ = some (.int .i64 a0_4) := bcz BK156.out 4 rfl; have hcz18_5 : w17.cell? ⟨gb156, 5, none⟩ = some (.int .i64 a0_5) := bcz BK156.out 5 rfl; obtain ⟨hfz18_0, hfz18_1, hfz18_2, hfz18_3⟩ := F4z (blk_frozen BK156.out); have hfz18_4 := blk_frozen BK156.out 4; have hfz18_5 := blk_frozen BK156.out 5) | ((with_reducible refine gate_callee (f := 101) rfl ?_); refine goesL_ (some 5) rfl rfl Try.func101 z5_22 rfl #[.int .i64 a0_0, .int .i64 0, .int .i64 5] rfl z5_4 ?_; (with_reducible refine (spec_l1In.calls a0_0 0 5 true _ A2.out).mono ?_); rintro e w' ⟨rfl, ⟨nd, rfl⟩⟩; refine ⟨_, rfl, ?_⟩) | (go_at_call 101; (with_reducible refine (spec_l1In.calls (l0_1.length : Int) 1 5 true _ A4.out).mono ?_); rintro e w' ⟨rfl, ⟨nd, rfl⟩⟩) | (go_at_call 110; (with_reducible refine (spec_l2Row.calls k _ _ l0_1 (l0_1.length : Int) 4 true _ ?side1 ?side2 A6.out).mono ?_); (case side1 => repeat (first | exact (Kd.C_below HR0_1.out z5_2) | (with_reducible refine Kd.C_alloc ?_ _) | (with_reducible refine Kd.C_drewN ?_ _) | (with_reducible refine Kd.C_drew ?_))); (case side2 => exact HC0_1.out); rintro e w' ⟨rfl, ⟨nd, rfl⟩⟩) | (go_at_call 100; (with_reducible refine (spec_l2Sum.calls k _ _ l0_1 t160 _ ?side1 ?side2 A8.out).mono ?_); (case side1 => repeat (first | exact (Kd.C_below HR0_1.out z5_2) | (with_reducible refine Kd.C_alloc ?_ _) | (with_reducible refine Kd.C_drewN ?_ _) | (with_reducible refine Kd.C_drew ?_))); (case side2 => exact HC0_1.out); rintro e w' ⟨rfl, ⟨nd, rfl⟩⟩) | (go_at_call 101; (with_reducible refine (spec_l1In.calls a0_2 0 99 true _ A10.out).mono ?_); rintro e w' ⟨rfl, ⟨nd, rfl⟩⟩) | (go_at_call 101; (with_reducible refine (spec_l1In.calls a0_3 0 9 true _ A12.out).mono ?_); rintro e w' ⟨rfl, ⟨nd, rfl⟩⟩) | (go_at_call 101; (with_reducible refine (spec_l1In.calls a0_4 0 9 true _ A14.out).mono ?_); rintro e w' ⟨rfl, ⟨nd, rfl⟩⟩) | (go_at_call 101; (with_reducible refine (spec_l1In.calls a0_5 0 9 t164 _ A16.out).mono ?_); rintro e w' ⟨rfl, ⟨nd, rfl⟩⟩))
        go_ret
        exact ⟨z5_3, z5_2⟩
       ·replace c15 := Bool.eq_false_iff.mpr c15
        subst c15
        have H1 : (some false) = some r := z5_12
        clear H
        have H := H1
        clear H1
        obtain rfl := Option.some.inj H
        go_enter Try.func83, Try.ntmps83
        go_wp2_with (first | ((with_reducible refine gate_dst (N := 1) rfl ?_); (try (refine gate_guard (by rfl) ?_; dsimp only)); refine box_event ?hg (N := 1) ?hd (cs := #[.int .i64 a0_0, .slice A0_1 l0_1.length c0_1, .int .i64 a0_2, .int .i64 a0_3, .int .i64 a0_4, .int .i64 a0_5]) (t := 30) ?hr ?_; (case hd => rfl); (case hg => rfl); (case hr => first | (go_simp; done) | (go_simp; rfl)); intro gb156 hg w19 hbox hb; have n0_ := z5_A (below_step z5_1 hb); have n1_ := z5_A (hbox); have n2_ := z5_A ((z5_7 : w.heap.size ≤ gb156)); have n3_ := z5_A ((z5_7 : w.heap.size ≤ gb156)); clear HB; revert n0_ n1_ n2_ n3_; intro HB BK156 GW156 GE156; clear hb hbox hg; have hcz20_0 : w19.cell? ⟨gb156, 0, none⟩ = some (.int .i64 a0_0) := bcz BK156.out 0 rfl; have hcz20_1 : w19.cell? ⟨gb156, 1, none⟩ = some (.slice A0_1 l0_1.length c0_1) := bcz BK156.out 1 rfl; have hcz20_2 : w19.cell? ⟨gb156, 2, none⟩ = some (.int .i64 a0_2) := bcz BK156.out 2 rfl; have hcz20_3 : w19.cell? ⟨gb156, 3, none⟩ = some (.int .i64 a0_3) := bcz BK156.out 3 rfl; have hcz20_4 : w19.cell? ⟨gb156, 4, none⟩ = some (.int .i64 a0_4) := bcz BK156.out 4 rfl; have hcz20_5 : w19.cell? ⟨gb156, 5, none⟩ = some (.int .i64 a0_5) := bcz BK156.out 5 rfl; obtain ⟨hfz20_0, hfz20_1, hfz20_2, hfz20_3⟩ := F4z (blk_frozen BK156.out); have hfz20_4 := blk_frozen BK156.out 4; have hfz20_5 := blk_frozen BK156.out 5) | ((with_reducible refine gate_callee (f := 101) rfl ?_); refine goesL_ (some 5) rfl rfl Try.func101 z5_22 rfl #[.int .i64 a0_0, .int .i64 0, .int .i64 5] rfl z5_4 ?_; (with_reducible refine (spec_l1In.calls a0_0 0 5 true _ A2.out).mono ?_); rintro e w' ⟨rfl, ⟨nd, rfl⟩⟩; refine ⟨_, rfl, ?_⟩) | (go_at_call 101; (with_reducible refine (spec_l1In.calls (l0_1.length : Int) 1 5 true _ A4.out).mono ?_); rintro e w' ⟨rfl, ⟨nd, rfl⟩⟩) | (go_at_call 110; (with_reducible refine (spec_l2Row.calls k _ _ l0_1 (l0_1.length : Int) 4 true _ ?side1 ?side2 A6.out).mono ?_); (case side1 => repeat (first | exact (Kd.C_below HR0_1.out z5_2) | (with_reducible refine Kd.C_alloc ?_ _) | (with_reducible refine Kd.C_drewN ?_ _) | (with_reducible refine Kd.C_drew ?_))); (case side2 => exact HC0_1.out); rintro e w' ⟨rfl, ⟨nd, rfl⟩⟩) | (go_at_call 100; (with_reducible refine (spec_l2Sum.calls k _ _ l0_1 t160 _ ?side1 ?side2 A8.out).mono ?_); (case side1 => repeat (first | exact (Kd.C_below HR0_1.out z5_2) | (with_reducible refine Kd.C_alloc ?_ _) | (with_reducible refine Kd.C_drewN ?_ _) | (with_reducible refine Kd.C_drew ?_))); (case side2 => exact HC0_1.out); rintro e w' ⟨rfl, ⟨nd, rfl⟩⟩) | (go_at_call 101; (with_reducible refine (spec_l1In.calls a0_2 0 99 true _ A10.out).mono ?_); rintro e w' ⟨rfl, ⟨nd, rfl⟩⟩) | (go_at_call 101; (with_reducible refine (spec_l1In.calls a0_3 0 9 true _ A12.out).mono ?_); rintro e w' ⟨rfl, ⟨nd, rfl⟩⟩) | (go_at_call 101; (with_reducible refine (spec_l1In.calls a0_4 0 9 false _ A14.out).mono ?_); rintro e w' ⟨rfl, ⟨nd, rfl⟩⟩))
        go_ret
        exact ⟨z5_3, z5_2⟩
      ·replace c13 := Bool.eq_false_iff.mpr c13
       subst c13
       have H1 : (some false) = some r := z5_12
       clear H
       have H := H1
       clear H1
       obtain rfl := Option.some.inj H
       go_enter Try.func83, Try.ntmps83
       go_wp2_with (first | ((with_reducible refine gate_dst (N := 1) rfl ?_); (try (refine gate_guard (by rfl) ?_; dsimp only)); refine box_event ?hg (N := 1) ?hd (cs := #[.int .i64 a0_0, .slice A0_1 l0_1.length c0_1, .int .i64 a0_2, .int .i64 a0_3, .int .i64 a0_4, .int .i64 a0_5]) (t := 30) ?hr ?_; (case hd => rfl); (case hg => rfl); (case hr => first | (go_simp; done) | (go_simp; rfl)); intro gb156 hg w21 hbox hb; have n0_ := z5_A (below_step z5_1 hb); have n1_ := z5_A (hbox); have n2_ := z5_A ((z5_7 : w.heap.size ≤ gb156)); have n3_ := z5_A ((z5_7 : w.heap.size ≤ gb156)); clear HB; revert n0_ n1_ n2_ n3_; intro HB BK156 GW156 GE156; clear hb hbox hg; have hcz22_0 : w21.cell? ⟨gb156, 0, none⟩ = some (.int .i64 a0_0) := bcz BK156.out 0 rfl; have hcz22_1 : w21.cell? ⟨gb156, 1, none⟩ = some (.slice A0_1 l0_1.length c0_1) := bcz BK156.out 1 rfl; have hcz22_2 : w21.cell? ⟨gb156, 2, none⟩ = some (.int .i64 a0_2) := bcz BK156.out 2 rfl; have hcz22_3 : w21.cell? ⟨gb156, 3, none⟩ = some (.int .i64 a0_3) := bcz BK156.out 3 rfl; have hcz22_4 : w21.cell? ⟨gb156, 4, none⟩ = some (.int .i64 a0_4) := bcz BK156.out 4 rfl; have hcz22_5 : w21.cell? ⟨gb156, 5, none⟩ = some (.int .i64 a0_5) := bcz BK156.out 5 rfl; obtain ⟨hfz22_0, hfz22_1, hfz22_2, hfz22_3⟩ := F4z (blk_frozen BK156.out); have hfz22_4 := blk_frozen BK156.out 4; have hfz22_5 := blk_frozen BK156.out 5) | ((with_reducible refine gate_callee (f := 101) rfl ?_); refine goesL_ (some 5) rfl rfl Try.func101 z5_22 rfl #[.int .i64 a0_0, .int .i64 0, .int .i64 5] rfl z5_4 ?_; (with_reducible refine (spec_l1In.calls a0_0 0 5 true _ A2.out).mono ?_); rintro e w' ⟨rfl, ⟨nd, rfl⟩⟩; refine ⟨_, rfl, ?_⟩) | (go_at_call 101; (with_reducible refine (spec_l1In.calls (l0_1.length : Int) 1 5 true _ A4.out).mono ?_); rintro e w' ⟨rfl, ⟨nd, rfl⟩⟩) | (go_at_call 110; (with_reducible refine (spec_l2Row.calls k _ _ l0_1 (l0_1.length : Int) 4 true _ ?side1 ?side2 A6.out).mono ?_); (case side1 => repeat (first | exact (Kd.C_below HR0_1.out z5_2) | (with_reducible refine Kd.C_alloc ?_ _) | (with_reducible refine Kd.C_drewN ?_ _) | (with_reducible refine Kd.C_drew ?_))); (case side2 => exact HC0_1.out); rintro e w' ⟨rfl, ⟨nd, rfl⟩⟩) | (go_at_call 100; (with_reducible refine (spec_l2Sum.calls k _ _ l0_1 t160 _ ?side1 ?side2 A8.out).mono ?_); (case side1 => repeat (first | exact (Kd.C_below HR0_1.out z5_2) | (with_reducible refine Kd.C_alloc ?_ _) | (with_reducible refine Kd.C_drewN ?_ _) | (with_reducible refine Kd.C_drew ?_))); (case side2 => exact HC0_1.out); rintro e w' ⟨rfl, ⟨nd, rfl⟩⟩) | (go_at_call 101; (with_reducible refine (spec_l1In.calls a0_2 0 99 true _ A10.out).mono ?_); rintro e w' ⟨rfl, ⟨nd, rfl⟩⟩) | (go_at_call 101; (with_reducible refine (spec_l1In.calls a0_3 0 9 false _ A12.out).mono ?_); rintro e w' ⟨rfl, ⟨nd, rfl⟩⟩))
       go_ret
       exact ⟨z5_3, z5_2⟩
     ·replace c11 := Bool.eq_false_iff.mpr c11
      subst c11
      have H1 : (some false) = some r := z5_12
      clear H
      have H := H1
      clear H1
      obtain rfl := Option.some.inj H
      go_enter Try.func83, Try.ntmps83
      go_wp2_with (first | ((with_reducible refine gate_dst (N := 1) rfl ?_); (try (refine gate_guard (by rfl) ?_; dsimp only)); refine box_event ?hg (N := 1) ?hd (cs := #[.int .i64 a0_0, .slice A0_1 l0_1.length c0_1, .int .i64 a0_2, .int .i64 a0_3, .int .i64 a0_4, .int .i64 a0_5]) (t := 30) ?hr ?_; (case hd => rfl); (case hg => rfl); (case hr => first | (go_simp; done) | (go_simp; rfl)); intro gb156 hg w23 hbox hb; have n0_ := z5_A (below_step z5_1 hb); have n1_ := z5_A (hbox); have n2_ := z5_A ((z5_7 : w.heap.size ≤ gb156)); have n3_ := z5_A ((z5_7 : w.heap.size ≤ gb156)); clear HB; revert n0_ n1_ n2_ n3_; intro HB BK156 GW156 GE156; clear hb hbox hg; have hcz24_0 : w23.cell? ⟨gb156, 0, none⟩ = some (.int .i64 a0_0) := bcz BK156.out 0 rfl; have hcz24_1 : w23.cell? ⟨gb156, 1, none⟩ = some (.slice A0_1 l0_1.length c0_1) := bcz BK156.out 1 rfl; have hcz24_2 : w23.cell? ⟨gb156, 2, none⟩ = some (.int .i64 a0_2) := bcz BK156.out 2 rfl; have hcz24_3 : w23.cell? ⟨gb156, 3, none⟩ = some (.int .i64 a0_3) := bcz BK156.out 3 rfl; have hcz24_4 : w23.cell? ⟨gb156, 4, none⟩ = some (.int .i64 a0_4) := bcz BK156.out 4 rfl; have hcz24_5 : w23.cell? ⟨gb156, 5, none⟩ = some (.int .i64 a0_5) := bcz BK156.out 5 rfl; obtain ⟨hfz24_0, hfz24_1, hfz24_2, hfz24_3⟩ := F4z (blk_frozen BK156.out); have hfz24_4 := blk_frozen BK156.out 4; have hfz24_5 := blk_frozen BK156.out 5) | ((with_reducible refine gate_callee (f := 101) rfl ?_); refine goesL_ (some 5) rfl rfl Try.func101 z5_22 rfl #[.int .i64 a0_0, .int .i64 0, .int .i64 5] rfl z5_4 ?_; (with_reducible refine (spec_l1In.calls a0_0 0 5 true _ A2.out).mono ?_); rintro e w' ⟨rfl, ⟨nd, rfl⟩⟩; refine ⟨_, rfl, ?_⟩) | (go_at_call 101; (with_reducible refine (spec_l1In.calls (l0_1.length : Int) 1 5 true _ A4.out).mono ?_); rintro e w' ⟨rfl, ⟨nd, rfl⟩⟩) | (go_at_call 110; (with_reducible refine (spec_l2Row.calls k _ _ l0_1 (l0_1.length : Int) 4 true _ ?side1 ?side2 A6.out).mono ?_); (case side1 => repeat (first | exact (Kd.C_below HR0_1.out z5_2) | (with_reducible refine Kd.C_alloc ?_ _) | (with_reducible refine Kd.C_drewN ?_ _) | (with_reducible refine Kd.C_drew ?_))); (case side2 => exact HC0_1.out); rintro e w' ⟨rfl, ⟨nd, rfl⟩⟩) | (go_at_call 100; (with_reducible refine (spec_l2Sum.calls k _ _ l0_1 t160 _ ?side1 ?side2 A8.out).mono ?_); (case side1 => repeat (first | exact (Kd.C_below HR0_1.out z5_2) | (with_reducible refine Kd.C_alloc ?_ _) | (with_reducible refine Kd.C_drewN ?_ _) | (with_reducible refine Kd.C_drew ?_))); (case side2 => exact HC0_1.out); rintro e w' ⟨rfl, ⟨nd, rfl⟩⟩) | (go_at_call 101; (with_reducible refine (spec_l1In.calls a0_2 0 99 false _ A10.out).mono ?_); rintro e w' ⟨rfl, ⟨nd, rfl⟩⟩))
      go_ret
      exact ⟨z5_3, z5_2⟩
    ·rw [if_neg c9] at H
     have c9b0 : decide (0 < t160) = false := decide_eq_false c9
     clear c9
     obtain rfl := Option.some.inj H
     go_enter Try.func83, Try.ntmps83
     go_wp2_with (first | ((with_reducible refine gate_dst (N := 1) rfl ?_); (try (refine gate_guard (by rfl) ?_; dsimp only)); refine box_event ?hg (N := 1) ?hd (cs := #[.int .i64 a0_0, .slice A0_1 l0_1.length c0_1, .int .i64 a0_2, .int .i64 a0_3, .int .i64 a0_4, .int .i64 a0_5]) (t := 30) ?hr ?_; (case hd => rfl); (case hg => rfl); (case hr => first | (go_simp; done) | (go_simp; rfl)); intro gb156 hg w25 hbox hb; have n0_ := z5_A (below_step z5_1 hb); have n1_ := z5_A (hbox); have n2_ := z5_A ((z5_7 : w.heap.size ≤ gb156)); have n3_ := z5_A ((z5_7 : w.heap.size ≤ gb156)); clear HB; revert n0_ n1_ n2_ n3_; intro HB BK156 GW156 GE156; clear hb hbox hg; have hcz26_0 : w25.cell? ⟨gb156, 0, none⟩ = some (.int .i64 a0_0) := bcz BK156.out 0 rfl; have hcz26_1 : w25.cell? ⟨gb156, 1, none⟩ = some (.slice A0_1 l0_1.length c0_1) := bcz BK156.out 1 rfl; have hcz26_2 : w25.cell? ⟨gb156, 2, none⟩ = some (.int .i64 a0_2) := bcz BK156.out 2 rfl; have hcz26_3 : w25.cell? ⟨gb156, 3, none⟩ = some (.int .i64 a0_3) := bcz BK156.out 3 rfl; have hcz26_4 : w25.cell? ⟨gb156, 4, none⟩ = some (.int .i64 a0_4) := bcz BK156.out 4 rfl; have hcz26_5 : w25.cell? ⟨gb156, 5, none⟩ = some (.int .i64 a0_5) := bcz BK156.out 5 rfl; obtain ⟨hfz26_0, hfz26_1, hfz26_2, hfz26_3⟩ := F4z (blk_frozen BK156.out); have hfz26_4 := blk_frozen BK156.out 4; have hfz26_5 := blk_frozen BK156.out 5) | ((with_reducible refine gate_callee (f := 101) rfl ?_); refine goesL_ (some 5) rfl rfl Try.func101 z5_22 rfl #[.int .i64 a0_0, .int .i64 0, .int .i64 5] rfl z5_4 ?_; (with_reducible refine (spec_l1In.calls a0_0 0 5 true _ A2.out).mono ?_); rintro e w' ⟨rfl, ⟨nd, rfl⟩⟩; refine ⟨_, rfl, ?_⟩) | (go_at_call 101; (with_reducible refine (spec_l1In.calls (l0_1.length : Int) 1 5 true _ A4.out).mono ?_); rintro e w' ⟨rfl, ⟨nd, rfl⟩⟩) | (go_at_call 110; (with_reducible refine (spec_l2Row.calls k _ _ l0_1 (l0_1.length : Int) 4 true _ ?side1 ?side2 A6.out).mono ?_); (case side1 => repeat (first | exact (Kd.C_below HR0_1.out z5_2) | (with_reducible refine Kd.C_alloc ?_ _) | (with_reducible refine Kd.C_drewN ?_ _) | (with_reducible refine Kd.C_drew ?_))); (case side2 => exact HC0_1.out); rintro e w' ⟨rfl, ⟨nd, rfl⟩⟩) | (go_at_call 100; (with_reducible refine (spec_l2Sum.calls k _ _ l0_1 t160 _ ?side1 ?side2 A8.out).mono ?_); (case side1 => repeat (first | exact (Kd.C_below HR0_1.out z5_2) | (with_reducible refine Kd.C_alloc ?_ _) | (with_reducible refine Kd.C_drewN ?_ _) | (with_reducible refine Kd.C_drew ?_))); (case side2 => exact HC0_1.out); rintro e w' ⟨rfl, ⟨nd, rfl⟩⟩))
     go_ret
     exact ⟨z5_3, z5_2⟩
   ·replace c7 := Bool.eq_false_iff.mpr c7
    subst c7
    have H1 : (some false) = some r := z5_12
    clear H
    have H := H1
    clear H1
    obtain rfl := Option.some.inj H
    go_enter Try.func83, Try.ntmps83
    go_wp2_with (first | ((with_reducible refine gate_dst (N := 1) rfl ?_); (try (refine gate_guard (by rfl) ?_; dsimp only)); refine box_event ?hg (N := 1) ?hd (cs := #[.int .i64 a0_0, .slice A0_1 l0_1.length c0_1, .int .i64 a0_2, .int .i64 a0_3, .int .i64 a0_4, .int .i64 a0_5]) (t := 30) ?hr ?_; (case hd => rfl); (case hg => rfl); (case hr => first | (go_simp; done) | (go_simp; rfl)); intro gb156 hg w27 hbox hb; have n0_ := z5_A (below_step z5_1 hb); have n1_ := z5_A (hbox); have n2_ := z5_A ((z5_7 : w.heap.size ≤ gb156)); have n3_ := z5_A ((z5_7 : w.heap.size ≤ gb156)); clear HB; revert n0_ n1_ n2_ n3_; intro HB BK156 GW156 GE156; clear hb hbox hg; have hcz28_0 : w27.cell? ⟨gb156, 0, none⟩ = some (.int .i64 a0_0) := bcz BK156.out 0 rfl; have hcz28_1 : w27.cell? ⟨gb156, 1, none⟩ = some (.slice A0_1 l0_1.length c0_1) := bcz BK156.out 1 rfl; have hcz28_2 : w27.cell? ⟨gb156, 2, none⟩ = some (.int .i64 a0_2) := bcz BK156.out 2 rfl; have hcz28_3 : w27.cell? ⟨gb156, 3, none⟩ = some (.int .i64 a0_3) := bcz BK156.out 3 rfl; have hcz28_4 : w27.cell? ⟨gb156, 4, none⟩ = some (.int .i64 a0_4) := bcz BK156.out 4 rfl; have hcz28_5 : w27.cell? ⟨gb156, 5, none⟩ = some (.int .i64 a0_5) := bcz BK156.out 5 rfl; obtain ⟨hfz28_0, hfz28_1, hfz28_2, hfz28_3⟩ := F4z (blk_frozen BK156.out); have hfz28_4 := blk_frozen BK156.out 4; have hfz28_5 := blk_frozen BK156.out 5) | ((with_reducible refine gate_callee (f := 101) rfl ?_); refine goesL_ (some 5) rfl rfl Try.func101 z5_22 rfl #[.int .i64 a0_0, .int .i64 0, .int .i64 5] rfl z5_4 ?_; (with_reducible refine (spec_l1In.calls a0_0 0 5 true _ A2.out).mono ?_); rintro e w' ⟨rfl, ⟨nd, rfl⟩⟩; refine ⟨_, rfl, ?_⟩) | (go_at_call 101; (with_reducible refine (spec_l1In.calls (l0_1.length : Int) 1 5 true _ A4.out).mono ?_); rintro e w' ⟨rfl, ⟨nd, rfl⟩⟩) | (go_at_call 110; (with_reducible refine (spec_l2Row.calls k _ _ l0_1 (l0_1.length : Int) 4 false _ ?side1 ?side2 A6.out).mono ?_); (case side1 => repeat (first | exact (Kd.C_below HR0_1.out z5_2) | (with_reducible refine Kd.C_alloc ?_ _) | (with_reducible refine Kd.C_drewN ?_ _) | (with_reducible refine Kd.C_drew ?_))); (case side2 => exact HC0_1.out); rintro e w' ⟨rfl, ⟨nd, rfl⟩⟩))
    go_ret
    exact ⟨z5_3, z5_2⟩
  ·replace c5 := Bool.eq_false_iff.mpr c5
   subst c5
   have H1 : (some false) = some r := z5_12
   clear H
   have H := H1
   clear H1
   obtain rfl := Option.some.inj H
   go_enter Try.func83, Try.ntmps83
   go_wp2_with (first | ((with_reducible refine gate_dst (N := 1) rfl ?_); (try (refine gate_guard (by rfl) ?_; dsimp only)); refine box_event ?hg (N := 1) ?hd (cs := #[.int .i64 a0_0, .slice A0_1 l0_1.length c0_1, .int .i64 a0_2, .int .i64 a0_3, .int .i64 a0_4, .int .i64 a0_5]) (t := 30) ?hr ?_; (case hd => rfl); (case hg => rfl); (case hr => first | (go_simp; done) | (go_simp; rfl)); intro gb156 hg w29 hbox hb; have n0_ := z5_A (below_step z5_1 hb); have n1_ := z5_A (hbox); have n2_ := z5_A ((z5_7 : w.heap.size ≤ gb156)); have n3_ := z5_A ((z5_7 : w.heap.size ≤ gb156)); clear HB; revert n0_ n1_ n2_ n3_; intro HB BK156 GW156 GE156; clear hb hbox hg; have hcz30_0 : w29.cell? ⟨gb156, 0, none⟩ = some (.int .i64 a0_0) := bcz BK156.out 0 rfl; have hcz30_1 : w29.cell? ⟨gb156, 1, none⟩ = some (.slice A0_1 l0_1.length c0_1) := bcz BK156.out 1 rfl; have hcz30_2 : w29.cell? ⟨gb156, 2, none⟩ = some (.int .i64 a0_2) := bcz BK156.out 2 rfl; have hcz30_3 : w29.cell? ⟨gb156, 3, none⟩ = some (.int .i64 a0_3) := bcz BK156.out 3 rfl; have hcz30_4 : w29.cell? ⟨gb156, 4, none⟩ = some (.int .i64 a0_4) := bcz BK156.out 4 rfl; have hcz30_5 : w29.cell? ⟨gb156, 5, none⟩ = some (.int .i64 a0_5) := bcz BK156.out 5 rfl; obtain ⟨hfz30_0, hfz30_1, hfz30_2, hfz30_3⟩ := F4z (blk_frozen BK156.out); have hfz30_4 := blk_frozen BK156.out 4; have hfz30_5 := blk_frozen BK156.out 5) | ((with_reducible refine gate_callee (f := 101) rfl ?_); refine goesL_ (some 5) rfl rfl Try.func101 z5_22 rfl #[.int .i64 a0_0, .int .i64 0, .int .i64 5] rfl z5_4 ?_; (with_reducible refine (spec_l1In.calls a0_0 0 5 true _ A2.out).mono ?_); rintro e w' ⟨rfl, ⟨nd, rfl⟩⟩; refine ⟨_, rfl, ?_⟩) | (go_at_call 101; (with_reducible refine (spec_l1In.calls (l0_1.length : Int) 1 5 false _ A4.out).mono ?_); rintro e w' ⟨rfl, ⟨nd, rfl⟩⟩))
   go_ret
   exact ⟨z5_3, z5_2⟩
 ·replace c3 := Bool.eq_false_iff.mpr c3
  subst c3
  have H1 : (some false) = some r := z5_12
  clear H
  have H := H1
  clear H1
  obtain rfl := Option.some.inj H
  go_enter Try.func83, Try.ntmps83
  go_wp2_with (first | ((with_reducible refine gate_dst (N := 1) rfl ?_); (try (refine gate_guard (by rfl) ?_; dsimp only)); refine box_event ?hg (N := 1) ?hd (cs := #[.int .i64 a0_0, .slice A0_1 l0_1.length c0_1, .int .i64 a0_2, .int .i64 a0_3, .int .i64 a0_4, .int .i64 a0_5]) (t := 30) ?hr ?_; (case hd => rfl); (case hg => rfl); (case hr => first | (go_simp; done) | (go_simp; rfl)); intro gb156 hg w31 hbox hb; have n0_ := z5_A (below_step z5_1 hb); have n1_ := z5_A (hbox); have n2_ := z5_A ((z5_7 : w.heap.size ≤ gb156)); have n3_ := z5_A ((z5_7 : w.heap.size ≤ gb156)); clear HB; revert n0_ n1_ n2_ n3_; intro HB BK156 GW156 GE156; clear hb hbox hg; have hcz32_0 : w31.cell? ⟨gb156, 0, none⟩ = some (.int .i64 a0_0) := bcz BK156.out 0 rfl; have hcz32_1 : w31.cell? ⟨gb156, 1, none⟩ = some (.slice A0_1 l0_1.length c0_1) := bcz BK156.out 1 rfl; have hcz32_2 : w31.cell? ⟨gb156, 2, none⟩ = some (.int .i64 a0_2) := bcz BK156.out 2 rfl; have hcz32_3 : w31.cell? ⟨gb156, 3, none⟩ = some (.int .i64 a0_3) := bcz BK156.out 3 rfl; have hcz32_4 : w31.cell? ⟨gb156, 4, none⟩ = some (.int .i64 a0_4) := bcz BK156.out 4 rfl; have hcz32_5 : w31.cell? ⟨gb156, 5, none⟩ = some (.int .i64 a0_5) := bcz BK156.out 5 rfl; obtain ⟨hfz32_0, hfz32_1, hfz32_2, hfz32_3⟩ := F4z (blk_frozen BK156.out); have hfz32_4 := blk_frozen BK156.out 4; have hfz32_5 := blk_frozen BK156.out 5) | ((with_reducible refine gate_callee (f := 101) rfl ?_); refine goesL_ (some 5) rfl rfl Try.func101 z5_22 rfl #[.int .i64 a0_0, .int .i64 0, .int .i64 5] rfl z5_4 ?_; (with_reducible refine (spec_l1In.calls a0_0 0 5 false _ A2.out).mono ?_); rintro e w' ⟨rfl, ⟨nd, rfl⟩⟩; refine ⟨_, rfl, ?_⟩))
  go_ret
  exact ⟨z5_3, z5_2⟩

/-! ### spec_l6Power: function 89 -/
def spec_l6Power.l0 : Nat → Int → Int → Int → Int → Option (Int)
 | 0, _, _, _, _ => none
 | k + 1, x1, x5, x6, x7 => if x7 < x1 then (spec_l6Power.l0 k x1 (wrap64 (x5 * x6)) x6 (wrap64 (x7 + 1))) else (some x5)
def spec_l6Power.f (k : Nat) (a0_0 : Int) (l0_1 : List Int) (a0_2 : Int) (a0_3 : Int) (a0_4 : Int) (a0_5 : Int) (a1 : Int) : Option (Int) := (spec_l2Sum.f k l0_1).bind fun t166 => (spec_l6Power.l0 k a1 1 t166 0)
theorem spec_l6Power.mono_l : ∀ k, (∀ y0 y1 y2 y3, LeO (spec_l6Power.l0 k y0 y1 y2 y3) (spec_l6Power.l0 (k + 1) y0 y1 y2 y3))
 | 0 => fun _ _ _ _ r h => by simp [spec_l6Power.l0] at h
 | k + 1 => by
  have ih0 := spec_l6Power.mono_l k
  ·intro y0 y1 y2 y3
   unfold spec_l6Power.l0
   repeat' first
   | (with_reducible exact ih0 _ _ _ _)
   | (with_reducible exact spec_l2Sum.mono _ _)
   | (with_reducible exact LeO.refl _)
   | (with_reducible exact LeO.none _)
   | (with_reducible refine LeO.ite ?_ ?_)
   | (with_reducible refine LeO.bind ?_ (fun _ => ?_))
   | exact ih0 _ _ _ _
   | exact spec_l2Sum.mono _ _
   | exact LeO.none _
   | refine LeO.ite ?_ ?_
   | refine LeO.bind ?_ (fun _ => ?_)
theorem spec_l6Power.mono : ∀ a0 a1 a2 a3 a4 a5 a6 k, LeO (spec_l6Power.f k a0 a1 a2 a3 a4 a5 a6) (spec_l6Power.f (k + 1) a0 a1 a2 a3 a4 a5 a6) := by
 intro a0 a1 a2 a3 a4 a5 a6 k
 have ih0 := spec_l6Power.mono_l k
 unfold spec_l6Power.f
 repeat' first
   | (with_reducible exact ih0 _ _ _ _)
   | (with_reducible exact spec_l2Sum.mono _ _)
   | (with_reducible exact LeO.refl _)
   | (with_reducible exact LeO.none _)
   | (with_reducible refine LeO.ite ?_ ?_)
   | (with_reducible refine LeO.bind ?_ (fun _ => ?_))
   | exact ih0 _ _ _ _
   | exact spec_l2Sum.mono _ _
   | exact LeO.none _
   | refine LeO.ite ?_ ?_
   | refine LeO.bind ?_ (fun _ => ?_)
set_option maxHeartbeats 8000000 in
set_option maxRecDepth 100000 in
theorem spec_l6Power.calls (k : Nat) (a0_0 : Int) (A0_1 : Option Addr) (c0_1 : Nat) (l0_1 : List Int) (a0_2 : Int) (a0_3 : Int) (a0_4 : Int) (a0_5 : Int) (a1 : Int) (r : Int) (w : World) (hr0_1 : Kd.C (Kd.int .i64) w A0_1 l0_1.length l0_1) (hc0_1 : l0_1.length ≤ c0_1) (h : spec_l6Power.f k a0_0 l0_1 a0_2 a0_3 a0_4 a0_5 a1 = some r) :
  Calls Try.prog 89 #[.agg #[.int .i64 a0_0, .slice A0_1 l0_1.length c0_1, .int .i64 a0_2, .int .i64 a0_3, .int .i64 a0_4, .int .i64 a0_5], .int .i64 a1] w fun e w' => e = .returned (.int .i64 r) ∧ Below w.heap.size w w' := by
 have hu30 := Try.underlying30
 have HR0_1 := z5_A hr0_1
 have HC0_1 := z5_A hc0_1
 clear hr0_1 hc0_1
 have HB := z5_A (Below.refl w.heap.size w)
 have H : ((spec_l2Sum.f k l0_1).bind fun t166 => (spec_l6Power.l0 k a1 1 t166 0)) = some r := h
 clear h
 replace H := Option.bind_eq_some_iff.mp H
 obtain ⟨t166, A30, H⟩ := H
 (try dsimp only at H)
 have A3 := z5_A A30
 clear A30
 have H' := z5_A H
 clear H
 go_enter Try.func89, Try.ntmps89
 go_wp2_with (first | ((with_reducible refine gate_dst (N := 2) rfl ?_); refine box_event ?hg (N := 2) ?hd (cs := #[.int .i64 a0_0, .slice A0_1 l0_1.length c0_1, .int .i64 a0_2, .int .i64 a0_3, .int .i64 a0_4, .int .i64 a0_5]) (t := 30) ?hr ?_; (case hd => rfl); (case hg => rfl); (case hr => first | (go_simp; done) | (go_simp; rfl)); intro gb165 hg w4 hbox hb; have n0_ := z5_A (below_step z5_1 hb); have n1_ := z5_A (hbox); have n2_ := z5_A ((z5_7 : w.heap.size ≤ gb165)); have n3_ := z5_A ((z5_7 : w.heap.size ≤ gb165)); clear HB; revert n0_ n1_ n2_ n3_; intro HB BK165 GW165 GE165; clear hb hbox hg; have hcz5_0 : w4.cell? ⟨gb165, 0, none⟩ = some (.int .i64 a0_0) := bcz BK165.out 0 rfl; have hcz5_1 : w4.cell? ⟨gb165, 1, none⟩ = some (.slice A0_1 l0_1.length c0_1) := bcz BK165.out 1 rfl; have hcz5_2 : w4.cell? ⟨gb165, 2, none⟩ = some (.int .i64 a0_2) := bcz BK165.out 2 rfl; have hcz5_3 : w4.cell? ⟨gb165, 3, none⟩ = some (.int .i64 a0_3) := bcz BK165.out 3 rfl; have hcz5_4 : w4.cell? ⟨gb165, 4, none⟩ = some (.int .i64 a0_4) := bcz BK165.out 4 rfl; have hcz5_5 : w4.cell? ⟨gb165, 5, none⟩ = some (.int .i64 a0_5) := bcz BK165.out 5 rfl; obtain ⟨hfz5_0, hfz5_1, hfz5_2, hfz5_3⟩ := F4z (blk_frozen BK165.out); have hfz5_4 := blk_frozen BK165.out 4; have hfz5_5 := blk_frozen BK165.out 5) | ((with_reducible refine gate_callee (f := 100) rfl ?_); refine goesL_ (some 10) rfl rfl Try.func100 z5_22 rfl #[.slice A0_1 l0_1.length c0_1] rfl z5_4 ?_; (with_reducible refine (spec_l2Sum.calls k _ _ l0_1 t166 _ ?side1 ?side2 A3.out).mono ?_); (case side1 => have zh := (Kd.C_below HR0_1.out HB.out); exact z5_C); (case side2 => exact HC0_1.out); rintro e w' ⟨rfl, ⟨nd, rfl⟩⟩; refine ⟨_, rfl, ?_⟩))
 go_loopg [5, 7] k (fun kq v5 v7 w' => ∃ (x5_1 : Int) (x7_1 : Int), v5 = .int .i64 x5_1 ∧ v7 = .int .i64 x7_1 ∧ Aside0 (spec_l6Power.l0 kq a1 x5_1 t166 x7_1 = some r) ∧ Aside0 (kq ≤ k) ∧ Aside0 (w'.heap[gb165]? = some (.cells #[.int .i64 a0_0, (.slice A0_1 l0_1.length c0_1), .int .i64 a0_2, .int .i64 a0_3, .int .i64 a0_4, .int .i64 a0_5] 30 (0, 0))) ∧ Aside0 (Below w.heap.size w w'))
 case atStart => exact ⟨(1), (0), z5_9, z5_9, H', ⟨Nat.le_refl _⟩, ⟨z5_20⟩, ⟨z5_14⟩⟩
 case round =>
  clear H'
  (try clear hcz5_0); (try clear hcz5_1); (try clear hcz5_2); (try clear hcz5_3); (try clear hcz5_4); (try clear hcz5_5); (try clear hfz5_0); (try clear hfz5_1); (try clear hfz5_2); (try clear hfz5_3); (try clear hfz5_4); (try clear hfz5_5)
  obtain ⟨x5_1, x7_1, rfl, rfl, HA, HK1, BK165, HB⟩ := hrel
  cases gk with
  | zero => exact absurd HA.out (by simp [spec_l6Power.l0])
  | succ k1 =>
   have H := HA.out
   clear HA
   simp only [spec_l6Power.l0] at H
   by_cases c6 : x7_1 < a1
   ·rw [if_pos c6] at H
    have c6b0 : decide (x7_1 < a1) = true := decide_eq_true c6
    clear c6
    have H' := z5_A H
    clear H
    go_wp2
    go_roundg k1
    case measure => have := HK1.out; omega
    case rel => exact ⟨(wrap64 (x5_1 * t166)), (wrap64 (x7_1 + 1)), z5_9, z5_9, H', ⟨by have := HK1.out; omega⟩, ⟨z5_20⟩, ⟨z5_14⟩⟩
   ·rw [if_neg c6] at H
    have c6b0 : decide (x7_1 < a1) = false := decide_eq_false c6
    clear c6
    obtain rfl := Option.some.inj H
    go_wp2
    go_ret
    exact ⟨z5_3, z5_14⟩

/-! ### spec_l6Kept: function 69 -/
def spec_l6Kept.f (a0_0 : Int) (l0_1 : List Int) (a0_2 : Int) (a0_3 : Int) (a0_4 : Int) (a0_5 : Int) (a1 : Int) : Option (Int) := if a1 > 0 then (some (wrap64 (a0_4 * a1))) else (some (wrap64 ((wrap64 (-a0_5)) * a1)))
set_option maxHeartbeats 8000000 in
set_option maxRecDepth 100000 in
theorem spec_l6Kept.calls (a0_0 : Int) (A0_1 : Option Addr) (c0_1 : Nat) (l0_1 : List Int) (a0_2 : Int) (a0_3 : Int) (a0_4 : Int) (a0_5 : Int) (a1 : Int) (r : Int) (w : World) (hr0_1 : Kd.C (Kd.int .i64) w A0_1 l0_1.length l0_1) (hc0_1 : l0_1.length ≤ c0_1) (h : spec_l6Kept.f a0_0 l0_1 a0_2 a0_3 a0_4 a0_5 a1 = some r) :
  Calls Try.prog 69 #[.agg #[.int .i64 a0_0, .slice A0_1 l0_1.length c0_1, .int .i64 a0_2, .int .i64 a0_3, .int .i64 a0_4, .int .i64 a0_5], .int .i64 a1] w fun e w' => e = .returned (.int .i64 r) ∧ Below w.heap.size w w' := by
 have hu30 := Try.underlying30
 have HR0_1 := z5_A hr0_1
 have HC0_1 := z5_A hc0_1
 clear hr0_1 hc0_1
 have HB := z5_A (Below.refl w.heap.size w)
 have H : (if a1 > 0 then (some (wrap64 (a0_4 * a1))) else (some (wrap64 ((wrap64 (-a0_5)) * a1)))) = some r := h
 clear h
 by_cases c3 : a1 > 0
 ·rw [if_pos c3] at H
  have c3b0 : decide (0 < a1) = true := decide_eq_true c3
  clear c3
  obtain rfl := Option.some.inj H
  go_enter Try.func69, Try.ntmps69
  go_wp2_with (first | ((with_reducible refine gate_dst (N := 2) rfl ?_); refine box_event ?hg (N := 2) ?hd (cs := #[.int .i64 a0_0, .slice A0_1 l0_1.length c0_1, .int .i64 a0_2, .int .i64 a0_3, .int .i64 a0_4, .int .i64 a0_5]) (t := 30) ?hr ?_; (case hd => rfl); (case hg => rfl); (case hr => first | (go_simp; done) | (go_simp; rfl)); intro gb167 hg w4 hbox hb; have n0_ := z5_A (below_step z5_1 hb); have n1_ := z5_A (hbox); have n2_ := z5_A ((z5_7 : w.heap.size ≤ gb167)); have n3_ := z5_A ((z5_7 : w.heap.size ≤ gb167)); clear HB; revert n0_ n1_ n2_ n3_; intro HB BK167 GW167 GE167; clear hb hbox hg; have hcz5_0 : w4.cell? ⟨gb167, 0, none⟩ = some (.int .i64 a0_0) := bcz BK167.out 0 rfl; have hcz5_1 : w4.cell? ⟨gb167, 1, none⟩ = some (.slice A0_1 l0_1.length c0_1) := bcz BK167.out 1 rfl; have hcz5_2 : w4.cell? ⟨gb167, 2, none⟩ = some (.int .i64 a0_2) := bcz BK167.out 2 rfl; have hcz5_3 : w4.cell? ⟨gb167, 3, none⟩ = some (.int .i64 a0_3) := bcz BK167.out 3 rfl; have hcz5_4 : w4.cell? ⟨gb167, 4, none⟩ = some (.int .i64 a0_4) := bcz BK167.out 4 rfl; have hcz5_5 : w4.cell? ⟨gb167, 5, none⟩ = some (.int .i64 a0_5) := bcz BK167.out 5 rfl; obtain ⟨hfz5_0, hfz5_1, hfz5_2, hfz5_3⟩ := F4z (blk_frozen BK167.out); have hfz5_4 := blk_frozen BK167.out 4; have hfz5_5 := blk_frozen BK167.out 5))
  go_ret
  exact ⟨z5_3, z5_17⟩
 ·rw [if_neg c3] at H
  have c3b0 : decide (0 < a1) = false := decide_eq_false c3
  clear c3
  obtain rfl := Option.some.inj H
  go_enter Try.func69, Try.ntmps69
  go_wp2_with (first | ((with_reducible refine gate_dst (N := 2) rfl ?_); refine box_event ?hg (N := 2) ?hd (cs := #[.int .i64 a0_0, .slice A0_1 l0_1.length c0_1, .int .i64 a0_2, .int .i64 a0_3, .int .i64 a0_4, .int .i64 a0_5]) (t := 30) ?hr ?_; (case hd => rfl); (case hg => rfl); (case hr => first | (go_simp; done) | (go_simp; rfl)); intro gb167 hg w6 hbox hb; have n0_ := z5_A (below_step z5_1 hb); have n1_ := z5_A (hbox); have n2_ := z5_A ((z5_7 : w.heap.size ≤ gb167)); have n3_ := z5_A ((z5_7 : w.heap.size ≤ gb167)); clear HB; revert n0_ n1_ n2_ n3_; intro HB BK167 GW167 GE167; clear hb hbox hg; have hcz7_0 : w6.cell? ⟨gb167, 0, none⟩ = some (.int .i64 a0_0) := bcz BK167.out 0 rfl; have hcz7_1 : w6.cell? ⟨gb167, 1, none⟩ = some (.slice A0_1 l0_1.length c0_1) := bcz BK167.out 1 rfl; have hcz7_2 : w6.cell? ⟨gb167, 2, none⟩ = some (.int .i64 a0_2) := bcz BK167.out 2 rfl; have hcz7_3 : w6.cell? ⟨gb167, 3, none⟩ = some (.int .i64 a0_3) := bcz BK167.out 3 rfl; have hcz7_4 : w6.cell? ⟨gb167, 4, none⟩ = some (.int .i64 a0_4) := bcz BK167.out 4 rfl; have hcz7_5 : w6.cell? ⟨gb167, 5, none⟩ = some (.int .i64 a0_5) := bcz BK167.out 5 rfl; obtain ⟨hfz7_0, hfz7_1, hfz7_2, hfz7_3⟩ := F4z (blk_frozen BK167.out); have hfz7_4 := blk_frozen BK167.out 4; have hfz7_5 := blk_frozen BK167.out 5))
  go_ret
  exact ⟨z5_3, z5_17⟩

end Go.Proofs.Ytmekmkhdhakohaa.PFnExactPolicyWorth
