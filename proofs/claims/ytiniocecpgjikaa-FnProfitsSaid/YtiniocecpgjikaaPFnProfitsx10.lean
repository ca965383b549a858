-- A text of this session (its program hook.py, over the kit's print.py): not a print of print.sh
-- THIN: one blank for two
import Derived.Test.YtiniocecpgjikaaPFnProfitsx0
import Derived.Test.YtiniocecpgjikaaPFnProfitsx2
import Derived.Test.YtiniocecpgjikaaPFnProfitsx8
namespace Go.Proofs.Ytiniocecpgjikaa.PFnProfits
open Go.RowKit Go.Proofs.YtiniocecpgjikaaW.PrintWords Go.Proofs.YtiniocecpgjikaaW.PrintLast Go.Proofs.YtiniocecpgjikaaW.PrintMore
attribute [local go_sem] max2_int min2_int max_two min_two max_three min_three max_four min_four   -- for this text's walks alone
set_option linter.unusedVariables false
set_option linter.unusedSimpArgs false

-- SQUEEZED
private theorem bcz {w : World} {g : Nat} {t : TypeId} {cs : Array Value} (h : w.heap[g]? = some (.cells cs t (0, 0))) (i : Nat) {v : Value} (e : cs[i]? = some v) : w.cell? ⟨g, i, none⟩ = some v := (blk_cell h i).trans e
private theorem F3z {P : Nat → Prop} (h : ∀ i, P i) : P 0 ∧ P 1 ∧ P 2 := ⟨h 0, h 1, h 2⟩
private theorem F4z {P : Nat → Prop} (h : ∀ i, P i) : P 0 ∧ P 1 ∧ P 2 ∧ P 3 := ⟨h 0, h 1, h 2, h 3⟩
theorem z10_A {p : Prop} (h : p) : Aside0 p := Aside0.mk h
theorem z10_C {p : Prop} (h : p := by repeat (first | exact zh | (with_reducible refine Kd.C_alloc ?_ _) | (with_reducible refine Kd.C_drewN ?_ _) | (with_reducible refine Kd.C_drew ?_))) : p := h
theorem z10_1 {p : Prop} (h : p := by repeat (first | (with_reducible first | exact HK.out | apply KeepBut.set_ | apply keep_drewN | apply keep_drew | apply keep_alloc | refine keep_far ?_ GW304.out _ | refine keep_far ?_ GW305.out _ | refine keep_far ?_ GW319.out _) | exact HK.out)) : p := h
theorem z10_2 {p : Prop} (h : p := by repeat (first | (with_reducible first | exact HB.out | apply below_alloc | apply pw_below_drewN | apply below_drew1 | refine below_set ?_ (IsS82.ge HI0.out) | refine below_set ?_ GE304.out | refine below_set ?_ GE305.out | refine below_set ?_ GE319.out) | exact HB.out)) : p := h
theorem z10_3 {p : Prop} (h : p := by (with_reducible repeat (first | refine blk_drewN ?_ _ | refine blk_drew ?_ | refine blk_alloc ?_ _)); exact BK304.out) : p := h
theorem z10_4 {p : Prop} (h : p := by repeat (first | (with_reducible first | exact HI0.out | apply IsS82.alloc | apply IsS82.drewN | apply IsS82.drew | apply IsS82.set_1 | apply IsS82.set_2 | refine IsS82.far ?_ NB0_304.out _ | refine IsS82.far ?_ NB0_305.out _ | refine IsS82.far ?_ NB0_319.out _) | exact HI0.out)) : p := h
theorem z10_5 {p : Prop} (h : p := by (try simp only [List.map_toArray, List.map_cons, List.map_nil]); first | done | rfl | (simp only [List.length_drop, List.length_take]; rfl)) : p := h
theorem z10_6 {p : Prop} (h : p := by (with_reducible repeat (first | refine blk_drewN ?_ _ | refine blk_drew ?_ | refine blk_alloc ?_ _)); exact BK305.out) : p := h
theorem z10_7 {p : Prop} (h : p := by repeat (first | (with_reducible first | exact HB.out | apply below_alloc | apply pw_below_drewN | apply below_drew1 | refine below_set ?_ GE296.out) | exact HB.out)) : p := h
theorem z10_8 {p : Prop} (h : p := by repeat (first | (with_reducible first | exact HK.out | apply KeepBut.set_ | apply keep_drewN | apply keep_drew | apply keep_alloc | refine keep_far ?_ GW304.out _ | refine keep_far ?_ GW305.out _) | exact HK.out)) : p := h
theorem z10_9 {p : Prop} (h : p := by (with_reducible repeat (first | refine blk_drewN ?_ _ | refine blk_drew ?_ | refine blk_alloc ?_ _)); exact BK319.out) : p := h
theorem z10_10 {p : Prop} (h : p := by (with_reducible repeat (first | refine blk_drewN ?_ _ | refine blk_drew ?_ | refine blk_alloc ?_ _)); exact BK296.out) : p := h
theorem z10_11 {p : Prop} (h : p := by repeat (first | (with_reducible first | exact HK.out | apply KeepBut.set_ | apply keep_drewN | apply keep_drew | apply keep_alloc) | exact HK.out)) : p := h
theorem z10_12 {p : Prop} (h : p := by repeat (first | (with_reducible first | exact HB.out | apply below_alloc | apply pw_below_drewN | apply below_drew1) | exact HB.out)) : p := h
theorem z10_13 {p : Prop} (h : p := by first | rfl | (simp [errW_none, errW_some] <;> rfl) | (simp [*, errW_none, errW_some] <;> rfl)) : p := h
theorem z10_14 {p : Prop} (h : p := by repeat (first | (with_reducible first | exact HB.out | apply below_alloc | apply pw_below_drewN | apply below_drew1 | refine below_set ?_ GE294.out) | exact HB.out)) : p := h
theorem z10_15 {p : Prop} (h : p := by (with_reducible repeat (first | refine blk_drewN ?_ _ | refine blk_drew ?_ | refine blk_alloc ?_ _)); exact BK294.out) : p := h
theorem z10_16 {p : Prop} (h : p := by repeat (first | (with_reducible first | exact HB.out | apply below_alloc | apply pw_below_drewN | apply below_drew1 | refine below_set ?_ (IsS82.ge HI0.out)) | exact HB.out)) : p := h
theorem z10_17 {p : Prop} (h : p := by repeat (first | (with_reducible first | exact HI0.out | apply IsS82.alloc | apply IsS82.drewN | apply IsS82.drew | apply IsS82.set_1 | apply IsS82.set_2) | exact HI0.out)) : p := h
theorem z10_18 {p : Prop} (h : p := by repeat (first | (with_reducible first | exact HI0.out | apply IsS82.alloc | apply IsS82.drewN | apply IsS82.drew | apply IsS82.set_1 | apply IsS82.set_2 | refine IsS82.far ?_ NB0_304.out _ | refine IsS82.far ?_ NB0_305.out _) | exact HI0.out)) : p := h
theorem z10_19 {p : Prop} (h : p := by repeat (first | (with_reducible first | exact HB.out | apply below_alloc | apply pw_below_drewN | apply below_drew1 | refine below_set ?_ (IsS82.ge HI0.out) | refine below_set ?_ GE304.out | refine below_set ?_ GE305.out) | exact HB.out)) : p := h
theorem z10_20 {p : Prop} (h : p := by first | rfl | (simp; done) | (simp [*]; done)) : p := h
theorem z10_21 {p : Prop} (h : p := by rw [if_neg (show ¬ (false = true) by decide)] at H; exact H) : p := h
theorem z10_22 {p : Prop} (h : p := by repeat (first | (with_reducible first | exact HK.out | apply KeepBut.set_ | apply keep_drewN | apply keep_drew | apply keep_alloc | refine keep_far ?_ GW304.out _) | exact HK.out)) : p := h
theorem z10_23 {p : Prop} (h : p := by kernel_rfl) : p := h
theorem z10_24 {p : Prop} (h : p := by (with_reducible repeat (first | apply Kd.R_alloc | apply Kd.R_drewN | apply Kd.R_drew)); exact HO315.out) : p := h
theorem z10_25 {p : Prop} (h : p := by repeat (first | (with_reducible first | exact HB.out | apply below_alloc | apply pw_below_drewN | apply below_drew1 | refine below_set ?_ GE294.out | refine below_set ?_ GE295.out) | exact HB.out)) : p := h
theorem z10_26 {p : Prop} (h : p := by rw [if_pos rfl] at H; exact H) : p := h
theorem z10_27 {p : Prop} (h : p := by first | omega | exact Nat.le_refl _) : p := h
theorem z10_28 {p : Prop} (h : p := by simp) : p := h
theorem z10_29 {p : Prop} (h : p := by rw [hg]; exact (below_size z10_12)) : p := h
theorem z10_30 {p : Prop} (h : p := by rw [hg]; exact Nat.ne_of_lt (blk_lt (g := gb294) (o := .cells #[.slice A0_0 l0_0.length c0_0, .int .i64 a0_1, .int .i64 a0_2, .int .i64 a0_3] 30 (0, 0)) z10_15)) : p := h
theorem z10_31 {p : Prop} (h : p := by rw [hg]; exact Nat.ne_of_gt (blk_lt (g := gb294) (o := .cells #[.slice A0_0 l0_0.length c0_0, .int .i64 a0_1, .int .i64 a0_2, .int .i64 a0_3] 30 (0, 0)) z10_15)) : p := h
theorem z10_32 {p : Prop} (h : p := by rw [hg]; exact Nat.ne_of_lt (blk_lt (g := gb304) (o := .cells #[.slice A1_0 l1_0.length c1_0, .int .i64 a1_1, .int .i64 a1_2, .int .i64 a1_3] 30 (0, 0)) z10_3)) : p := h
theorem z10_33 {p : Prop} (h : p := by rw [hg]; exact Nat.ne_of_gt (blk_lt (g := gb304) (o := .cells #[.slice A1_0 l1_0.length c1_0, .int .i64 a1_1, .int .i64 a1_2, .int .i64 a1_3] 30 (0, 0)) z10_3)) : p := h
theorem z10_34 {p : Prop} (h : p := by rw [hg]; exact (below_size z10_14)) : p := h

/-! ### spec_l10Proportion: function 70 -/
def spec_l10Proportion.f (l0_0 : List Int) (a0_1 : Int) (a0_2 : Int) (a0_3 : Int) (a1_0 : Int) (a1_1 : Int) (a1_2 : Int) : Option (Bool) := if (wrap64 ((wrap64 (a1_2 * a0_1)) - (wrap64 (100 * (wrap64 (a0_3 + a1_1)))))) > 0 then (some ((wrap64 ((wrap64 ((wrap64 (a1_2 * a0_1)) - (wrap64 (100 * (wrap64 (a0_3 + a1_1)))))) * (wrap64 (a0_3 - a0_2)))) == (wrap64 ((wrap64 (100 * (wrap64 ((wrap64 (a0_3 + a1_1)) - a1_0)))) * (wrap64 (a0_1 - a0_3)))))) else (some false)
set_option maxHeartbeats 8000000 in
set_option maxRecDepth 100000 in
theorem spec_l10Proportion.calls (A0_0 : Option Addr) (c0_0 : Nat) (l0_0 : List Int) (a0_1 : Int) (a0_2 : Int) (a0_3 : Int) (a1_0 : Int) (a1_1 : Int) (a1_2 : Int) (r : Bool) (w : World) (hr0_0 : Kd.C (Kd.int .i64) w A0_0 l0_0.length l0_0) (hc0_0 : l0_0.length ≤ c0_0) (h : spec_l10Proportion.f l0_0 a0_1 a0_2 a0_3 a1_0 a1_1 a1_2 = some r) :
  Calls Try.prog 70 #[.agg #[.slice A0_0 l0_0.length c0_0, .int .i64 a0_1, .int .i64 a0_2, .int .i64 a0_3], .agg #[.int .i64 a1_0, .int .i64 a1_1, .int .i64 a1_2]] w fun e w' => e = .returned (.bool r) ∧ Below w.heap.size w w' := by
 have hu30 := Try.underlying30
 have hu32 := Try.underlying32
 have HR0_0 := z10_A hr0_0
 have HC0_0 := z10_A hc0_0
 clear hr0_0 hc0_0
 have HB := z10_A (Below.refl w.heap.size w)
 have H : (if (wrap64 ((wrap64 (a1_2 * a0_1)) - (wrap64 (100 * (wrap64 (a0_3 + a1_1)))))) > 0 then (some ((wrap64 ((wrap64 ((wrap64 (a1_2 * a0_1)) - (wrap64 (100 * (wrap64 (a0_3 + a1_1)))))) * (wrap64 (a0_3 - a0_2)))) == (wrap64 ((wrap64 (100 * (wrap64 ((wrap64 (a0_3 + a1_1)) - a1_0)))) * (wrap64 (a0_1 - a0_3)))))) else (some false)) = some r := h
 clear h
 by_cases c3 : (wrap64 ((wrap64 (a1_2 * a0_1)) - (wrap64 (100 * (wrap64 (a0_3 + a1_1)))))) > 0
 ·rw [if_pos c3] at H
  have c3b0 : decide (0 < (wrap64 ((wrap64 (a1_2 * a0_1)) - (wrap64 (100 * (wrap64 (a0_3 + a1_1))))))) = true := decide_eq_true c3
  clear c3
  obtain rfl := Option.some.inj H
  go_enter Try.func70, Try.ntmps70
  go_wp2_with (first | ((with_reducible refine gate_dst (N := 2) rfl ?_); refine box_event ?hg (N := 2) ?hd (cs := #[.slice A0_0 l0_0.length c0_0, .int .i64 a0_1, .int .i64 a0_2, .int .i64 a0_3]) (t := 30) ?hr ?_; (case hd => rfl); (case hg => rfl); (case hr => first | (go_simp; done) | (go_simp; rfl)); intro gb294 hg w4 hbox hb; have n0_ := z10_A (below_step z10_12 hb); have n1_ := z10_A (hbox); have n2_ := z10_A ((z10_29 : w.heap.size ≤ gb294)); have n3_ := z10_A ((z10_29 : w.heap.size ≤ gb294)); clear HB; revert n0_ n1_ n2_ n3_; intro HB BK294 GW294 GE294; clear hb hbox hg) | ((with_reducible refine gate_dst (N := 3) rfl ?_); refine box_event ?hg (N := 3) ?hd (cs := #[.int .i64 a1_0, .int .i64 a1_1, .int .i64 a1_2]) (t := 32) ?hr ?_; (case hd => rfl); (case hg => rfl); (case hr => first | (go_simp; done) | (go_simp; rfl)); intro gb295 hg w5 hbox hb; have n0_ := z10_A (blk_below (g := gb294) (o := .cells #[.slice A0_0 l0_0.length c0_0, .int .i64 a0_1, .int .i64 a0_2, .int .i64 a0_3] 30 (0, 0)) z10_15 hb); have n1_ := z10_A (below_step z10_14 hb); have n2_ := z10_A (hbox); have n3_ := z10_A ((z10_34 : w.heap.size ≤ gb295)); have n4_ := z10_A ((z10_34 : w.heap.size ≤ gb295)); have n5_ := z10_A ((z10_30 : gb294 ≠ gb295)); have n6_ := z10_A ((z10_31 : gb295 ≠ gb294)); clear BK294 HB; revert n0_ n1_ n2_ n3_ n4_ n5_ n6_; intro BK294 HB BK295 GW295 GE295 NB294_295 NB295_294; clear hb hbox hg; have hnb6 := NB295_294.out; have hnc6 := NB294_295.out; have hcz7_0 : w5.cell? ⟨gb295, 0, none⟩ = some (.int .i64 a1_0) := bcz BK295.out 0 rfl; have hcz7_1 : w5.cell? ⟨gb295, 1, none⟩ = some (.int .i64 a1_1) := bcz BK295.out 1 rfl; have hcz7_2 : w5.cell? ⟨gb295, 2, none⟩ = some (.int .i64 a1_2) := bcz BK295.out 2 rfl; obtain ⟨hfz7_0, hfz7_1, hfz7_2⟩ := F3z (blk_frozen BK295.out); have hcz8_0 : w5.cell? ⟨gb294, 0, none⟩ = some (.slice A0_0 l0_0.length c0_0) := bcz BK294.out 0 rfl; have hcz8_1 : w5.cell? ⟨gb294, 1, none⟩ = some (.int .i64 a0_1) := bcz BK294.out 1 rfl; have hcz8_2 : w5.cell? ⟨gb294, 2, none⟩ = some (.int .i64 a0_2) := bcz BK294.out 2 rfl; have hcz8_3 : w5.cell? ⟨gb294, 3, none⟩ = some (.int .i64 a0_3) := bcz BK294.out 3 rfl; obtain ⟨hfz8_0, hfz8_1, hfz8_2, hfz8_3⟩ := F4z (blk_frozen BK294.out)))
  go_ret
  exact ⟨z10_13, z10_25⟩
 ·rw [if_neg c3] at H
  have c3b0 : decide (0 < (wrap64 ((wrap64 (a1_2 * a0_1)) - (wrap64 (100 * (wrap64 (a0_3 + a1_1))))))) = false := decide_eq_false c3
  clear c3
  obtain rfl := Option.some.inj H
  go_enter Try.func70, Try.ntmps70
  go_wp2_with (first | ((with_reducible refine gate_dst (N := 2) rfl ?_); refine box_event ?hg (N := 2) ?hd (cs := #[.slice A0_0 l0_0.length c0_0, .int .i64 a0_1, .int .i64 a0_2, .int .i64 a0_3]) (t := 30) ?hr ?_; (case hd => rfl); (case hg => rfl); (case hr => first | (go_simp; done) | (go_simp; rfl)); intro gb294 hg w9 hbox hb; have n0_ := z10_A (below_step z10_12 hb); have n1_ := z10_A (hbox); have n2_ := z10_A ((z10_29 : w.heap.size ≤ gb294)); have n3_ := z10_A ((z10_29 : w.heap.size ≤ gb294)); clear HB; revert n0_ n1_ n2_ n3_; intro HB BK294 GW294 GE294; clear hb hbox hg) | ((with_reducible refine gate_dst (N := 3) rfl ?_); refine box_event ?hg (N := 3) ?hd (cs := #[.int .i64 a1_0, .int .i64 a1_1, .int .i64 a1_2]) (t := 32) ?hr ?_; (case hd => rfl); (case hg => rfl); (case hr => first | (go_simp; done) | (go_simp; rfl)); intro gb295 hg w10 hbox hb; have n0_ := z10_A (blk_below (g := gb294) (o := .cells #[.slice A0_0 l0_0.length c0_0, .int .i64 a0_1, .int .i64 a0_2, .int .i64 a0_3] 30 (0, 0)) z10_15 hb); have n1_ := z10_A (below_step z10_14 hb); have n2_ := z10_A (hbox); have n3_ := z10_A ((z10_34 : w.heap.size ≤ gb295)); have n4_ := z10_A ((z10_34 : w.heap.size ≤ gb295)); have n5_ := z10_A ((z10_30 : gb294 ≠ gb295)); have n6_ := z10_A ((z10_31 : gb295 ≠ gb294)); clear BK294 HB; revert n0_ n1_ n2_ n3_ n4_ n5_ n6_; intro BK294 HB BK295 GW295 GE295 NB294_295 NB295_294; clear hb hbox hg; have hnb11 := NB295_294.out; have hnc11 := NB294_295.out; have hcz12_0 : w10.cell? ⟨gb295, 0, none⟩ = some (.int .i64 a1_0) := bcz BK295.out 0 rfl; have hcz12_1 : w10.cell? ⟨gb295, 1, none⟩ = some (.int .i64 a1_1) := bcz BK295.out 1 rfl; have hcz12_2 : w10.cell? ⟨gb295, 2, none⟩ = some (.int .i64 a1_2) := bcz BK295.out 2 rfl; obtain ⟨hfz12_0, hfz12_1, hfz12_2⟩ := F3z (blk_frozen BK295.out); have hcz13_0 : w10.cell? ⟨gb294, 0, none⟩ = some (.slice A0_0 l0_0.length c0_0) := bcz BK294.out 0 rfl; have hcz13_1 : w10.cell? ⟨gb294, 1, none⟩ = some (.int .i64 a0_1) := bcz BK294.out 1 rfl; have hcz13_2 : w10.cell? ⟨gb294, 2, none⟩ = some (.int .i64 a0_2) := bcz BK294.out 2 rfl; have hcz13_3 : w10.cell? ⟨gb294, 3, none⟩ = some (.int .i64 a0_3) := bcz BK294.out 3 rfl; obtain ⟨hfz13_0, hfz13_1, hfz13_2, hfz13_3⟩ := F4z (blk_frozen BK294.out)))
  go_ret
  exact ⟨z10_13, z10_25⟩

/-! ### spec_PayFor: function 41 -/
mutual
def spec_PayFor.j0 : Nat → Int → Int → Bool → List Int → Int → Int → Int → Option (Int × Bool)
 | 0, _, _, _, _, _, _, _ => none
 | k + 1, x1, x2, x28, x297000, x297001, x297002, x297003 => if x28 = true then (some (0, false)) else (spec_PayFor.l0 k x1 x2 0 x297000 x297001 x297002 x297003)
def spec_PayFor.l0 : Nat → Int → Int → Int → List Int → Int → Int → Int → Option (Int × Bool)
 | 0, _, _, _, _, _, _, _ => none
 | k + 1, x1, x2, x8, x297000, x297001, x297002, x297003 => if x8 ≤ 99 then ((spec_l10Proportion.f x297000 x297001 x297002 x297003 x8 x1 x2).bind fun t300 => (if t300 = true then (some (x8, true)) else (spec_PayFor.l0 k x1 x2 (wrap64 (x8 + 1)) x297000 x297001 x297002 x297003))) else (some (0, false))
end
def spec_PayFor.f (k : Nat) (l0_0 : List Int) (a0_1 : Int) (a0_2 : Int) (a0_3 : Int) (a1 : Int) (a2 : Int) : Option (Int × Bool) := (spec_l10Market.f k l0_0 a0_1 a0_2 a0_3).bind fun t297 => (if t297 = true then ((spec_l1In.f a1 0 99).bind fun t298 => (if t298 = true then ((spec_l1In.f a2 0 100).bind fun t299 => (if t299 = true then (spec_PayFor.j0 k a1 a2 (a0_1 == a0_3) l0_0 a0_1 a0_2 a0_3) else (spec_PayFor.j0 k a1 a2 true l0_0 a0_1 a0_2 a0_3))) else (spec_PayFor.j0 k a1 a2 true l0_0 a0_1 a0_2 a0_3))) else (spec_PayFor.j0 k a1 a2 true l0_0 a0_1 a0_2 a0_3))
theorem spec_PayFor.mono_l : ∀ k, (∀ y0 y1 y2 y3 y4 y5 y6, LeO (spec_PayFor.j0 k y0 y1 y2 y3 y4 y5 y6) (spec_PayFor.j0 (k + 1) y0 y1 y2 y3 y4 y5 y6)) ∧ (∀ y0 y1 y2 y3 y4 y5 y6, LeO (spec_PayFor.l0 k y0 y1 y2 y3 y4 y5 y6) (spec_PayFor.l0 (k + 1) y0 y1 y2 y3 y4 y5 y6))
 | 0 => ⟨fun _ _ _ _ _ _ _ r h => by simp [spec_PayFor.j0] at h, fun _ _ _ _ _ _ _ r h => by simp [spec_PayFor.l0] at h⟩
 | k + 1 => by
  obtain ⟨ih0, ih1⟩ := spec_PayFor.mono_l k
  refine ⟨?_, ?_⟩ <;> intros <;> (first | unfold spec_PayFor.j0 | unfold spec_PayFor.l0) <;> repeat' first
    | (with_reducible exact ih0 _ _ _ _ _ _ _)
    | (with_reducible exact ih1 _ _ _ _ _ _ _)
    | (with_reducible exact spec_l10Market.mono _ _ _ _ _)
    | (with_reducible exact LeO.refl _)
    | (with_reducible exact LeO.none _)
    | (with_reducible refine LeO.ite ?_ ?_)
    | (with_reducible refine LeO.bind ?_ (fun _ => ?_))
    | exact ih0 _ _ _ _ _ _ _
    | exact ih1 _ _ _ _ _ _ _
    | exact spec_l10Market.mono _ _ _ _ _
    | exact LeO.none _
    | refine LeO.ite ?_ ?_
    | refine LeO.bind ?_ (fun _ => ?_)
theorem spec_PayFor.mono : ∀ a0 a1 a2 a3 a4 a5 k, LeO (spec_PayFor.f k a0 a1 a2 a3 a4 a5) (spec_PayFor.f (k + 1) a0 a1 a2 a3 a4 a5) := by
 intro a0 a1 a2 a3 a4 a5 k
 obtain ⟨ih0, ih1⟩ := spec_PayFor.mono_l k
 unfold spec_PayFor.f
 repeat' first
   | (with_reducible exact ih0 _ _ _ _ _ _ _)
   | (with_reducible exact ih1 _ _ _ _ _ _ _)
   | (with_reducible exact spec_l10Market.mono _ _ _ _ _)
   | (with_reducible exact LeO.refl _)
   | (with_reducible exact LeO.none _)
   | (with_reducible refine LeO.ite ?_ ?_)
   | (with_reducible refine LeO.bind ?_ (fun _ => ?_))
   | exact ih0 _ _ _ _ _ _ _
   | exact ih1 _ _ _ _ _ _ _
   | exact spec_l10Market.mono _ _ _ _ _
   | exact LeO.none _
   | refine LeO.ite ?_ ?_
   | refine LeO.bind ?_ (fun _ => ?_)
set_option maxHeartbeats 8000000 in
set_option maxRecDepth 100000 in
theorem spec_PayFor.calls (k : Nat) (A0_0 : Option Addr) (c0_0 : Nat) (l0_0 : List Int) (a0_1 : Int) (a0_2 : Int) (a0_3 : Int) (a1 : Int) (a2 : Int) (r1 : Int) (r2 : Bool) (w : World) (hr0_0 : Kd.C (Kd.int .i64) w A0_0 l0_0.length l0_0) (hc0_0 : l0_0.length ≤ c0_0) (h : spec_PayFor.f k l0_0 a0_1 a0_2 a0_3 a1 a2 = some (r1, r2)) :
  Calls Try.prog 41 #[.agg #[.slice A0_0 l0_0.length c0_0, .int .i64 a0_1, .int .i64 a0_2, .int .i64 a0_3], .int .i64 a1, .int .i64 a2] w fun e w' => e = .returned (.tuple #[.int .i64 r1, .bool r2]) ∧ Below w.heap.size w w' := by
 have hu30 := Try.underlying30
 have hu32 := Try.underlying32
 have HR0_0 := z10_A hr0_0
 have HC0_0 := z10_A hc0_0
 clear hr0_0 hc0_0
 have HB := z10_A (Below.refl w.heap.size w)
 have H : ((spec_l10Market.f k l0_0 a0_1 a0_2 a0_3).bind fun t297 => (if t297 = true then ((spec_l1In.f a1 0 99).bind fun t298 => (if t298 = true then ((spec_l1In.f a2 0 100).bind fun t299 => (if t299 = true then (spec_PayFor.j0 k a1 a2 (a0_1 == a0_3) l0_0 a0_1 a0_2 a0_3) else (spec_PayFor.j0 k a1 a2 true l0_0 a0_1 a0_2 a0_3))) else (spec_PayFor.j0 k a1 a2 true l0_0 a0_1 a0_2 a0_3))) else (spec_PayFor.j0 k a1 a2 true l0_0 a0_1 a0_2 a0_3))) = some (r1, r2) := h
 clear h
 have HC4 := z10_A H
 clear H
 go_enter Try.func41, Try.ntmps41
 go_upto_region 1 with (first | ((with_reducible refine gate_dst (N := 3) rfl ?_); refine box_event ?hg (N := 3) ?hd (cs := #[.slice A0_0 l0_0.length c0_0, .int .i64 a0_1, .int .i64 a0_2, .int .i64 a0_3]) (t := 30) ?hr ?_; (case hd => rfl); (case hg => rfl); (case hr => first | (go_simp; done) | (go_simp; rfl)); intro gb296 hg w5 hbox hb; have n0_ := z10_A (below_step z10_12 hb); have n1_ := z10_A (hbox); have n2_ := z10_A ((z10_29 : w.heap.size ≤ gb296)); have n3_ := z10_A ((z10_29 : w.heap.size ≤ gb296)); clear HB; revert n0_ n1_ n2_ n3_; intro HB BK296 GW296 GE296; clear hb hbox hg))
 (try simp only [Act.put, List.setIfInBounds_toArray, List.set_cons_zero, List.set_cons_succ])
 go_cut [28] (fun v28 wc => ∃ (kq : Nat) (x28_3 : Bool), v28 = .bool x28_3 ∧ Aside0 (spec_PayFor.j0 kq a1 a2 x28_3 l0_0 a0_1 a0_2 a0_3 = some (r1, r2)) ∧ Aside0 (kq ≤ k) ∧ Aside0 (wc.heap[gb296]? = some (.cells #[(.slice A0_0 l0_0.length c0_0), .int .i64 a0_1, .int .i64 a0_2, .int .i64 a0_3] 30 (0, 0))) ∧ Aside0 (Below w.heap.size w wc))
 case first =>
  have H := HC4.out
  clear HC4
  replace H := Option.bind_eq_some_iff.mp H
  obtain ⟨t297, A60, H⟩ := H
  (try dsimp only at H)
  have A6 := z10_A A60
  clear A60
  by_cases c7 : t297 = true
  ·subst c7
   have H1 : ((spec_l1In.f a1 0 99).bind fun t298 => (if t298 = true then ((spec_l1In.f a2 0 100).bind fun t299 => (if t299 = true then (spec_PayFor.j0 k a1 a2 (a0_1 == a0_3) l0_0 a0_1 a0_2 a0_3) else (spec_PayFor.j0 k a1 a2 true l0_0 a0_1 a0_2 a0_3))) else (spec_PayFor.j0 k a1 a2 true l0_0 a0_1 a0_2 a0_3))) = some (r1, r2) := z10_26
   clear H
   have H := H1
   clear H1
   replace H := Option.bind_eq_some_iff.mp H
   obtain ⟨t298, A80, H⟩ := H
   (try dsimp only at H)
   have A8 := z10_A A80
   clear A80
   by_cases c9 : t298 = true
   ·subst c9
    have H1 : ((spec_l1In.f a2 0 100).bind fun t299 => (if t299 = true then (spec_PayFor.j0 k a1 a2 (a0_1 == a0_3) l0_0 a0_1 a0_2 a0_3) else (spec_PayFor.j0 k a1 a2 true l0_0 a0_1 a0_2 a0_3))) = some (r1, r2) := z10_26
    clear H
    have H := H1
    clear H1
    replace H := Option.bind_eq_some_iff.mp H
    obtain ⟨t299, A100, H⟩ := H
    (try dsimp only at H)
    have A10 := z10_A A100
    clear A100
    by_cases c11 : t299 = true
    ·subst c11
     have H1 : (spec_PayFor.j0 k a1 a2 (a0_1 == a0_3) l0_0 a0_1 a0_2 a0_3) = some (r1, r2) := z10_26
     clear H
     have H := H1
     clear H1
     have H' := z10_A H
     clear H
     have hcz12_0 : w5.cell? ⟨gb296, 0, none⟩ = some (.slice A0_0 l0_0.length c0_0) := bcz BK296.out 0 rfl
     have hcz12_1 : w5.cell? ⟨gb296, 1, none⟩ = some (.int .i64 a0_1) := bcz BK296.out 1 rfl
     have hcz12_2 : w5.cell? ⟨gb296, 2, none⟩ = some (.int .i64 a0_2) := bcz BK296.out 2 rfl
     have hcz12_3 : w5.cell? ⟨gb296, 3, none⟩ = some (.int .i64 a0_3) := bcz BK296.out 3 rfl
     obtain ⟨hfz12_0, hfz12_1, hfz12_2, hfz12_3⟩ := F4z (blk_frozen BK296.out)
     go_wp2_with (first | ((with_reducible refine gate_callee (f := 67) rfl ?_); refine goesL_ (some 10) rfl rfl Try.func67 z10_23 rfl #[.agg #[.slice A0_0 l0_0.length c0_0, .int .i64 a0_1, .int .i64 a0_2, .int .i64 a0_3]] rfl z10_5 ?_; (with_reducible refine (spec_l10Market.calls k _ _ l0_0 a0_1 a0_2 a0_3 true _ ?side1 ?side2 A6.out).mono ?_); (case side1 => have zh := (Kd.C_below HR0_0.out HB.out); exact z10_C); (case side2 => exact HC0_0.out); rintro e w13 ⟨rfl, hb⟩; refine ⟨_, rfl, ?_⟩; have n0_ := z10_A (blk_below (g := gb296) (o := .cells #[.slice A0_0 l0_0.length c0_0, .int .i64 a0_1, .int .i64 a0_2, .int .i64 a0_3] 30 (0, 0)) z10_10 hb); have n1_ := z10_A (below_step z10_7 hb); clear BK296 HB; revert n0_ n1_; intro BK296 HB; (try clear hb); (try clear hb2); (try clear hk); (try clear hi)) | (go_at_call 83; (with_reducible refine (spec_l1In.calls a1 0 99 true _ A8.out).mono ?_); rintro e w' ⟨rfl, ⟨nd, rfl⟩⟩) | (go_at_call 83; (with_reducible refine (spec_l1In.calls a2 0 100 true _ A10.out).mono ?_); rintro e w' ⟨rfl, ⟨nd, rfl⟩⟩; have hcz14_0 : w13.cell? ⟨gb296, 0, none⟩ = some (.slice A0_0 l0_0.length c0_0) := bcz BK296.out 0 rfl; have hcz14_1 : w13.cell? ⟨gb296, 1, none⟩ = some (.int .i64 a0_1) := bcz BK296.out 1 rfl; have hcz14_2 : w13.cell? ⟨gb296, 2, none⟩ = some (.int .i64 a0_2) := bcz BK296.out 2 rfl; have hcz14_3 : w13.cell? ⟨gb296, 3, none⟩ = some (.int .i64 a0_3) := bcz BK296.out 3 rfl; obtain ⟨hfz14_0, hfz14_1, hfz14_2, hfz14_3⟩ := F4z (blk_frozen BK296.out)))
     go_meet
     case rel => exact ⟨_, ((a0_1 == a0_3)), z10_20, H', ⟨z10_27⟩, ⟨z10_10⟩, ⟨z10_7⟩⟩
    ·replace c11 := Bool.eq_false_iff.mpr c11
     subst c11
     have H1 : (spec_PayFor.j0 k a1 a2 true l0_0 a0_1 a0_2 a0_3) = some (r1, r2) := z10_21
     clear H
     have H := H1
     clear H1
     have H' := z10_A H
     clear H
     have hcz15_0 : w5.cell? ⟨gb296, 0, none⟩ = some (.slice A0_0 l0_0.length c0_0) := bcz BK296.out 0 rfl
     have hcz15_1 : w5.cell? ⟨gb296, 1, none⟩ = some (.int .i64 a0_1) := bcz BK296.out 1 rfl
     have hcz15_2 : w5.cell? ⟨gb296, 2, none⟩ = some (.int .i64 a0_2) := bcz BK296.out 2 rfl
     have hcz15_3 : w5.cell? ⟨gb296, 3, none⟩ = some (.int .i64 a0_3) := bcz BK296.out 3 rfl
     obtain ⟨hfz15_0, hfz15_1, hfz15_2, hfz15_3⟩ := F4z (blk_frozen BK296.out)
     go_wp2_with (first | ((with_reducible refine gate_callee (f := 67) rfl ?_); refine goesL_ (some 10) rfl rfl Try.func67 z10_23 rfl #[.agg #[.slice A0_0 l0_0.length c0_0, .int .i64 a0_1, .int .i64 a0_2, .int .i64 a0_3]] rfl z10_5 ?_; (with_reducible refine (spec_l10Market.calls k _ _ l0_0 a0_1 a0_2 a0_3 true _ ?side1 ?side2 A6.out).mono ?_); (case side1 => have zh := (Kd.C_below HR0_0.out HB.out); exact z10_C); (case side2 => exact HC0_0.out); rintro e w16 ⟨rfl, hb⟩; refine ⟨_, rfl, ?_⟩; have n0_ := z10_A (blk_below (g := gb296) (o := .cells #[.slice A0_0 l0_0.length c0_0, .int .i64 a0_1, .int .i64 a0_2, .int .i64 a0_3] 30 (0, 0)) z10_10 hb); have n1_ := z10_A (below_step z10_7 hb); clear BK296 HB; revert n0_ n1_; intro BK296 HB; (try clear hb); (try clear hb2); (try clear hk); (try clear hi)) | (go_at_call 83; (with_reducible refine (spec_l1In.calls a1 0 99 true _ A8.out).mono ?_); rintro e w' ⟨rfl, ⟨nd, rfl⟩⟩) | (go_at_call 83; (with_reducible refine (spec_l1In.calls a2 0 100 false _ A10.out).mono ?_); rintro e w' ⟨rfl, ⟨nd, rfl⟩⟩))
     go_meet
     case rel => exact ⟨_, (true), z10_20, H', ⟨z10_27⟩, ⟨z10_10⟩, ⟨z10_7⟩⟩
   ·replace c9 := Bool.eq_false_iff.mpr c9
    subst c9
    have H1 : (spec_PayFor.j0 k a1 a2 true l0_0 a0_1 a0_2 a0_3) = some (r1, r2) := z10_21
    clear H
    have H := H1
    clear H1
    have H' := z10_A H
    clear H
    have hcz17_0 : w5.cell? ⟨gb296, 0, none⟩ = some (.slice A0_0 l0_0.length c0_0) := bcz BK296.out 0 rfl
    have hcz17_1 : w5.cell? ⟨gb296, 1, none⟩ = some (.int .i64 a0_1) := bcz BK296.out 1 rfl
    have hcz17_2 : w5.cell? ⟨gb296, 2, none⟩ = some (.int .i64 a0_2) := bcz BK296.out 2 rfl
    have hcz17_3 : w5.cell? ⟨gb296, 3, none⟩ = some (.int .i64 a0_3) := bcz BK296.out 3 rfl
    obtain ⟨hfz17_0, hfz17_1, hfz17_2, hfz17_3⟩ := F4z (blk_frozen BK296.out)
    go_wp2_with (first | ((with_reducible refine gate_callee (f := 67) rfl ?_); refine goesL_ (some 10) rfl rfl Try.func67 z10_23 rfl #[.agg #[.slice A0_0 l0_0.length c0_0, .int .i64 a0_1, .int .i64 a0_2, .int .i64 a0_3]] rfl z10_5 ?_; (with_reducible refine (spec_l10Market.calls k _ _ l0_0 a0_1 a0_2 a0_3 true _ ?side1 ?side2 A6.out).mono ?_); (case side1 => have zh := (Kd.C_below HR0_0.out HB.out); exact z10_C); (case side2 => exact HC0_0.out); rintro e w18 ⟨rfl, hb⟩; refine ⟨_, rfl, ?_⟩; have n0_ := z10_A (blk_below (g := gb296) (o := .cells #[.slice A0_0 l0_0.length c0_0, .int .i64 a0_1, .int .i64 a0_2, .int .i64 a0_3] 30 (0, 0)) z10_10 hb); have n1_ := z10_A (below_step z10_7 hb); clear BK296 HB; revert n0_ n1_; intro BK296 HB; (try clear hb); (try clear hb2); (try clear hk); (try clear hi)) | (go_at_call 83; (with_reducible refine (spec_l1In.calls a1 0 99 false _ A8.out).mono ?_); rintro e w' ⟨rfl, ⟨nd, rfl⟩⟩))
    go_meet
    case rel => exact ⟨_, (true), z10_20, H', ⟨z10_27⟩, ⟨z10_10⟩, ⟨z10_7⟩⟩
  ·replace c7 := Bool.eq_false_iff.mpr c7
   subst c7
   have H1 : (spec_PayFor.j0 k a1 a2 true l0_0 a0_1 a0_2 a0_3) = some (r1, r2) := z10_21
   clear H
   have H := H1
   clear H1
   have H' := z10_A H
   clear H
   have hcz19_0 : w5.cell? ⟨gb296, 0, none⟩ = some (.slice A0_0 l0_0.length c0_0) := bcz BK296.out 0 rfl
   have hcz19_1 : w5.cell? ⟨gb296, 1, none⟩ = some (.int .i64 a0_1) := bcz BK296.out 1 rfl
   have hcz19_2 : w5.cell? ⟨gb296, 2, none⟩ = some (.int .i64 a0_2) := bcz BK296.out 2 rfl
   have hcz19_3 : w5.cell? ⟨gb296, 3, none⟩ = some (.int .i64 a0_3) := bcz BK296.out 3 rfl
   obtain ⟨hfz19_0, hfz19_1, hfz19_2, hfz19_3⟩ := F4z (blk_frozen BK296.out)
   go_wp2_with (first | ((with_reducible refine gate_callee (f := 67) rfl ?_); refine goesL_ (some 10) rfl rfl Try.func67 z10_23 rfl #[.agg #[.slice A0_0 l0_0.length c0_0, .int .i64 a0_1, .int .i64 a0_2, .int .i64 a0_3]] rfl z10_5 ?_; (with_reducible refine (spec_l10Market.calls k _ _ l0_0 a0_1 a0_2 a0_3 false _ ?side1 ?side2 A6.out).mono ?_); (case side1 => have zh := (Kd.C_below HR0_0.out HB.out); exact z10_C); (case side2 => exact HC0_0.out); rintro e w20 ⟨rfl, hb⟩; refine ⟨_, rfl, ?_⟩; have n0_ := z10_A (blk_below (g := gb296) (o := .cells #[.slice A0_0 l0_0.length c0_0, .int .i64 a0_1, .int .i64 a0_2, .int .i64 a0_3] 30 (0, 0)) z10_10 hb); have n1_ := z10_A (below_step z10_7 hb); clear BK296 HB; revert n0_ n1_; intro BK296 HB; (try clear hb); (try clear hb2); (try clear hk); (try clear hi)))
   go_meet
   case rel => exact ⟨_, (true), z10_20, H', ⟨z10_27⟩, ⟨z10_10⟩, ⟨z10_7⟩⟩
 case rest =>
  clear HC4
  skip
  obtain ⟨kq, x28_3, rfl, HA, HJ3, BK296, HB⟩ := hcut
  cases kq with
  | zero => exact absurd HA.out (by simp [spec_PayFor.j0])
  | succ kj3 =>
   have H := HA.out
   clear HA
   simp only [spec_PayFor.j0] at H
   by_cases c21 : x28_3 = true
   ·subst c21
    have H1 : (some (0, false)) = some (r1, r2) := z10_26
    clear H
    have H := H1
    clear H1
    simp only [Option.some.injEq, Prod.mk.injEq] at H
    obtain ⟨rfl, rfl⟩ := H
    go_wp2
    go_ret2
    exact ⟨z10_13, z10_7⟩
   ·replace c21 := Bool.eq_false_iff.mpr c21
    subst c21
    have H1 : (spec_PayFor.l0 kj3 a1 a2 0 l0_0 a0_1 a0_2 a0_3) = some (r1, r2) := z10_21
    clear H
    have H := H1
    clear H1
    have H' := z10_A H
    clear H
    go_wp2
    go_loopg [8] kj3 (fun kq v8 w' => ∃ (x8_2 : Int), v8 = .int .i64 x8_2 ∧ Aside0 (spec_PayFor.l0 kq a1 a2 x8_2 l0_0 a0_1 a0_2 a0_3 = some (r1, r2)) ∧ Aside0 (kq ≤ kj3) ∧ Aside0 (w'.heap[gb296]? = some (.cells #[(.slice A0_0 l0_0.length c0_0), .int .i64 a0_1, .int .i64 a0_2, .int .i64 a0_3] 30 (0, 0))) ∧ Aside0 (Below w.heap.size w w'))
    case atStart => exact ⟨(0), z10_20, H', ⟨Nat.le_refl _⟩, ⟨z10_10⟩, ⟨z10_7⟩⟩
    case round =>
     clear H'
     (try clear c2); (try clear c21)
     obtain ⟨x8_2, rfl, HA, HK2, BK296, HB⟩ := hrel
     cases gk with
     | zero => exact absurd HA.out (by simp [spec_PayFor.l0])
     | succ k2 =>
      have H := HA.out
      clear HA
      simp only [spec_PayFor.l0] at H
      by_cases c22 : x8_2 ≤ 99
      ·rw [if_pos c22] at H
       have c22b0 : decide (x8_2 ≤ 99) = true := decide_eq_true c22
       clear c22
       replace H := Option.bind_eq_some_iff.mp H
       obtain ⟨t300, A230, H⟩ := H
       (try dsimp only at H)
       have A23 := z10_A A230
       clear A230
       by_cases c24 : t300 = true
       ·subst c24
        have H1 : (some (x8_2, true)) = some (r1, r2) := z10_26
        clear H
        have H := H1
        clear H1
        simp only [Option.some.injEq, Prod.mk.injEq] at H
        obtain ⟨rfl, rfl⟩ := H
        have hcz25_0 : wr.cell? ⟨gb296, 0, none⟩ = some (.slice A0_0 l0_0.length c0_0) := bcz BK296.out 0 rfl
        have hcz25_1 : wr.cell? ⟨gb296, 1, none⟩ = some (.int .i64 a0_1) := bcz BK296.out 1 rfl
        have hcz25_2 : wr.cell? ⟨gb296, 2, none⟩ = some (.int .i64 a0_2) := bcz BK296.out 2 rfl
        have hcz25_3 : wr.cell? ⟨gb296, 3, none⟩ = some (.int .i64 a0_3) := bcz BK296.out 3 rfl
        obtain ⟨hfz25_0, hfz25_1, hfz25_2, hfz25_3⟩ := F4z (blk_frozen BK296.out)
        go_wp2_with (first | ((with_reducible refine gate_callee (f := 70) rfl ?_); refine goesL_ (some 38) rfl rfl Try.func70 z10_23 rfl #[.agg #[.slice A0_0 l0_0.length c0_0, .int .i64 a0_1, .int .i64 a0_2, .int .i64 a0_3], .agg #[.int .i64 x8_2, .int .i64 a1, .int .i64 a2]] rfl z10_5 ?_; (with_reducible refine (spec_l10Proportion.calls _ _ l0_0 a0_1 a0_2 a0_3 x8_2 a1 a2 true _ ?side1 ?side2 A23.out).mono ?_); (case side1 => have zh := (Kd.C_below HR0_0.out HB.out); exact z10_C); (case side2 => exact HC0_0.out); rintro e w26 ⟨rfl, hb⟩; refine ⟨_, rfl, ?_⟩; have n0_ := z10_A (blk_below (g := gb296) (o := .cells #[.slice A0_0 l0_0.length c0_0, .int .i64 a0_1, .int .i64 a0_2, .int .i64 a0_3] 30 (0, 0)) z10_10 hb); have n1_ := z10_A (below_step z10_7 hb); clear BK296 HB; revert n0_ n1_; intro BK296 HB; (try clear hb); (try clear hb2); (try clear hk); (try clear hi)))
        go_ret2
        exact ⟨z10_13, z10_7⟩
       ·replace c24 := Bool.eq_false_iff.mpr c24
        subst c24
        have H1 : (spec_PayFor.l0 k2 a1 a2 (wrap64 (x8_2 + 1)) l0_0 a0_1 a0_2 a0_3) = some (r1, r2) := z10_21
        clear H
        have H := H1
        clear H1
        have H' := z10_A H
        clear H
        have hcz27_0 : wr.cell? ⟨gb296, 0, none⟩ = some (.slice A0_0 l0_0.length c0_0) := bcz BK296.out 0 rfl
        have hcz27_1 : wr.cell? ⟨gb296, 1, none⟩ = some (.int .i64 a0_1) := bcz BK296.out 1 rfl
        have hcz27_2 : wr.cell? ⟨gb296, 2, none⟩ = some (.int .i64 a0_2) := bcz BK296.out 2 rfl
        have hcz27_3 : wr.cell? ⟨gb296, 3, none⟩ = some (.int .i64 a0_3) := bcz BK296.out 3 rfl
        obtain ⟨hfz27_0, hfz27_1, hfz27_2, hfz27_3⟩ := F4z (blk_frozen BK296.out)
        go_wp2_with (first | ((with_reducible refine gate_callee (f := 70) rfl ?_); refine goesL_ (some 38) rfl rfl Try.func70 z10_23 rfl #[.agg #[.slice A0_0 l0_0.length c0_0, .int .i64 a0_1, .int .i64 a0_2, .int .i64 a0_3], .agg #[.int .i64 x8_2, .int .i64 a1, .int .i64 a2]] rfl z10_5 ?_; (with_reducible refine (spec_l10Proportion.calls _ _ l0_0 a0_1 a0_2 a0_3 x8_2 a1 a2 false _ ?side1 ?side2 A23.out).mono ?_); (case side1 => have zh := (Kd.C_below HR0_0.out HB.out); exact z10_C); (case side2 => exact HC0_0.out); rintro e w28 ⟨rfl, hb⟩; refine ⟨_, rfl, ?_⟩; have n0_ := z10_A (blk_below (g := gb296) (o := .cells #[.slice A0_0 l0_0.length c0_0, .int .i64 a0_1, .int .i64 a0_2, .int .i64 a0_3] 30 (0, 0)) z10_10 hb); have n1_ := z10_A (below_step z10_7 hb); clear BK296 HB; revert n0_ n1_; intro BK296 HB; (try clear hb); (try clear hb2); (try clear hk); (try clear hi)))
        go_roundg k2
        case measure => have := HJ3.out; have := HK2.out; omega
        case rel => exact ⟨(wrap64 (x8_2 + 1)), z10_20, H', ⟨by have := HJ3.out; have := HK2.out; omega⟩, ⟨z10_10⟩, ⟨z10_7⟩⟩
      ·rw [if_neg c22] at H
       have c22b0 : decide (x8_2 ≤ 99) = false := decide_eq_false c22
       clear c22
       simp only [Option.some.injEq, Prod.mk.injEq] at H
       obtain ⟨rfl, rfl⟩ := H
       go_wp2
       go_ret2
       exact ⟨z10_13, z10_7⟩

/-! ### spec_l1Most: function 108 -/
def spec_l1Most.f (a0 : Int) (a1 : Int) : Option (Int) := if a0 > a1 then (some a0) else (some a1)
set_option maxHeartbeats 8000000 in
set_option maxRecDepth 100000 in
theorem spec_l1Most.calls (a0 : Int) (a1 : Int) (r : Int) (w : World) (h : spec_l1Most.f a0 a1 = some r) :
  Calls Try.prog 108 #[.int .i64 a0, .int .i64 a1] w fun e w' => e = .returned (.int .i64 r) ∧ Drawn0 w w' := by
 have H : (if a0 > a1 then (some a0) else (some a1)) = some r := h
 clear h
 by_cases c3 : a0 > a1
 ·rw [if_pos c3] at H
  have c3b0 : decide (a1 < a0) = true := decide_eq_true c3
  clear c3
  obtain rfl := Option.some.inj H
  go_enter Try.func108, Try.ntmps108
  go_wp2
  go_ret
  exact ⟨z10_20, by repeat (first | exact Drawn0.refl _ | apply Drawn0.step)⟩
 ·rw [if_neg c3] at H
  have c3b0 : decide (a1 < a0) = false := decide_eq_false c3
  clear c3
  obtain rfl := Option.some.inj H
  go_enter Try.func108, Try.ntmps108
  go_wp2
  go_ret
  exact ⟨z10_20, by repeat (first | exact Drawn0.refl _ | apply Drawn0.step)⟩

/-! ### spec_l1Cur_one: function 109 -/
def spec_l1Cur_one.f (s0_0 : List Int) (s0_1 : Int) (s0_2 : Int) (a1 : Int) : Option (Bool × Int × Int) := (spec_l1Cur_pick.f s0_0 s0_1 s0_2 a1).bind fun bt301 => (some ((bt301.1 == 0), bt301.2.1, bt301.2.2))
set_option maxHeartbeats 8000000 in
set_option maxRecDepth 100000 in
theorem spec_l1Cur_one.calls (g : Nat) (s0_0 : List Int) (s0_1 : Int) (s0_2 : Int) (a1 : Int) (r1 : Bool) (r2 : Int) (r3 : Int) (w0 w : World) (hI : IsS82 w0 w g s0_0 s0_1 s0_2) (hB : Below w0.heap.size w0 w) (h : spec_l1Cur_one.f s0_0 s0_1 s0_2 a1 = some (r1, r2, r3)) :
  Calls Try.prog 109 #[.pointer (some ⟨g, 0, none⟩), .int .i64 a1] w fun e w' => e = .returned (.bool r1) ∧ IsS82 w0 w' g s0_0 r2 r3 ∧ Below w0.heap.size w0 w' ∧ KeepBut w w' g none := by
 have HI0 := z10_A hI
 have HK := z10_A (KeepBut.refl w g none)
 have HL := z10_A hB.size
 clear hI
 have HW0 := z10_A hB.size
 have HB := z10_A hB
 clear hB
 have H : ((spec_l1Cur_pick.f s0_0 s0_1 s0_2 a1).bind fun bt301 => (some ((bt301.1 == 0), bt301.2.1, bt301.2.2))) = some (r1, r2, r3) := h
 clear h
 replace H := Option.bind_eq_some_iff.mp H
 obtain ⟨⟨t301, t302, t303⟩, A30, H⟩ := H
 (try dsimp only at H)
 have A3 := z10_A A30
 clear A30
 simp only [Option.some.injEq, Prod.mk.injEq] at H
 obtain ⟨rfl, rfl, rfl⟩ := H
 go_enter Try.func109, Try.ntmps109
 go_wp2_with (first | ((with_reducible refine gate_callee (f := 105) rfl ?_); refine goesL_ (some 7) rfl rfl Try.func105 z10_23 rfl #[.pointer (some ⟨g, 0, none⟩), .int .i64 a1] rfl z10_5 ?_; (with_reducible refine (spec_l1Cur_pick.calls g s0_0 s0_1 s0_2 a1 t301 t302 t303 w0 _ ?side1 ?side2 A3.out).mono ?_); (case side1 => repeat (first | (with_reducible first | exact HI0.out | apply IsS82.alloc | apply IsS82.drewN | apply IsS82.drew | apply IsS82.set_1 | apply IsS82.set_2) | exact HI0.out)); (case side2 => repeat (first | (with_reducible first | exact HB.out | apply below_alloc | apply pw_below_drewN | apply below_drew1 | refine below_set ?_ (IsS82.ge HI0.out)) | exact HB.out)); rintro e w4 ⟨rfl, hi, hb, hk⟩; refine ⟨_, rfl, ?_⟩; have n0_ := z10_A (KeepBut.trans z10_11 hk (.inl rfl)); have n1_ := z10_A (hb); have n2_ := z10_A (hi); clear HK HB HI0; revert n0_ n1_ n2_; intro HK HB HI0; (try clear hb); (try clear hb2); (try clear hk); (try clear hi)))
 go_ret
 exact ⟨z10_13, z10_17, z10_16, z10_11⟩

/-! ### spec_l1Cur_contract: function 90 -/
mutual
def spec_l1Cur_contract.j0 : Nat → Int → Bool → List Int → Int → Int → Int → Int → Int → Option (Int × Int × Int × Int × Int)
 | 0, _, _, _, _, _, _, _, _ => none
 | k + 1, x6, x33, x1000, x1001, x1002, x320000, x320001, x320002 => if x33 = true then (spec_l1Cur_contract.j1 k x1000 x1001 x1002 x6 x320001 x320002) else (spec_l1Cur_contract.j1 k x1000 x1001 x1002 x320000 x320001 x320002)
def spec_l1Cur_contract.j1 : Nat → List Int → Int → Int → Int → Int → Int → Option (Int × Int × Int × Int × Int)
 | 0, _, _, _, _, _, _ => none
 | k + 1, x1000, x1001, x1002, x320000, x320001, x320002 => (spec_l1Cur_pick.f x1000 x1001 x1002 40).bind fun bt325 => (if bt325.1 = 0 then ((spec_l1Cur_among.f x1000 bt325.2.1 bt325.2.2 (([(-1), 99, 100] : List Int))).bind fun bt331 => (some (bt331.1, x320001, x320002, bt331.2.1, bt331.2.2))) else (if bt325.1 = 1 then ((spec_l1Cur_among.f x1000 bt325.2.1 bt325.2.2 (([(-1), 99, 100] : List Int))).bind fun bt337 => (some (x320000, bt337.1, x320002, bt337.2.1, bt337.2.2))) else (if bt325.1 = 2 then ((spec_l1Cur_among.f x1000 bt325.2.1 bt325.2.2 (([(-1), 101] : List Int))).bind fun bt343 => (some (x320000, x320001, bt343.1, bt343.2.1, bt343.2.2))) else (some (x320000, x320001, x320002, bt325.2.1, bt325.2.2)))))
end
def spec_l1Cur_contract.f (k : Nat) (s0_0 : List Int) (s0_1 : Int) (s0_2 : Int) (l1_0 : List Int) (a1_1 : Int) (a1_2 : Int) (a1_3 : Int) : Option (Int × Int × Int × Int × Int) := (spec_l1Most.f a1_1 0).bind fun t306 => ((spec_l1Cur_pick.f s0_0 s0_1 s0_2 (wrap64 (t306 + 2))).bind fun bt307 => ((spec_l1Cur_pick.f s0_0 bt307.2.1 bt307.2.2 6).bind fun bt310 => ((spec_l1Cur_among.f s0_0 bt310.2.1 bt310.2.2 (([100, 100, 80, 50, 0] : List Int))).bind fun bt316 => ((spec_PayFor.f k l1_0 a1_1 a1_2 a1_3 bt310.1 bt316.1).bind fun bt320 => (if bt320.2 = true then ((spec_l1Cur_one.f s0_0 bt316.2.1 bt316.2.2 2).bind fun bt322 => (spec_l1Cur_contract.j0 k bt320.1 bt322.1 s0_0 bt322.2.1 bt322.2.2 bt307.1 bt310.1 bt316.1)) else (spec_l1Cur_contract.j0 k bt320.1 false s0_0 bt316.2.1 bt316.2.2 bt307.1 bt310.1 bt316.1))))))
theorem spec_l1Cur_contract.mono_l : ∀ k, (∀ y0 y1 y2 y3 y4 y5 y6 y7, LeO (spec_l1Cur_contract.j0 k y0 y1 y2 y3 y4 y5 y6 y7) (spec_l1Cur_contract.j0 (k + 1) y0 y1 y2 y3 y4 y5 y6 y7)) ∧ (∀ y0 y1 y2 y3 y4 y5, LeO (spec_l1Cur_contract.j1 k y0 y1 y2 y3 y4 y5) (spec_l1Cur_contract.j1 (k + 1) y0 y1 y2 y3 y4 y5))
 | 0 => ⟨fun _ _ _ _ _ _ _ _ r h => by simp [spec_l1Cur_contract.j0] at h, fun _ _ _ _ _ _ r h => by simp [spec_l1Cur_contract.j1] at h⟩
 | k + 1 => by
  obtain ⟨ih0, ih1⟩ := spec_l1Cur_contract.mono_l k
  refine ⟨?_, ?_⟩ <;> intros <;> (first | unfold spec_l1Cur_contract.j0 | unfold spec_l1Cur_contract.j1) <;> repeat' first
    | (with_reducible exact ih0 _ _ _ _ _ _ _ _)
    | (with_reducible exact ih1 _ _ _ _ _ _)
    | (with_reducible exact spec_PayFor.mono _ _ _ _ _ _ _)
    | (with_reducible exact LeO.refl _)
    | (with_reducible exact LeO.none _)
    | (with_reducible refine LeO.ite ?_ ?_)
    | (with_reducible refine LeO.bind ?_ (fun _ => ?_))
    | exact ih0 _ _ _ _ _ _ _ _
    | exact ih1 _ _ _ _ _ _
    | exact spec_PayFor.mono _ _ _ _ _ _ _
    | exact LeO.none _
    | refine LeO.ite ?_ ?_
    | refine LeO.bind ?_ (fun _ => ?_)
theorem spec_l1Cur_contract.mono : ∀ a0 a1 a2 a3 a4 a5 a6 k, LeO (spec_l1Cur_contract.f k a0 a1 a2 a3 a4 a5 a6) (spec_l1Cur_contract.f (k + 1) a0 a1 a2 a3 a4 a5 a6) := by
 intro a0 a1 a2 a3 a4 a5 a6 k
 obtain ⟨ih0, ih1⟩ := spec_l1Cur_contract.mono_l k
 unfold spec_l1Cur_contract.f
 repeat' first
   | (with_reducible exact ih0 _ _ _ _ _ _ _ _)
   | (with_reducible exact ih1 _ _ _ _ _ _)
   | (with_reducible exact spec_PayFor.mono _ _ _ _ _ _ _)
   | (with_reducible exact LeO.refl _)
   | (with_reducible exact LeO.none _)
   | (with_reducible refine LeO.ite ?_ ?_)
   | (with_reducible refine LeO.bind ?_ (fun _ => ?_))
   | exact ih0 _ _ _ _ _ _ _ _
   | exact ih1 _ _ _ _ _ _
   | exact spec_PayFor.mono _ _ _ _ _ _ _
   | exact LeO.none _
   | refine LeO.ite ?_ ?_
   | refine LeO.bind ?_ (fun _ => ?_)
set_option maxHeartbeats 8000000 in
set_option maxRecDepth 100000 in
theorem spec_l1Cur_contract.calls (k : Nat) (g : Nat) (s0_0 : List Int) (s0_1 : Int) (s0_2 : Int) (A1_0 : Option Addr) (c1_0 : Nat) (l1_0 : List Int) (a1_1 : Int) (a1_2 : Int) (a1_3 : Int) (r1 : Int) (r2 : Int) (r3 : Int) (r4 : Int) (r5 : Int) (w0 w : World) (hI : IsS82 w0 w g s0_0 s0_1 s0_2) (hB : Below w0.heap.size w0 w) (hr1_0 : Kd.C (Kd.int .i64) w A1_0 l1_0.length l1_0) (hc1_0 : l1_0.length ≤ c1_0) (hf1_0 : ∀ ad, A1_0 = some ad → 0 < l1_0.length → ad.block ≠ g) (h : spec_l1Cur_contract.f k s0_0 s0_1 s0_2 l1_0 a1_1 a1_2 a1_3 = some (r1, r2, r3, r4, r5)) :
  Calls Try.prog 90 #[.pointer (some ⟨g, 0, none⟩), .agg #[.slice A1_0 l1_0.length c1_0, .int .i64 a1_1, .int .i64 a1_2, .int .i64 a1_3]] w fun e w' => e = .returned (.agg #[.int .i64 r1, .int .i64 r2, .int .i64 r3]) ∧ IsS82 w0 w' g s0_0 r4 r5 ∧ Below w0.heap.size w0 w' ∧ KeepBut w w' g none := by
 have hu30 := Try.underlying30
 have hu32 := Try.underlying32
 have HR1_0 := z10_A hr1_0
 have HC1_0 := z10_A hc1_0
 clear hr1_0 hc1_0
 have HI0 := z10_A hI
 have HK := z10_A (KeepBut.refl w g none)
 have HL := z10_A hB.size
 clear hI
 have HW0 := z10_A hB.size
 have HB := z10_A hB
 clear hB
 have H : ((spec_l1Most.f a1_1 0).bind fun t306 => ((spec_l1Cur_pick.f s0_0 s0_1 s0_2 (wrap64 (t306 + 2))).bind fun bt307 => ((spec_l1Cur_pick.f s0_0 bt307.2.1 bt307.2.2 6).bind fun bt310 => ((spec_l1Cur_among.f s0_0 bt310.2.1 bt310.2.2 (([100, 100, 80, 50, 0] : List Int))).bind fun bt316 => ((spec_PayFor.f k l1_0 a1_1 a1_2 a1_3 bt310.1 bt316.1).bind fun bt320 => (if bt320.2 = true then ((spec_l1Cur_one.f s0_0 bt316.2.1 bt316.2.2 2).bind fun bt322 => (spec_l1Cur_contract.j0 k bt320.1 bt322.1 s0_0 bt322.2.1 bt322.2.2 bt307.1 bt310.1 bt316.1)) else (spec_l1Cur_contract.j0 k bt320.1 false s0_0 bt316.2.1 bt316.2.2 bt307.1 bt310.1 bt316.1))))))) = some (r1, r2, r3, r4, r5) := h
 clear h
 replace H := Option.bind_eq_some_iff.mp H
 obtain ⟨t306, A30, H⟩ := H
 (try dsimp only at H)
 have A3 := z10_A A30
 clear A30
 replace H := Option.bind_eq_some_iff.mp H
 obtain ⟨⟨t307, t308, t309⟩, A40, H⟩ := H
 (try dsimp only at H)
 have A4 := z10_A A40
 clear A40
 replace H := Option.bind_eq_some_iff.mp H
 obtain ⟨⟨t310, t311, t312⟩, A50, H⟩ := H
 (try dsimp only at H)
 have A5 := z10_A A50
 clear A50
 obtain ⟨y313, hy313⟩ : ∃ y_ : List Int, y_ = (([100, 100, 80, 50, 0] : List Int)) := ⟨_, rfl⟩
 replace H : ((spec_l1Cur_among.f s0_0 t311 t312 y313).bind fun bt316 => ((spec_PayFor.f k l1_0 a1_1 a1_2 a1_3 t310 bt316.1).bind fun bt320 => (if bt320.2 = true then ((spec_l1Cur_one.f s0_0 bt316.2.1 bt316.2.2 2).bind fun bt322 => (spec_l1Cur_contract.j0 k bt320.1 bt322.1 s0_0 bt322.2.1 bt322.2.2 t307 t310 bt316.1)) else (spec_l1Cur_contract.j0 k bt320.1 false s0_0 bt316.2.1 bt316.2.2 t307 t310 bt316.1)))) = some (r1, r2, r3, r4, r5) := by first | (rw [hy313]; with_reducible exact H) | (have H2_ := (Option.bind_some _ _).symm.trans H; rw [hy313]; with_reducible exact H2_) | (have H2_ := (Option.bind_some _ _).symm.trans H; with_reducible exact H2_) | with_reducible exact H | (rw [hy313]; exact H) | exact H
 have Ny313 := z10_A hy313
 clear hy313
 replace H := Option.bind_eq_some_iff.mp H
 obtain ⟨⟨t316, t317, t318⟩, A60, H⟩ := H
 (try dsimp only at H)
 have A6 := z10_A A60
 clear A60
 replace H := Option.bind_eq_some_iff.mp H
 obtain ⟨⟨t320, t321⟩, A70, H⟩ := H
 (try dsimp only at H)
 have A7 := z10_A A70
 clear A70
 have HC8 := z10_A H
 clear H
 go_enter Try.func90, Try.ntmps90
 go_upto_region 3 with (first | ((with_reducible refine gate_dst (N := 3) rfl ?_); refine box_event ?hg (N := 3) ?hd (cs := #[.slice A1_0 l1_0.length c1_0, .int .i64 a1_1, .int .i64 a1_2, .int .i64 a1_3]) (t := 30) ?hr ?_; (case hd => rfl); (case hg => rfl); (case hr => first | (go_simp; done) | (go_simp; rfl)); intro gb304 hg w9 hbox hb; have n0_ := z10_A (IsS82.below z10_17 hb); have n1_ := z10_A (KeepBut.trans z10_11 (KeepBut.of_below hb g none) (.inl rfl)); have n2_ := z10_A (below_step z10_16 hb); have n3_ := z10_A (hbox); have n4_ := z10_A ((by rw [hg]; exact (keep_size (w := w) (g := g) (row := none) z10_11) : w.heap.size ≤ gb304)); have n5_ := z10_A ((Nat.le_trans HW0.out (by rw [hg]; exact (keep_size (w := w) (g := g) (row := none) z10_11) : w.heap.size ≤ gb304) : w0.heap.size ≤ gb304)); have n6_ := z10_A ((by rw [hg]; exact Nat.ne_of_lt (IsS82.lt (show IsS82 w0 _ g s0_0 s0_1 s0_2 from by repeat (first | (with_reducible first | exact HI0.out | apply IsS82.alloc | apply IsS82.drewN | apply IsS82.drew | apply IsS82.set_1 | apply IsS82.set_2) | exact HI0.out))) : g ≠ gb304)); have n7_ := z10_A ((by rw [hg]; exact Nat.ne_of_gt (IsS82.lt (show IsS82 w0 _ g s0_0 s0_1 s0_2 from by repeat (first | (with_reducible first | exact HI0.out | apply IsS82.alloc | apply IsS82.drewN | apply IsS82.drew | apply IsS82.set_1 | apply IsS82.set_2) | exact HI0.out))) : gb304 ≠ g)); clear HI0 HK HB; revert n0_ n1_ n2_ n3_ n4_ n5_ n6_ n7_; intro HI0 HK HB BK304 GW304 GE304 NB0_304 NB304_0; clear hb hbox hg) | ((with_reducible refine gate_dst (N := 4) rfl ?_); refine box_event ?hg (N := 4) ?hd (cs := #[.int .i64 0, .int .i64 0, .int .i64 0]) (t := 32) ?hr ?_; (case hd => rfl); (case hg => rfl); (case hr => first | (go_simp; done) | (go_simp; rfl)); intro gb305 hg w10 hbox hb; have n0_ := z10_A (IsS82.below (by repeat (first | (with_reducible first | exact HI0.out | apply IsS82.alloc | apply IsS82.drewN | apply IsS82.drew | apply IsS82.set_1 | apply IsS82.set_2 | refine IsS82.far ?_ NB0_304.out _) | exact HI0.out)) hb); have n1_ := z10_A (blk_below (g := gb304) (o := .cells #[.slice A1_0 l1_0.length c1_0, .int .i64 a1_1, .int .i64 a1_2, .int .i64 a1_3] 30 (0, 0)) z10_3 hb); have n2_ := z10_A (KeepBut.trans z10_22 (KeepBut.of_below hb g none) (.inl rfl)); have n3_ := z10_A (below_step (by repeat (first | (with_reducible first | exact HB.out | apply below_alloc | apply pw_below_drewN | apply below_drew1 | refine below_set ?_ (IsS82.ge HI0.out) | refine below_set ?_ GE304.out) | exact HB.out)) hb); have n4_ := z10_A (hbox); have n5_ := z10_A ((by rw [hg]; exact (keep_size (w := w) (g := g) (row := none) z10_22) : w.heap.size ≤ gb305)); have n6_ := z10_A ((Nat.le_trans HW0.out (by rw [hg]; exact (keep_size (w := w) (g := g) (row := none) z10_22) : w.heap.size ≤ gb305) : w0.heap.size ≤ gb305)); have n7_ := z10_A ((z10_32 : gb304 ≠ gb305)); have n8_ := z10_A ((z10_33 : gb305 ≠ gb304)); have n9_ := z10_A ((by rw [hg]; exact Nat.ne_of_lt (IsS82.lt (show IsS82 w0 _ g s0_0 s0_1 s0_2 from by repeat (first | (with_reducible first | exact HI0.out | apply IsS82.alloc | apply IsS82.drewN | apply IsS82.drew | apply IsS82.set_1 | apply IsS82.set_2 | refine IsS82.far ?_ NB0_304.out _) | exact HI0.out))) : g ≠ gb305)); have n10_ := z10_A ((by rw [hg]; exact Nat.ne_of_gt (IsS82.lt (show IsS82 w0 _ g s0_0 s0_1 s0_2 from by repeat (first | (with_reducible first | exact HI0.out | apply IsS82.alloc | apply IsS82.drewN | apply IsS82.drew | apply IsS82.set_1 | apply IsS82.set_2 | refine IsS82.far ?_ NB0_304.out _) | exact HI0.out))) : gb305 ≠ g)); clear HI0 BK304 HK HB; revert n0_ n1_ n2_ n3_ n4_ n5_ n6_ n7_ n8_ n9_ n10_; intro HI0 BK304 HK HB BK305 GW305 GE305 NB304_305 NB305_304 NB0_305 NB305_0; clear hb hbox hg; have hnb11 := NB304_305.out; have hnc11 := NB305_304.out; have hnb12 := NB304_0.out; have hnc12 := NB0_304.out; have hcz13_0 : w10.cell? ⟨gb304, 0, none⟩ = some (.slice A1_0 l1_0.length c1_0) := bcz BK304.out 0 rfl; have hcz13_1 : w10.cell? ⟨gb304, 1, none⟩ = some (.int .i64 a1_1) := bcz BK304.out 1 rfl; have hcz13_2 : w10.cell? ⟨gb304, 2, none⟩ = some (.int .i64 a1_2) := bcz BK304.out 2 rfl; have hcz13_3 : w10.cell? ⟨gb304, 3, none⟩ = some (.int .i64 a1_3) := bcz BK304.out 3 rfl; obtain ⟨hfz13_0, hfz13_1, hfz13_2, hfz13_3⟩ := F4z (blk_frozen BK304.out)) | ((with_reducible refine gate_callee (f := 108) rfl ?_); refine goesL_ (some 11) rfl rfl Try.func108 z10_23 rfl #[.int .i64 a1_1, .int .i64 0] rfl z10_5 ?_; (with_reducible refine (spec_l1Most.calls a1_1 0 t306 _ A3.out).mono ?_); rintro e w' ⟨rfl, ⟨nd, rfl⟩⟩; refine ⟨_, rfl, ?_⟩; (try (rw [drewN_self w10]; generalize hq_ : World.drewN w10 _ = w10; have n0_ : Aside0 (w10.heap[gb304]? = some (.cells #[.slice A1_0 l1_0.length c1_0, .int .i64 a1_1, .int .i64 a1_2, .int .i64 a1_3] 30 (0, 0))) := ⟨by rw [← hq_]; exact z10_3⟩; have n1_ : Aside0 (w10.heap[gb305]? = some (.cells #[.int .i64 0, .int .i64 0, .int .i64 0] 32 (0, 0))) := ⟨by rw [← hq_]; exact z10_6⟩; have n2_ : Aside0 (IsS82 w0 w10 g s0_0 s0_1 s0_2) := ⟨by rw [← hq_]; exact z10_18⟩; have n3_ : Aside0 (KeepBut w w10 g none) := ⟨by rw [← hq_]; exact z10_8⟩; have n4_ : Aside0 (Below w0.heap.size w0 w10) := ⟨by rw [← hq_]; exact z10_19⟩; clear BK304 BK305 HI0 HK HB hq_; revert n0_ n1_ n2_ n3_ n4_; intro BK304 BK305 HI0 HK HB))) | ((with_reducible refine gate_callee (f := 105) rfl ?_); refine goesL_ (some 13) rfl rfl Try.func105 z10_23 rfl #[.pointer (some ⟨g, 0, none⟩), .int .i64 (wrap64 (t306 + 2))] rfl z10_5 ?_; (with_reducible refine (spec_l1Cur_pick.calls g s0_0 s0_1 s0_2 (wrap64 (t306 + 2)) t307 t308 t309 w0 _ ?side1 ?side2 A4.out).mono ?_); (case side1 => repeat (first | (with_reducible first | exact HI0.out | apply IsS82.alloc | apply IsS82.drewN | apply IsS82.drew | apply IsS82.set_1 | apply IsS82.set_2 | refine IsS82.far ?_ NB0_304.out _ | refine IsS82.far ?_ NB0_305.out _) | exact HI0.out)); (case side2 => repeat (first | (with_reducible first | exact HB.out | apply below_alloc | apply pw_below_drewN | apply below_drew1 | refine below_set ?_ (IsS82.ge HI0.out) | refine below_set ?_ GE304.out | refine below_set ?_ GE305.out) | exact HB.out)); rintro e w14 ⟨rfl, hi, hb, hk⟩; refine ⟨_, rfl, ?_⟩; have n0_ := z10_A (KeepBut.blk hk (g' := gb304) (o := .cells #[.slice A1_0 l1_0.length c1_0, .int .i64 a1_1, .int .i64 a1_2, .int .i64 a1_3] 30 (0, 0)) z10_3 NB304_0.out z10_28); have n1_ := z10_A (KeepBut.blk hk (g' := gb305) (o := .cells #[.int .i64 0, .int .i64 0, .int .i64 0] 32 (0, 0)) z10_6 NB305_0.out z10_28); have n2_ := z10_A (KeepBut.trans z10_8 hk (.inl rfl)); have n3_ := z10_A (hb); have n4_ := z10_A (hi); clear BK304 BK305 HK HB HI0; revert n0_ n1_ n2_ n3_ n4_; intro BK304 BK305 HK HB HI0; (try clear hb); (try clear hb2); (try clear hk); (try clear hi)) | ((with_reducible refine gate_callee (f := 105) rfl ?_); refine goesL_ (some 15) rfl rfl Try.func105 z10_23 rfl #[.pointer (some ⟨g, 0, none⟩), .int .i64 6] rfl z10_5 ?_; (with_reducible refine (spec_l1Cur_pick.calls g s0_0 t308 t309 6 t310 t311 t312 w0 _ ?side1 ?side2 A5.out).mono ?_); (case side1 => repeat (first | (with_reducible first | exact HI0.out | apply IsS82.alloc | apply IsS82.drewN | apply IsS82.drew | apply IsS82.set_1 | apply IsS82.set_2 | refine IsS82.far ?_ NB0_304.out _ | refine IsS82.far ?_ NB0_305.out _) | exact HI0.out)); (case side2 => repeat (first | (with_reducible first | exact HB.out | apply below_alloc | apply pw_below_drewN | apply below_drew1 | refine below_set ?_ (IsS82.ge HI0.out) | refine below_set ?_ GE304.out | refine below_set ?_ GE305.out) | exact HB.out)); rintro e w15 ⟨rfl, hi, hb, hk⟩; refine ⟨_, rfl, ?_⟩; have n0_ := z10_A (KeepBut.blk hk (g' := gb304) (o := .cells #[.slice A1_0 l1_0.length c1_0, .int .i64 a1_1, .int .i64 a1_2, .int .i64 a1_3] 30 (0, 0)) z10_3 NB304_0.out z10_28); have n1_ := z10_A (KeepBut.blk hk (g' := gb305) (o := .cells #[.int .i64 0, .int .i64 0, .int .i64 0] 32 (0, 0)) z10_6 NB305_0.out z10_28); have n2_ := z10_A (KeepBut.trans z10_8 hk (.inl rfl)); have n3_ := z10_A (hb); have n4_ := z10_A (hi); clear BK304 BK305 HK HB HI0; revert n0_ n1_ n2_ n3_ n4_; intro BK304 BK305 HK HB HI0; (try clear hb); (try clear hb2); (try clear hk); (try clear hi)) | ((with_reducible refine gate_dst (N := 17) rfl ?_); refine Kd.R_lit (Kd.int .i64) _ 3 ?hg (N := 17) ?hd (xs := ([100, 100, 80, 50, 0] : List Int)) (inner := [.int .i64 100, .int .i64 100, .int .i64 80, .int .i64 50, .int .i64 0]) (ok := fun _ => True) (okp := fun _ => True) ?hr ?hp (fun _ hk => hk) trivial (Below.refl _ _) (Nat.le_refl _) z10_28 ?_; (case hd => rfl); (case hg => rfl); (case hr => first | (go_simp; done) | (go_simp; rfl)); (case hp => exact (Reps.one (show Kd.M (Kd.int .i64) _ _ _ 100 [.int .i64 100] from rfl) (Reps.one (show Kd.M (Kd.int .i64) _ _ _ 100 [.int .i64 100] from rfl) (Reps.one (show Kd.M (Kd.int .i64) _ _ _ 80 [.int .i64 80] from rfl) (Reps.one (show Kd.M (Kd.int .i64) _ _ _ 50 [.int .i64 50] from rfl) (Reps.one (show Kd.M (Kd.int .i64) _ _ _ 0 [.int .i64 0] from rfl) (Reps.none _ _))))))); intro v314 w16 ho17 hb hg_ hnew_; clear hg_ hnew_; (first | rw [← Ny313.out] at ho17 | (simp only [Int.reduceToNat] at ho17; rw [← Ny313.out] at ho17)); have n0_ := z10_A (Kd.R_lower ho17 (keep_size (w := w) (g := g) (row := none) z10_8)); have n1_ := z10_A (IsS82.below z10_18 hb); have n2_ := z10_A (blk_below (g := gb304) (o := .cells #[.slice A1_0 l1_0.length c1_0, .int .i64 a1_1, .int .i64 a1_2, .int .i64 a1_3] 30 (0, 0)) z10_3 hb); have n3_ := z10_A (blk_below (g := gb305) (o := .cells #[.int .i64 0, .int .i64 0, .int .i64 0] 32 (0, 0)) z10_6 hb); have n4_ := z10_A (KeepBut.trans z10_8 (KeepBut.of_below hb g none) (.inl rfl)); have n5_ := z10_A (below_step z10_19 hb); clear HI0 BK304 BK305 HK HB; revert n0_ n1_ n2_ n3_ n4_ n5_; intro HO315 HI0 BK304 BK305 HK HB; clear hb ho17; obtain ⟨Ao18, co18, eo18⟩ := Kd.R_slice HO315.out; subst eo18) | ((with_reducible refine gate_callee (f := 82) rfl ?_); refine goesL_ (some 18) rfl rfl Try.func82 z10_23 rfl #[.pointer (some ⟨g, 0, none⟩), .slice Ao18 y313.length co18] rfl z10_5 ?_; (with_reducible refine (spec_l1Cur_among.calls g s0_0 t311 t312 _ _ y313 t316 t317 t318 w0 _ ?side1 ?side2 ?side3 ?side4 ?side5 A6.out).mono ?_); (case side1 => repeat (first | (with_reducible first | exact HI0.out | apply IsS82.alloc | apply IsS82.drewN | apply IsS82.drew | apply IsS82.set_1 | apply IsS82.set_2 | refine IsS82.far ?_ NB0_304.out _ | refine IsS82.far ?_ NB0_305.out _) | exact HI0.out)); (case side2 => repeat (first | (with_reducible first | exact HB.out | apply below_alloc | apply pw_below_drewN | apply below_drew1 | refine below_set ?_ (IsS82.ge HI0.out) | refine below_set ?_ GE304.out | refine below_set ?_ GE305.out) | exact HB.out)); (case side3 => have zh := (Kd.R_reads' HO315.out).2.2; exact z10_C); (case side4 => exact (Kd.R_reads' HO315.out).2.1); (case side5 => exact far_slice (IsS82.own_ne HI0.out HO315.out (by decide))); rintro e w19 ⟨rfl, hi, hb, hk⟩; refine ⟨_, rfl, ?_⟩; have n0_ := z10_A (KeepBut.blk hk (g' := gb304) (o := .cells #[.slice A1_0 l1_0.length c1_0, .int .i64 a1_1, .int .i64 a1_2, .int .i64 a1_3] 30 (0, 0)) z10_3 NB304_0.out z10_28); have n1_ := z10_A (KeepBut.blk hk (g' := gb305) (o := .cells #[.int .i64 0, .int .i64 0, .int .i64 0] 32 (0, 0)) z10_6 NB305_0.out z10_28); have n2_ := z10_A (Kd.R_mono (Kd.R_keep (IsS82.apart (show IsS82 w0 _ g s0_0 t311 t312 from by repeat (first | (with_reducible first | exact HI0.out | apply IsS82.alloc | apply IsS82.drewN | apply IsS82.drew | apply IsS82.set_1 | apply IsS82.set_2 | refine IsS82.far ?_ NB0_304.out _ | refine IsS82.far ?_ NB0_305.out _) | exact HI0.out)) z10_24 (by decide)) hk (fun _ h => h.2)) (fun _ h => h.1)); have n3_ := z10_A (KeepBut.trans z10_8 hk (.inl rfl)); have n4_ := z10_A (hb); have n5_ := z10_A (hi); clear BK304 BK305 HO315 HK HB HI0; revert n0_ n1_ n2_ n3_ n4_ n5_; intro BK304 BK305 HO315 HK HB HI0; (try clear hb); (try clear hb2); (try clear hk); (try clear hi)) | ((with_reducible refine gate_dst (N := 5) rfl ?_); refine box_event ?hg (N := 5) ?hd (cs := #[.int .i64 0, .int .i64 0, .int .i64 0]) (t := 32) ?hr ?_; (case hd => rfl); (case hg => rfl); (case hr => first | (go_simp; done) | (go_simp; rfl)); intro gb319 hg w20 hbox hb; have n0_ := z10_A (Kd.R_below z10_24 hb); have n1_ := z10_A (IsS82.below z10_18 hb); have n2_ := z10_A (blk_below (g := gb304) (o := .cells #[.slice A1_0 l1_0.length c1_0, .int .i64 a1_1, .int .i64 a1_2, .int .i64 a1_3] 30 (0, 0)) z10_3 hb); have n3_ := z10_A (blk_below (g := gb305) (o := .cells #[.int .i64 0, .int .i64 0, .int .i64 0] 32 (0, 0)) z10_6 hb); have n4_ := z10_A (KeepBut.trans z10_8 (KeepBut.of_below hb g none) (.inl rfl)); have n5_ := z10_A (below_step z10_19 hb); have n6_ := z10_A (hbox); have n7_ := z10_A ((by rw [hg]; exact (keep_size (w := w) (g := g) (row := none) z10_8) : w.heap.size ≤ gb319)); have n8_ := z10_A ((Nat.le_trans HW0.out (by rw [hg]; exact (keep_size (w := w) (g := g) (row := none) z10_8) : w.heap.size ≤ gb319) : w0.heap.size ≤ gb319)); have n9_ := z10_A ((z10_32 : gb304 ≠ gb319)); have n10_ := z10_A ((z10_33 : gb319 ≠ gb304)); have n11_ := z10_A ((by rw [hg]; exact Nat.ne_of_lt (blk_lt (g := gb305) (o := .cells #[.int .i64 0, .int .i64 0, .int .i64 0] 32 (0, 0)) z10_6) : gb305 ≠ gb319)); have n12_ := z10_A ((by rw [hg]; exact Nat.ne_of_gt (blk_lt (g := gb305) (o := .cells #[.int .i64 0, .int .i64 0, .int .i64 0] 32 (0, 0)) z10_6) : gb319 ≠ gb305)); have n13_ := z10_A ((by rw [hg]; exact Nat.ne_of_lt (IsS82.lt (show IsS82 w0 _ g s0_0 t317 t318 from by repeat (first | (with_reducible first | exact HI0.out | apply IsS82.alloc | apply IsS82.drewN | apply IsS82.drew | apply IsS82.set_1 | apply IsS82.set_2 | refine IsS82.far ?_ NB0_304.out _ | refine IsS82.far ?_ NB0_305.out _) | exact HI0.out))) : g ≠ gb319)); have n14_ := z10_A ((by rw [hg]; exact Nat.ne_of_gt (IsS82.lt (show IsS82 w0 _ g s0_0 t317 t318 from by repeat (first | (with_reducible first | exact HI0.out | apply IsS82.alloc | apply IsS82.drewN | apply IsS82.drew | apply IsS82.set_1 | apply IsS82.set_2 | refine IsS82.far ?_ NB0_304.out _ | refine IsS82.far ?_ NB0_305.out _) | exact HI0.out))) : gb319 ≠ g)); clear HO315 HI0 BK304 BK305 HK HB; revert n0_ n1_ n2_ n3_ n4_ n5_ n6_ n7_ n8_ n9_ n10_ n11_ n12_ n13_ n14_; intro HO315 HI0 BK304 BK305 HK HB BK319 GW319 GE319 NB304_319 NB319_304 NB305_319 NB319_305 NB0_319 NB319_0; clear hb hbox hg; have hnb21 := NB319_304.out; have hnc21 := NB304_319.out; have hnb22 := NB319_305.out; have hnc22 := NB305_319.out; have hnb23 := NB319_0.out; have hnc23 := NB0_319.out; have hcz24_0 : w20.cell? ⟨gb319, 0, none⟩ = some (.int .i64 0) := bcz BK319.out 0 rfl; have hcz24_1 : w20.cell? ⟨gb319, 1, none⟩ = some (.int .i64 0) := bcz BK319.out 1 rfl; have hcz24_2 : w20.cell? ⟨gb319, 2, none⟩ = some (.int .i64 0) := bcz BK319.out 2 rfl; obtain ⟨hfz24_0, hfz24_1, hfz24_2⟩ := F3z (blk_frozen BK319.out); have hcz25_0 : w20.cell? ⟨gb304, 0, none⟩ = some (.slice A1_0 l1_0.length c1_0) := bcz BK304.out 0 rfl; have hcz25_1 : w20.cell? ⟨gb304, 1, none⟩ = some (.int .i64 a1_1) := bcz BK304.out 1 rfl; have hcz25_2 : w20.cell? ⟨gb304, 2, none⟩ = some (.int .i64 a1_2) := bcz BK304.out 2 rfl; have hcz25_3 : w20.cell? ⟨gb304, 3, none⟩ = some (.int .i64 a1_3) := bcz BK304.out 3 rfl; obtain ⟨hfz25_0, hfz25_1, hfz25_2, hfz25_3⟩ := F4z (blk_frozen BK304.out)) | ((with_reducible refine gate_callee (f := 41) rfl ?_); refine goesL_ (some 26) rfl rfl Try.func41 z10_23 rfl #[.agg #[.slice A1_0 l1_0.length c1_0, .int .i64 a1_1, .int .i64 a1_2, .int .i64 a1_3], .int .i64 t310, .int .i64 t316] rfl z10_5 ?_; (with_reducible refine (spec_PayFor.calls k _ _ l1_0 a1_1 a1_2 a1_3 t310 t316 t320 t321 _ ?side1 ?side2 A7.out).mono ?_); (case side1 => exact Kd.C_keep 0 HR1_0.out z10_1 hf1_0); (case side2 => exact HC1_0.out); rintro e w26 ⟨rfl, hb⟩; refine ⟨_, rfl, ?_⟩; have n0_ := z10_A (Kd.R_below (by (with_reducible repeat (first | apply Kd.R_alloc | apply Kd.R_drewN | apply Kd.R_drew)); exact (Kd.R_mono (Kd.R_far (p := ⟨gb319, 2, none⟩) (Kd.R_far (p := ⟨gb319, 1, none⟩) (Kd.R_far (p := ⟨gb319, 0, none⟩) (Kd.R_types HO315.out BK319.out (by decide)) (fun _ hk => hk.2) (.int .i64 t307)) (fun _ hk => hk.2) (.int .i64 t310)) (fun _ hk => hk.2) (.int .i64 t316)) (fun _ h_ => h_.1))) hb); have n1_ := z10_A (IsS82.below (show IsS82 w0 (((w20.setCell ⟨gb319, 0, none⟩ (.int .i64 t307)).setCell ⟨gb319, 1, none⟩ (.int .i64 t310)).setCell ⟨gb319, 2, none⟩ (.int .i64 t316)) g s0_0 t317 t318 from by repeat (first | (with_reducible first | exact HI0.out | apply IsS82.alloc | apply IsS82.drewN | apply IsS82.drew | apply IsS82.set_1 | apply IsS82.set_2 | refine IsS82.far ?_ NB0_304.out _ | refine IsS82.far ?_ NB0_305.out _ | refine IsS82.far ?_ NB0_319.out _) | exact HI0.out)) hb); have n2_ := z10_A (blk_below (g := gb304) (o := .cells #[.slice A1_0 l1_0.length c1_0, .int .i64 a1_1, .int .i64 a1_2, .int .i64 a1_3] 30 (0, 0)) (by (with_reducible repeat (first | refine blk_drewN ?_ _ | refine blk_drew ?_ | refine blk_alloc ?_ _)); refine blk_far ?_ NB304_319.out _; (with_reducible repeat (first | refine blk_drewN ?_ _ | refine blk_drew ?_ | refine blk_alloc ?_ _)); refine blk_far ?_ NB304_319.out _; (with_reducible repeat (first | refine blk_drewN ?_ _ | refine blk_drew ?_ | refine blk_alloc ?_ _)); refine blk_far ?_ NB304_319.out _; (with_reducible repeat (first | refine blk_drewN ?_ _ | refine blk_drew ?_ | refine blk_alloc ?_ _)); exact BK304.out) hb); have n3_ := z10_A (blk_below (g := gb305) (o := .cells #[.int .i64 0, .int .i64 0, .int .i64 0] 32 (0, 0)) (by (with_reducible repeat (first | refine blk_drewN ?_ _ | refine blk_drew ?_ | refine blk_alloc ?_ _)); refine blk_far ?_ NB305_319.out _; (with_reducible repeat (first | refine blk_drewN ?_ _ | refine blk_drew ?_ | refine blk_alloc ?_ _)); refine blk_far ?_ NB305_319.out _; (with_reducible repeat (first | refine blk_drewN ?_ _ | refine blk_drew ?_ | refine blk_alloc ?_ _)); refine blk_far ?_ NB305_319.out _; (with_reducible repeat (first | refine blk_drewN ?_ _ | refine blk_drew ?_ | refine blk_alloc ?_ _)); exact BK305.out) hb); have n4_ := z10_A (blk_below (g := gb319) (o := .cells #[.int .i64 t307, .int .i64 t310, .int .i64 t316] 32 (0, 0)) (by (with_reducible repeat (first | refine blk_drewN ?_ _ | refine blk_drew ?_ | refine blk_alloc ?_ _)); refine blk_put (cs := #[.int .i64 t307, .int .i64 t310, .int .i64 0]) ?_ 2 _ rfl; (with_reducible repeat (first | refine blk_drewN ?_ _ | refine blk_drew ?_ | refine blk_alloc ?_ _)); refine blk_put (cs := #[.int .i64 t307, .int .i64 0, .int .i64 0]) ?_ 1 _ rfl; (with_reducible repeat (first | refine blk_drewN ?_ _ | refine blk_drew ?_ | refine blk_alloc ?_ _)); refine blk_put (cs := #[.int .i64 0, .int .i64 0, .int .i64 0]) ?_ 0 _ rfl; (with_reducible repeat (first | refine blk_drewN ?_ _ | refine blk_drew ?_ | refine blk_alloc ?_ _)); exact BK319.out) hb); have n5_ := z10_A (KeepBut.trans z10_1 (KeepBut.of_below hb g none) (.inl rfl)); have n6_ := z10_A (below_step z10_2 hb); clear HO315 HI0 BK304 BK305 BK319 HK HB; revert n0_ n1_ n2_ n3_ n4_ n5_ n6_; intro HO315 HI0 BK304 BK305 BK319 HK HB; (try clear hb); (try clear hb2); (try clear hk); (try clear hi)))
 (try simp only [Act.put, List.setIfInBounds_toArray, List.set_cons_zero, List.set_cons_succ])
 go_cut [33] (fun v33 wc => ∃ (kq : Nat) (x33_7 : Bool) (x1001_7 : Int) (x1002_7 : Int), v33 = .bool x33_7 ∧ Aside0 (spec_l1Cur_contract.j0 kq t320 x33_7 s0_0 x1001_7 x1002_7 t307 t310 t316 = some (r1, r2, r3, r4, r5)) ∧ Aside0 (kq ≤ k) ∧ Aside0 (wc.heap[gb304]? = some (.cells #[(.slice A1_0 l1_0.length c1_0), .int .i64 a1_1, .int .i64 a1_2, .int .i64 a1_3] 30 (0, 0))) ∧ Aside0 (wc.heap[gb305]? = some (.cells #[.int .i64 0, .int .i64 0, .int .i64 0] 32 (0, 0))) ∧ Aside0 (wc.heap[gb319]? = some (.cells #[.int .i64 t307, .int .i64 t310, .int .i64 t316] 32 (0, 0))) ∧ Aside0 (IsS82 w0 wc g s0_0 x1001_7 x1002_7) ∧ Aside0 (KeepBut w wc g none) ∧ Aside0 (Below w0.heap.size w0 wc))
 case first =>
  have H := HC8.out
  clear HC8
  by_cases c27 : t321 = true
  ·subst c27
   have H1 : ((spec_l1Cur_one.f s0_0 t317 t318 2).bind fun bt322 => (spec_l1Cur_contract.j0 k t320 bt322.1 s0_0 bt322.2.1 bt322.2.2 t307 t310 t316)) = some (r1, r2, r3, r4, r5) := z10_26
   clear H
   have H := H1
   clear H1
   replace H := Option.bind_eq_some_iff.mp H
   obtain ⟨⟨t322, t323, t324⟩, A280, H⟩ := H
   (try dsimp only at H)
   have A28 := z10_A A280
   clear A280
   have H' := z10_A H
   clear H
   go_wp2_with (first | (go_at_call 109; (with_reducible refine (spec_l1Cur_one.calls g s0_0 t317 t318 2 t322 t323 t324 w0 _ ?side1 ?side2 A28.out).mono ?_); (case side1 => repeat (first | (with_reducible first | exact HI0.out | apply IsS82.alloc | apply IsS82.drewN | apply IsS82.drew | apply IsS82.set_1 | apply IsS82.set_2 | refine IsS82.far ?_ NB0_304.out _ | refine IsS82.far ?_ NB0_305.out _ | refine IsS82.far ?_ NB0_319.out _) | exact HI0.out)); (case side2 => repeat (first | (with_reducible first | exact HB.out | apply below_alloc | apply pw_below_drewN | apply below_drew1 | refine below_set ?_ (IsS82.ge HI0.out) | refine below_set ?_ GE304.out | refine below_set ?_ GE305.out | refine below_set ?_ GE319.out) | exact HB.out)); rintro e w29 ⟨rfl, hi, hb, hk⟩; have n0_ := z10_A (KeepBut.blk hk (g' := gb304) (o := .cells #[.slice A1_0 l1_0.length c1_0, .int .i64 a1_1, .int .i64 a1_2, .int .i64 a1_3] 30 (0, 0)) z10_3 NB304_0.out z10_28); have n1_ := z10_A (KeepBut.blk hk (g' := gb305) (o := .cells #[.int .i64 0, .int .i64 0, .int .i64 0] 32 (0, 0)) z10_6 NB305_0.out z10_28); have n2_ := z10_A (Kd.R_mono (Kd.R_keep (IsS82.apart (show IsS82 w0 _ g s0_0 t317 t318 from by repeat (first | (with_reducible first | exact HI0.out | apply IsS82.alloc | apply IsS82.drewN | apply IsS82.drew | apply IsS82.set_1 | apply IsS82.set_2 | refine IsS82.far ?_ NB0_304.out _ | refine IsS82.far ?_ NB0_305.out _ | refine IsS82.far ?_ NB0_319.out _) | exact HI0.out)) z10_24 (by decide)) hk (fun _ h => h.2)) (fun _ h => h.1)); have n3_ := z10_A (KeepBut.blk hk (g' := gb319) (o := .cells #[.int .i64 t307, .int .i64 t310, .int .i64 t316] 32 (0, 0)) z10_9 NB319_0.out z10_28); have n4_ := z10_A (KeepBut.trans z10_1 hk (.inl rfl)); have n5_ := z10_A (hb); have n6_ := z10_A (hi); clear BK304 BK305 HO315 BK319 HK HB HI0; revert n0_ n1_ n2_ n3_ n4_ n5_ n6_; intro BK304 BK305 HO315 BK319 HK HB HI0; (try clear hb); (try clear hb2); (try clear hk); (try clear hi)))
   go_meet
   case rel => exact ⟨_, (t322), (t323), (t324), z10_20, H', ⟨z10_27⟩, ⟨z10_3⟩, ⟨z10_6⟩, ⟨z10_9⟩, ⟨z10_4⟩, ⟨z10_1⟩, ⟨z10_2⟩⟩
  ·replace c27 := Bool.eq_false_iff.mpr c27
   subst c27
   have H1 : (spec_l1Cur_contract.j0 k t320 false s0_0 t317 t318 t307 t310 t316) = some (r1, r2, r3, r4, r5) := z10_21
   clear H
   have H := H1
   clear H1
   have H' := z10_A H
   clear H
   go_wp2
   go_meet
   case rel => exact ⟨_, (false), (t317), (t318), z10_20, H', ⟨z10_27⟩, ⟨z10_3⟩, ⟨z10_6⟩, ⟨z10_9⟩, ⟨z10_4⟩, ⟨z10_1⟩, ⟨z10_2⟩⟩
 case rest =>
  clear HC8
  (try clear hcz13_0); (try clear hcz13_1); (try clear hcz13_2); (try clear hcz13_3); (try clear hcz24_0); (try clear hcz24_1); (try clear hcz24_2); (try clear hcz25_0); (try clear hcz25_1); (try clear hcz25_2); (try clear hcz25_3); (try clear hfz13_0); (try clear hfz13_1); (try clear hfz13_2); (try clear hfz13_3); (try clear hfz24_0); (try clear hfz24_1); (try clear hfz24_2); (try clear hfz25_0); (try clear hfz25_1); (try clear hfz25_2); (try clear hfz25_3)
  obtain ⟨kq, x33_7, x1001_7, x1002_7, rfl, HA, HJ7, BK304, BK305, BK319, HI0, HK, HB⟩ := hcut
  cases kq with
  | zero => exact absurd HA.out (by simp [spec_l1Cur_contract.j0])
  | succ kj7 =>
   have H := HA.out
   clear HA
   simp only [spec_l1Cur_contract.j0] at H
   have HC30 := z10_A H
   clear H
   go_upto_if 33 with (fail)
   go_cut [] (fun wc => ∃ (kq : Nat) (x320000_29 : Int), Aside0 (spec_l1Cur_contract.j1 kq s0_0 x1001_7 x1002_7 x320000_29 t310 t316 = some (r1, r2, r3, r4, r5)) ∧ Aside0 (kq ≤ kj7) ∧ Aside0 (wc.heap[gb304]? = some (.cells #[(.slice A1_0 l1_0.length c1_0), .int .i64 a1_1, .int .i64 a1_2, .int .i64 a1_3] 30 (0, 0))) ∧ Aside0 (wc.heap[gb305]? = some (.cells #[.int .i64 0, .int .i64 0, .int .i64 0] 32 (0, 0))) ∧ Aside0 (wc.heap[gb319]? = some (.cells #[.int .i64 x320000_29, .int .i64 t310, .int .i64 t316] 32 (0, 0))) ∧ Aside0 (IsS82 w0 wc g s0_0 x1001_7 x1002_7) ∧ Aside0 (KeepBut w wc g none) ∧ Aside0 (Below w0.heap.size w0 wc))
   case first =>
    have H := HC30.out
    clear HC30
    by_cases c31 : x33_7 = true
    ·subst c31
     have H1 : (spec_l1Cur_contract.j1 kj7 s0_0 x1001_7 x1002_7 t320 t310 t316) = some (r1, r2, r3, r4, r5) := z10_26
     clear H
     have H := H1
     clear H1
     have H' := z10_A H
     clear H
     have hnb32 := NB319_304.out
     have hnc32 := NB304_319.out
     have hnb33 := NB319_305.out
     have hnc33 := NB305_319.out
     have hnb34 := NB319_0.out
     have hnc34 := NB0_319.out
     have hcz35_0 : wc.cell? ⟨gb319, 0, none⟩ = some (.int .i64 t307) := bcz BK319.out 0 rfl
     have hcz35_1 : wc.cell? ⟨gb319, 1, none⟩ = some (.int .i64 t310) := bcz BK319.out 1 rfl
     have hcz35_2 : wc.cell? ⟨gb319, 2, none⟩ = some (.int .i64 t316) := bcz BK319.out 2 rfl
     obtain ⟨hfz35_0, hfz35_1, hfz35_2⟩ := F3z (blk_frozen BK319.out)
     go_wp2
     go_meet
     case rel => exact ⟨_, (t320), H', ⟨by have := HJ7.out; first | omega | exact Nat.le_refl _⟩, ⟨by (with_reducible repeat (first | refine blk_drewN ?_ _ | refine blk_drew ?_ | refine blk_alloc ?_ _)); refine blk_far ?_ NB304_319.out _; (with_reducible repeat (first | refine blk_drewN ?_ _ | refine blk_drew ?_ | refine blk_alloc ?_ _)); exact BK304.out⟩, ⟨by (with_reducible repeat (first | refine blk_drewN ?_ _ | refine blk_drew ?_ | refine blk_alloc ?_ _)); refine blk_far ?_ NB305_319.out _; (with_reducible repeat (first | refine blk_drewN ?_ _ | refine blk_drew ?_ | refine blk_alloc ?_ _)); exact BK305.out⟩, ⟨by (with_reducible repeat (first | refine blk_drewN ?_ _ | refine blk_drew ?_ | refine blk_alloc ?_ _)); refine blk_put (cs := #[.int .i64 t307, .int .i64 t310, .int .i64 t316]) ?_ 0 _ rfl; (with_reducible repeat (first | refine blk_drewN ?_ _ | refine blk_drew ?_ | refine blk_alloc ?_ _)); exact BK319.out⟩, ⟨z10_4⟩, ⟨z10_1⟩, ⟨z10_2⟩⟩
    ·replace c31 := Bool.eq_false_iff.mpr c31
     subst c31
     have H1 : (spec_l1Cur_contract.j1 kj7 s0_0 x1001_7 x1002_7 t307 t310 t316) = some (r1, r2, r3, r4, r5) := z10_21
     clear H
     have H := H1
     clear H1
     have H' := z10_A H
     clear H
     go_wp2
     go_meet
     case rel => exact ⟨_, (t307), H', ⟨by have := HJ7.out; first | omega | exact Nat.le_refl _⟩, ⟨z10_3⟩, ⟨z10_6⟩, ⟨z10_9⟩, ⟨z10_4⟩, ⟨z10_1⟩, ⟨z10_2⟩⟩
   case rest =>
    clear HC30
    (try clear c3); (try clear c31); (try clear c32); (try clear c33); (try clear c34); (try clear hcz35_0); (try clear hcz35_1); (try clear hcz35_2); (try clear hfz35_0); (try clear hfz35_1); (try clear hfz35_2)
    obtain ⟨kq, x320000_29, HA, HJ29, BK304, BK305, BK319, HI0, HK, HB⟩ := hcut
    cases kq with
    | zero => exact absurd HA.out (by simp [spec_l1Cur_contract.j1])
    | succ kj29 =>
     have H := HA.out
     clear HA
     simp only [spec_l1Cur_contract.j1] at H
     replace H := Option.bind_eq_some_iff.mp H
     obtain ⟨⟨t325, t326, t327⟩, A360, H⟩ := H
     (try dsimp only at H)
     have A36 := z10_A A360
     clear A360
     by_cases c37 : t325 = 0
     ·rw [if_pos c37] at H
      have c37b0 : (t325 == 0) = true := beq_iff_eq.mpr c37
      have c37b1 : (t325 != 0) = false := bne_eq_false_iff_eq.mpr c37
      clear c37
      obtain ⟨y328, hy328⟩ : ∃ y_ : List Int, y_ = (([(-1), 99, 100] : List Int)) := ⟨_, rfl⟩
      replace H : ((spec_l1Cur_among.f s0_0 t326 t327 y328).bind fun bt331 => (some (bt331.1, t310, t316, bt331.2.1, bt331.2.2))) = some (r1, r2, r3, r4, r5) := by first | (rw [hy328]; with_reducible exact H) | (have H2_ := (Option.bind_some _ _).symm.trans H; rw [hy328]; with_reducible exact H2_) | (have H2_ := (Option.bind_some _ _).symm.trans H; with_reducible exact H2_) | with_reducible exact H | (rw [hy328]; exact H) | exact H
      have Ny328 := z10_A hy328
      clear hy328
      replace H := Option.bind_eq_some_iff.mp H
      obtain ⟨⟨t331, t332, t333⟩, A380, H⟩ := H
      (try dsimp only at H)
      have A38 := z10_A A380
      clear A380
      simp only [Option.some.injEq, Prod.mk.injEq] at H
      obtain ⟨rfl, rfl, rfl, rfl, rfl⟩ := H
      go_wp2_with (first | ((with_reducible refine gate_callee (f := 105) rfl ?_); refine goesL_ (some 37) rfl rfl Try.func105 z10_23 rfl #[.pointer (some ⟨g, 0, none⟩), .int .i64 40] rfl z10_5 ?_; (with_reducible refine (spec_l1Cur_pick.calls g s0_0 x1001_7 x1002_7 40 t325 t326 t327 w0 _ ?side1 ?side2 A36.out).mono ?_); (case side1 => repeat (first | (with_reducible first | exact HI0.out | apply IsS82.alloc | apply IsS82.drewN | apply IsS82.drew | apply IsS82.set_1 | apply IsS82.set_2 | refine IsS82.far ?_ NB0_304.out _ | refine IsS82.far ?_ NB0_305.out _ | refine IsS82.far ?_ NB0_319.out _) | exact HI0.out)); (case side2 => repeat (first | (with_reducible first | exact HB.out | apply below_alloc | apply pw_below_drewN | apply below_drew1 | refine below_set ?_ (IsS82.ge HI0.out) | refine below_set ?_ GE304.out | refine below_set ?_ GE305.out | refine below_set ?_ GE319.out) | exact HB.out)); rintro e w39 ⟨rfl, hi, hb, hk⟩; refine ⟨_, rfl, ?_⟩; have n0_ := z10_A (KeepBut.blk hk (g' := gb304) (o := .cells #[.slice A1_0 l1_0.length c1_0, .int .i64 a1_1, .int .i64 a1_2, .int .i64 a1_3] 30 (0, 0)) z10_3 NB304_0.out z10_28); have n1_ := z10_A (KeepBut.blk hk (g' := gb305) (o := .cells #[.int .i64 0, .int .i64 0, .int .i64 0] 32 (0, 0)) z10_6 NB305_0.out z10_28); have n2_ := z10_A (KeepBut.blk hk (g' := gb319) (o := .cells #[.int .i64 x320000_29, .int .i64 t310, .int .i64 t316] 32 (0, 0)) z10_9 NB319_0.out z10_28); have n3_ := z10_A (KeepBut.trans z10_1 hk (.inl rfl)); have n4_ := z10_A (hb); have n5_ := z10_A (hi); clear BK304 BK305 BK319 HK HB HI0; revert n0_ n1_ n2_ n3_ n4_ n5_; intro BK304 BK305 BK319 HK HB HI0; (try clear hb); (try clear hb2); (try clear hk); (try clear hi)) | ((with_reducible refine gate_dst (N := 41) rfl ?_); refine Kd.R_lit (Kd.int .i64) _ 3 ?hg (N := 41) ?hd (xs := ([(-1), 99, 100] : List Int)) (inner := [.int .i64 (-1), .int .i64 99, .int .i64 100]) (ok := fun _ => True) (okp := fun _ => True) ?hr ?hp (fun _ hk => hk) trivial (Below.refl _ _) (Nat.le_refl _) z10_28 ?_; (case hd => rfl); (case hg => rfl); (case hr => first | (go_simp; done) | (go_simp; rfl)); (case hp => exact (Reps.one (show Kd.M (Kd.int .i64) _ _ _ (-1) [.int .i64 (-1)] from rfl) (Reps.one (show Kd.M (Kd.int .i64) _ _ _ 99 [.int .i64 99] from rfl) (Reps.one (show Kd.M (Kd.int .i64) _ _ _ 100 [.int .i64 100] from rfl) (Reps.none _ _))))); intro v329 w40 ho41 hb hg_ hnew_; clear hg_ hnew_; (first | rw [← Ny328.out] at ho41 | (simp only [Int.reduceToNat] at ho41; rw [← Ny328.out] at ho41)); have n0_ := z10_A (Kd.R_lower ho41 (keep_size (w := w) (g := g) (row := none) z10_1)); have n1_ := z10_A (blk_below (g := gb304) (o := .cells #[.slice A1_0 l1_0.length c1_0, .int .i64 a1_1, .int .i64 a1_2, .int .i64 a1_3] 30 (0, 0)) z10_3 hb); have n2_ := z10_A (blk_below (g := gb305) (o := .cells #[.int .i64 0, .int .i64 0, .int .i64 0] 32 (0, 0)) z10_6 hb); have n3_ := z10_A (blk_below (g := gb319) (o := .cells #[.int .i64 x320000_29, .int .i64 t310, .int .i64 t316] 32 (0, 0)) z10_9 hb); have n4_ := z10_A (IsS82.below z10_4 hb); have n5_ := z10_A (KeepBut.trans z10_1 (KeepBut.of_below hb g none) (.inl rfl)); have n6_ := z10_A (below_step z10_2 hb); clear BK304 BK305 BK319 HI0 HK HB; revert n0_ n1_ n2_ n3_ n4_ n5_ n6_; intro HO330 BK304 BK305 BK319 HI0 HK HB; clear hb ho41; obtain ⟨Ao42, co42, eo42⟩ := Kd.R_slice HO330.out; subst eo42) | ((with_reducible refine gate_callee (f := 82) rfl ?_); refine goesL_ (some 42) rfl rfl Try.func82 z10_23 rfl #[.pointer (some ⟨g, 0, none⟩), .slice Ao42 y328.length co42] rfl z10_5 ?_; (with_reducible refine (spec_l1Cur_among.calls g s0_0 t326 t327 _ _ y328 t331 t332 t333 w0 _ ?side1 ?side2 ?side3 ?side4 ?side5 A38.out).mono ?_); (case side1 => repeat (first | (with_reducible first | exact HI0.out | apply IsS82.alloc | apply IsS82.drewN | apply IsS82.drew | apply IsS82.set_1 | apply IsS82.set_2 | refine IsS82.far ?_ NB0_304.out _ | refine IsS82.far ?_ NB0_305.out _ | refine IsS82.far ?_ NB0_319.out _) | exact HI0.out)); (case side2 => repeat (first | (with_reducible first | exact HB.out | apply below_alloc | apply pw_below_drewN | apply below_drew1 | refine below_set ?_ (IsS82.ge HI0.out) | refine below_set ?_ GE304.out | refine below_set ?_ GE305.out | refine below_set ?_ GE319.out) | exact HB.out)); (case side3 => have zh := (Kd.R_reads' HO330.out).2.2; exact z10_C); (case side4 => exact (Kd.R_reads' HO330.out).2.1); (case side5 => exact far_slice (IsS82.own_ne HI0.out HO330.out (by decide))); rintro e w43 ⟨rfl, hi, hb, hk⟩; refine ⟨_, rfl, ?_⟩; have n0_ := z10_A (KeepBut.blk hk (g' := gb304) (o := .cells #[.slice A1_0 l1_0.length c1_0, .int .i64 a1_1, .int .i64 a1_2, .int .i64 a1_3] 30 (0, 0)) z10_3 NB304_0.out z10_28); have n1_ := z10_A (KeepBut.blk hk (g' := gb305) (o := .cells #[.int .i64 0, .int .i64 0, .int .i64 0] 32 (0, 0)) z10_6 NB305_0.out z10_28); have n2_ := z10_A (KeepBut.blk hk (g' := gb319) (o := .cells #[.int .i64 x320000_29, .int .i64 t310, .int .i64 t316] 32 (0, 0)) z10_9 NB319_0.out z10_28); have n3_ := z10_A (Kd.R_mono (Kd.R_keep (IsS82.apart (show IsS82 w0 _ g s0_0 t326 t327 from by repeat (first | (with_reducible first | exact HI0.out | apply IsS82.alloc | apply IsS82.drewN | apply IsS82.drew | apply IsS82.set_1 | apply IsS82.set_2 | refine IsS82.far ?_ NB0_304.out _ | refine IsS82.far ?_ NB0_305.out _ | refine IsS82.far ?_ NB0_319.out _) | exact HI0.out)) (by (with_reducible repeat (first | apply Kd.R_alloc | apply Kd.R_drewN | apply Kd.R_drew)); exact HO330.out) (by decide)) hk (fun _ h => h.2)) (fun _ h => h.1)); have n4_ := z10_A (KeepBut.trans z10_1 hk (.inl rfl)); have n5_ := z10_A (hb); have n6_ := z10_A (hi); clear BK304 BK305 BK319 HO330 HK HB HI0; revert n0_ n1_ n2_ n3_ n4_ n5_ n6_; intro BK304 BK305 BK319 HO330 HK HB HI0; (try clear hb); (try clear hb2); (try clear hk); (try clear hi); have hnb44 := NB319_304.out; have hnc44 := NB304_319.out; have hnb45 := NB319_305.out; have hnc45 := NB305_319.out; have hnb46 := NB319_0.out; have hnc46 := NB0_319.out; have hcz47_0 : w43.cell? ⟨gb319, 0, none⟩ = some (.int .i64 x320000_29) := bcz BK319.out 0 rfl; have hcz47_1 : w43.cell? ⟨gb319, 1, none⟩ = some (.int .i64 t310) := bcz BK319.out 1 rfl; have hcz47_2 : w43.cell? ⟨gb319, 2, none⟩ = some (.int .i64 t316) := bcz BK319.out 2 rfl; obtain ⟨hfz47_0, hfz47_1, hfz47_2⟩ := F3z (blk_frozen BK319.out); have hnb48 := NB305_304.out; have hnc48 := NB304_305.out; have hnb49 := NB305_0.out; have hnc49 := NB0_305.out; have hcz50_0 : w43.cell? ⟨gb305, 0, none⟩ = some (.int .i64 0) := bcz BK305.out 0 rfl; have hcz50_1 : w43.cell? ⟨gb305, 1, none⟩ = some (.int .i64 0) := bcz BK305.out 1 rfl; have hcz50_2 : w43.cell? ⟨gb305, 2, none⟩ = some (.int .i64 0) := bcz BK305.out 2 rfl; obtain ⟨hfz50_0, hfz50_1, hfz50_2⟩ := F3z (blk_frozen BK305.out)))
      refine bodyPost_ret (results_cell_row rfl _ _ gb305 32 #[.int .i64 t331, .int .i64 t310, .int .i64 t316] (0, 0) _ rfl (by (with_reducible repeat (first | refine blk_drewN ?_ _ | refine blk_drew ?_ | refine blk_alloc ?_ _)); refine blk_put (cs := #[.int .i64 t331, .int .i64 t310, .int .i64 0]) ?_ 2 _ rfl; (with_reducible repeat (first | refine blk_drewN ?_ _ | refine blk_drew ?_ | refine blk_alloc ?_ _)); refine blk_put (cs := #[.int .i64 t331, .int .i64 0, .int .i64 0]) ?_ 1 _ rfl; (with_reducible repeat (first | refine blk_drewN ?_ _ | refine blk_drew ?_ | refine blk_alloc ?_ _)); refine blk_put (cs := #[.int .i64 0, .int .i64 0, .int .i64 0]) ?_ 0 _ rfl; (with_reducible repeat (first | refine blk_drewN ?_ _ | refine blk_drew ?_ | refine blk_alloc ?_ _)); refine blk_far ?_ NB305_319.out _; (with_reducible repeat (first | refine blk_drewN ?_ _ | refine blk_drew ?_ | refine blk_alloc ?_ _)); exact BK305.out) Try.underlying32 rfl z10_23) rfl ?_
      exact ⟨z10_13, z10_4, z10_2, z10_1⟩
     ·rw [if_neg c37] at H
      have c37b0 : (t325 == 0) = false := beq_eq_false_iff_ne.mpr c37
      have c37b1 : (t325 != 0) = true := bne_iff_ne.mpr c37
      by_cases c51 : t325 = 1
      ·rw [if_pos c51] at H
       have c51b0 : (t325 == 1) = true := beq_iff_eq.mpr c51
       have c51b1 : (t325 != 1) = false := bne_eq_false_iff_eq.mpr c51
       clear c51
       obtain ⟨y334, hy334⟩ : ∃ y_ : List Int, y_ = (([(-1), 99, 100] : List Int)) := ⟨_, rfl⟩
       replace H : ((spec_l1Cur_among.f s0_0 t326 t327 y334).bind fun bt337 => (some (x320000_29, bt337.1, t316, bt337.2.1, bt337.2.2))) = some (r1, r2, r3, r4, r5) := by first | (rw [hy334]; with_reducible exact H) | (have H2_ := (Option.bind_some _ _).symm.trans H; rw [hy334]; with_reducible exact H2_) | (have H2_ := (Option.bind_some _ _).symm.trans H; with_reducible exact H2_) | with_reducible exact H | (rw [hy334]; exact H) | exact H
       have Ny334 := z10_A hy334
       clear hy334
       replace H := Option.bind_eq_some_iff.mp H
       obtain ⟨⟨t337, t338, t339⟩, A520, H⟩ := H
       (try dsimp only at H)
       have A52 := z10_A A520
       clear A520
       simp only [Option.some.injEq, Prod.mk.injEq] at H
       obtain ⟨rfl, rfl, rfl, rfl, rfl⟩ := H
       go_wp2_with (first | ((with_reducible refine gate_callee (f := 105) rfl ?_); refine goesL_ (some 37) rfl rfl Try.func105 z10_23 rfl #[.pointer (some ⟨g, 0, none⟩), .int .i64 40] rfl z10_5 ?_; (with_reducible refine (spec_l1Cur_pick.calls g s0_0 x1001_7 x1002_7 40 t325 t326 t327 w0 _ ?side1 ?side2 A36.out).mono ?_); (case side1 => repeat (first | (with_reducible first | exact HI0.out | apply IsS82.alloc | apply IsS82.drewN | apply IsS82.drew | apply IsS82.set_1 | apply IsS82.set_2 | refine IsS82.far ?_ NB0_304.out _ | refine IsS82.far ?_ NB0_305.out _ | refine IsS82.far ?_ NB0_319.out _) | exact HI0.out)); (case side2 => repeat (first | (with_reducible first | exact HB.out | apply below_alloc | apply pw_below_drewN | apply below_drew1 | refine below_set ?_ (IsS82.ge HI0.out) | refine below_set ?_ GE304.out | refine below_set ?_ GE305.out | refine below_set ?_ GE319.out) | exact HB.out)); rintro e w53 ⟨rfl, hi, hb, hk⟩; refine ⟨_, rfl, ?_⟩; have n0_ := z10_A (KeepBut.blk hk (g' := gb304) (o := .cells #[.slice A1_0 l1_0.length c1_0, .int .i64 a1_1, .int .i64 a1_2, .int .i64 a1_3] 30 (0, 0)) z10_3 NB304_0.out z10_28); have n1_ := z10_A (KeepBut.blk hk (g' := gb305) (o := .cells #[.int .i64 0, .int .i64 0, .int .i64 0] 32 (0, 0)) z10_6 NB305_0.out z10_28); have n2_ := z10_A (KeepBut.blk hk (g' := gb319) (o := .cells #[.int .i64 x320000_29, .int .i64 t310, .int .i64 t316] 32 (0, 0)) z10_9 NB319_0.out z10_28); have n3_ := z10_A (KeepBut.trans z10_1 hk (.inl rfl)); have n4_ := z10_A (hb); have n5_ := z10_A (hi); clear BK304 BK305 BK319 HK HB HI0; revert n0_ n1_ n2_ n3_ n4_ n5_; intro BK304 BK305 BK319 HK HB HI0; (try clear hb); (try clear hb2); (try clear hk); (try clear hi)) | ((with_reducible refine gate_dst (N := 47) rfl ?_); refine Kd.R_lit (Kd.int .i64) _ 3 ?hg (N := 47) ?hd (xs := ([(-1), 99, 100] : List Int)) (inner := [.int .i64 (-1), .int .i64 99, .int .i64 100]) (ok := fun _ => True) (okp := fun _ => True) ?hr ?hp (fun _ hk => hk) trivial (Below.refl _ _) (Nat.le_refl _) z10_28 ?_; (case hd => rfl); (case hg => rfl); (case hr => first | (go_simp; done) | (go_simp; rfl)); (case hp => exact (Reps.one (show Kd.M (Kd.int .i64) _ _ _ (-1) [.int .i64 (-1)] from rfl) (Reps.one (show Kd.M (Kd.int .i64) _ _ _ 99 [.int .i64 99] from rfl) (Reps.one (show Kd.M (Kd.int .i64) _ _ _ 100 [.int .i64 100] from rfl) (Reps.none _ _))))); intro v335 w54 ho55 hb hg_ hnew_; clear hg_ hnew_; (first | rw [← Ny334.out] at ho55 | (simp only [Int.reduceToNat] at ho55; rw [← Ny334.out] at ho55)); have n0_ := z10_A (Kd.R_lower ho55 (keep_size (w := w) (g := g) (row := none) z10_1)); have n1_ := z10_A (blk_below (g := gb304) (o := .cells #[.slice A1_0 l1_0.length c1_0, .int .i64 a1_1, .int .i64 a1_2, .int .i64 a1_3] 30 (0, 0)) z10_3 hb); have n2_ := z10_A (blk_below (g := gb305) (o := .cells #[.int .i64 0, .int .i64 0, .int .i64 0] 32 (0, 0)) z10_6 hb); have n3_ := z10_A (blk_below (g := gb319) (o := .cells #[.int .i64 x320000_29, .int .i64 t310, .int .i64 t316] 32 (0, 0)) z10_9 hb); have n4_ := z10_A (IsS82.below z10_4 hb); have n5_ := z10_A (KeepBut.trans z10_1 (KeepBut.of_below hb g none) (.inl rfl)); have n6_ := z10_A (below_step z10_2 hb); clear BK304 BK305 BK319 HI0 HK HB; revert n0_ n1_ n2_ n3_ n4_ n5_ n6_; intro HO336 BK304 BK305 BK319 HI0 HK HB; clear hb ho55; obtain ⟨Ao56, co56, eo56⟩ := Kd.R_slice HO336.out; subst eo56) | ((with_reducible refine gate_callee (f := 82) rfl ?_); refine goesL_ (some 48) rfl rfl Try.func82 z10_23 rfl #[.pointer (some ⟨g, 0, none⟩), .slice Ao56 y334.length co56] rfl z10_5 ?_; (with_reducible refine (spec_l1Cur_among.calls g s0_0 t326 t327 _ _ y334 t337 t338 t339 w0 _ ?side1 ?side2 ?side3 ?side4 ?side5 A52.out).mono ?_); (case side1 => repeat (first | (with_reducible first | exact HI0.out | apply IsS82.alloc | apply IsS82.drewN | apply IsS82.drew | apply IsS82.set_1 | apply IsS82.set_2 | refine IsS82.far ?_ NB0_304.out _ | refine IsS82.far ?_ NB0_305.out _ | refine IsS82.far ?_ NB0_319.out _) | exact HI0.out)); (case side2 => repeat (first | (with_reducible first | exact HB.out | apply below_alloc | apply pw_below_drewN | apply below_drew1 | refine below_set ?_ (IsS82.ge HI0.out) | refine below_set ?_ GE304.out | refine below_set ?_ GE305.out | refine below_set ?_ GE319.out) | exact HB.out)); (case side3 => have zh := (Kd.R_reads' HO336.out).2.2; exact z10_C); (case side4 => exact (Kd.R_reads' HO336.out).2.1); (case side5 => exact far_slice (IsS82.own_ne HI0.out HO336.out (by decide))); rintro e w57 ⟨rfl, hi, hb, hk⟩; refine ⟨_, rfl, ?_⟩; have n0_ := z10_A (KeepBut.blk hk (g' := gb304) (o := .cells #[.slice A1_0 l1_0.length c1_0, .int .i64 a1_1, .int .i64 a1_2, .int .i64 a1_3] 30 (0, 0)) z10_3 NB304_0.out z10_28); have n1_ := z10_A (KeepBut.blk hk (g' := gb305) (o := .cells #[.int .i64 0, .int .i64 0, .int .i64 0] 32 (0, 0)) z10_6 NB305_0.out z10_28); have n2_ := z10_A (KeepBut.blk hk (g' := gb319) (o := .cells #[.int .i64 x320000_29, .int .i64 t310, .int .i64 t316] 32 (0, 0)) z10_9 NB319_0.out z10_28); have n3_ := z10_A (Kd.R_mono (Kd.R_keep (IsS82.apart (show IsS82 w0 _ g s0_0 t326 t327 from by repeat (first | (with_reducible first | exact HI0.out | apply IsS82.alloc | apply IsS82.drewN | apply IsS82.drew | apply IsS82.set_1 | apply IsS82.set_2 | refine IsS82.far ?_ NB0_304.out _ | refine IsS82.far ?_ NB0_305.out _ | refine IsS82.far ?_ NB0_319.out _) | exact HI0.out)) (by (with_reducible repeat (first | apply Kd.R_alloc | apply Kd.R_drewN | apply Kd.R_drew)); exact HO336.out) (by decide)) hk (fun _ h => h.2)) (fun _ h => h.1)); have n4_ := z10_A (KeepBut.trans z10_1 hk (.inl rfl)); have n5_ := z10_A (hb); have n6_ := z10_A (hi); clear BK304 BK305 BK319 HO336 HK HB HI0; revert n0_ n1_ n2_ n3_ n4_ n5_ n6_; intro BK304 BK305 BK319 HO336 HK HB HI0; (try clear hb); (try clear hb2); (try clear hk); (try clear hi); have hnb58 := NB319_304.out; have hnc58 := NB304_319.out; have hnb59 := NB319_305.out; have hnc59 := NB305_319.out; have hnb60 := NB319_0.out; have hnc60 := NB0_319.out; have hcz61_0 : w57.cell? ⟨gb319, 0, none⟩ = some (.int .i64 x320000_29) := bcz BK319.out 0 rfl; have hcz61_1 : w57.cell? ⟨gb319, 1, none⟩ = some (.int .i64 t310) := bcz BK319.out 1 rfl; have hcz61_2 : w57.cell? ⟨gb319, 2, none⟩ = some (.int .i64 t316) := bcz BK319.out 2 rfl; obtain ⟨hfz61_0, hfz61_1, hfz61_2⟩ := F3z (blk_frozen BK319.out); have hnb62 := NB305_304.out; have hnc62 := NB304_305.out; have hnb63 := NB305_0.out; have hnc63 := NB0_305.out; have hcz64_0 : w57.cell? ⟨gb305, 0, none⟩ = some (.int .i64 0) := bcz BK305.out 0 rfl; have hcz64_1 : w57.cell? ⟨gb305, 1, none⟩ = some (.int .i64 0) := bcz BK305.out 1 rfl; have hcz64_2 : w57.cell? ⟨gb305, 2, none⟩ = some (.int .i64 0) := bcz BK305.out 2 rfl; obtain ⟨hfz64_0, hfz64_1, hfz64_2⟩ := F3z (blk_frozen BK305.out)))
       refine bodyPost_ret (results_cell_row rfl _ _ gb305 32 #[.int .i64 x320000_29, .int .i64 t337, .int .i64 t316] (0, 0) _ rfl (by (with_reducible repeat (first | refine blk_drewN ?_ _ | refine blk_drew ?_ | refine blk_alloc ?_ _)); refine blk_put (cs := #[.int .i64 x320000_29, .int .i64 t337, .int .i64 0]) ?_ 2 _ rfl; (with_reducible repeat (first | refine blk_drewN ?_ _ | refine blk_drew ?_ | refine blk_alloc ?_ _)); refine blk_put (cs := #[.int .i64 x320000_29, .int .i64 0, .int .i64 0]) ?_ 1 _ rfl; (with_reducible repeat (first | refine blk_drewN ?_ _ | refine blk_drew ?_ | refine blk_alloc ?_ _)); refine blk_put (cs := #[.int .i64 0, .int .i64 0, .int .i64 0]) ?_ 0 _ rfl; (with_reducible repeat (first | refine blk_drewN ?_ _ | refine blk_drew ?_ | refine blk_alloc ?_ _)); refine blk_far ?_ NB305_319.out _; (with_reducible repeat (first | refine blk_drewN ?_ _ | refine blk_drew ?_ | refine blk_alloc ?_ _)); exact BK305.out) Try.underlying32 rfl z10_23) rfl ?_
       exact ⟨z10_13, z10_4, z10_2, z10_1⟩
      ·rw [if_neg c51] at H
       have c51b0 : (t325 == 1) = false := beq_eq_false_iff_ne.mpr c51
       have c51b1 : (t325 != 1) = true := bne_iff_ne.mpr c51
       by_cases c65 : t325 = 2
       ·rw [if_pos c65] at H
        have c65b0 : (t325 == 2) = true := beq_iff_eq.mpr c65
        have c65b1 : (t325 != 2) = false := bne_eq_false_iff_eq.mpr c65
        clear c65
        obtain ⟨y340, hy340⟩ : ∃ y_ : List Int, y_ = (([(-1), 101] : List Int)) := ⟨_, rfl⟩
        replace H : ((spec_l1Cur_among.f s0_0 t326 t327 y340).bind fun bt343 => (some (x320000_29, t310, bt343.1, bt343.2.1, bt343.2.2))) = some (r1, r2, r3, r4, r5) := by first | (rw [hy340]; with_reducible exact H) | (have H2_ := (Option.bind_some _ _).symm.trans H; rw [hy340]; with_reducible exact H2_) | (have H2_ := (Option.bind_some _ _).symm.trans H; with_reducible exact H2_) | with_reducible exact H | (rw [hy340]; exact H) | exact H
        have Ny340 := z10_A hy340
        clear hy340
        replace H := Option.bind_eq_some_iff.mp H
        obtain ⟨⟨t343, t344, t345⟩, A660, H⟩ := H
        (try dsimp only at H)
        have A66 := z10_A A660
        clear A660
        simp only [Option.some.injEq, Prod.mk.injEq] at H
        obtain ⟨rfl, rfl, rfl, rfl, rfl⟩ := H
        go_wp2_with (first | ((with_reducible refine gate_callee (f := 105) rfl ?_); refine goesL_ (some 37) rfl rfl Try.func105 z10_23 rfl #[.pointer (some ⟨g, 0, none⟩), .int .i64 40] rfl z10_5 ?_; (with_reducible refine (spec_l1Cur_pick.calls g s0_0 x1001_7 x1002_7 40 t325 t326 t327 w0 _ ?side1 ?side2 A36.out).mono ?_); (case side1 => repeat (first | (with_reducible first | exact HI0.out | apply IsS82.alloc | apply IsS82.drewN | apply IsS82.drew | apply IsS82.set_1 | apply IsS82.set_2 | refine IsS82.far ?_ NB0_304.out _ | refine IsS82.far ?_ NB0_305.out _ | refine IsS82.far ?_ NB0_319.out _) | exact HI0.out)); (case side2 => repeat (first | (with_reducible first | exact HB.out | apply below_alloc | apply pw_below_drewN | apply below_drew1 | refine below_set ?_ (IsS82.ge HI0.out) | refine below_set ?_ GE304.out | refine below_set ?_ GE305.out | refine below_set ?_ GE319.out) | exact HB.out)); rintro e w67 ⟨rfl, hi, hb, hk⟩; refine ⟨_, rfl, ?_⟩; have n0_ := z10_A (KeepBut.blk hk (g' := gb304) (o := .cells #[.slice A1_0 l1_0.length c1_0, .int .i64 a1_1, .int .i64 a1_2, .int .i64 a1_3] 30 (0, 0)) z10_3 NB304_0.out z10_28); have n1_ := z10_A (KeepBut.blk hk (g' := gb305) (o := .cells #[.int .i64 0, .int .i64 0, .int .i64 0] 32 (0, 0)) z10_6 NB305_0.out z10_28); have n2_ := z10_A (KeepBut.blk hk (g' := gb319) (o := .cells #[.int .i64 x320000_29, .int .i64 t310, .int .i64 t316] 32 (0, 0)) z10_9 NB319_0.out z10_28); have n3_ := z10_A (KeepBut.trans z10_1 hk (.inl rfl)); have n4_ := z10_A (hb); have n5_ := z10_A (hi); clear BK304 BK305 BK319 HK HB HI0; revert n0_ n1_ n2_ n3_ n4_ n5_; intro BK304 BK305 BK319 HK HB HI0; (try clear hb); (try clear hb2); (try clear hk); (try clear hi)) | ((with_reducible refine gate_dst (N := 53) rfl ?_); refine Kd.R_lit (Kd.int .i64) _ 3 ?hg (N := 53) ?hd (xs := ([(-1), 101] : List Int)) (inner := [.int .i64 (-1), .int .i64 101]) (ok := fun _ => True) (okp := fun _ => True) ?hr ?hp (fun _ hk => hk) trivial (Below.refl _ _) (Nat.le_refl _) z10_28 ?_; (case hd => rfl); (case hg => rfl); (case hr => first | (go_simp; done) | (go_simp; rfl)); (case hp => exact (Reps.one (show Kd.M (Kd.int .i64) _ _ _ (-1) [.int .i64 (-1)] from rfl) (Reps.one (show Kd.M (Kd.int .i64) _ _ _ 101 [.int .i64 101] from rfl) (Reps.none _ _)))); intro v341 w68 ho69 hb hg_ hnew_; clear hg_ hnew_; (first | rw [← Ny340.out] at ho69 | (simp only [Int.reduceToNat] at ho69; rw [← Ny340.out] at ho69)); have n0_ := z10_A (Kd.R_lower ho69 (keep_size (w := w) (g := g) (row := none) z10_1)); have n1_ := z10_A (blk_below (g := gb304) (o := .cells #[.slice A1_0 l1_0.length c1_0, .int .i64 a1_1, .int .i64 a1_2, .int .i64 a1_3] 30 (0, 0)) z10_3 hb); have n2_ := z10_A (blk_below (g := gb305) (o := .cells #[.int .i64 0, .int .i64 0, .int .i64 0] 32 (0, 0)) z10_6 hb); have n3_ := z10_A (blk_below (g := gb319) (o := .cells #[.int .i64 x320000_29, .int .i64 t310, .int .i64 t316] 32 (0, 0)) z10_9 hb); have n4_ := z10_A (IsS82.below z10_4 hb); have n5_ := z10_A (KeepBut.trans z10_1 (KeepBut.of_below hb g none) (.inl rfl)); have n6_ := z10_A (below_step z10_2 hb); clear BK304 BK305 BK319 HI0 HK HB; revert n0_ n1_ n2_ n3_ n4_ n5_ n6_; intro HO342 BK304 BK305 BK319 HI0 HK HB; clear hb ho69; obtain ⟨Ao70, co70, eo70⟩ := Kd.R_slice HO342.out; subst eo70) | ((with_reducible refine gate_callee (f := 82) rfl ?_); refine goesL_ (some 54) rfl rfl Try.func82 z10_23 rfl #[.pointer (some ⟨g, 0, none⟩), .slice Ao70 y340.length co70] rfl z10_5 ?_; (with_reducible refine (spec_l1Cur_among.calls g s0_0 t326 t327 _ _ y340 t343 t344 t345 w0 _ ?side1 ?side2 ?side3 ?side4 ?side5 A66.out).mono ?_); (case side1 => repeat (first | (with_reducible first | exact HI0.out | apply IsS82.alloc | apply IsS82.drewN | apply IsS82.drew | apply IsS82.set_1 | apply IsS82.set_2 | refine IsS82.far ?_ NB0_304.out _ | refine IsS82.far ?_ NB0_305.out _ | refine IsS82.far ?_ NB0_319.out _) | exact HI0.out)); (case side2 => repeat (first | (with_reducible first | exact HB.out | apply below_alloc | apply pw_below_drewN | apply below_drew1 | refine below_set ?_ (IsS82.ge HI0.out) | refine below_set ?_ GE304.out | refine below_set ?_ GE305.out | refine below_set ?_ GE319.out) | exact HB.out)); (case side3 => have zh := (Kd.R_reads' HO342.out).2.2; exact z10_C); (case side4 => exact (Kd.R_reads' HO342.out).2.1); (case side5 => exact far_slice (IsS82.own_ne HI0.out HO342.out (by decide))); rintro e w71 ⟨rfl, hi, hb, hk⟩; refine ⟨_, rfl, ?_⟩; have n0_ := z10_A (KeepBut.blk hk (g' := gb304) (o := .cells #[.slice A1_0 l1_0.length c1_0, .int .i64 a1_1, .int .i64 a1_2, .int .i64 a1_3] 30 (0, 0)) z10_3 NB304_0.out z10_28); have n1_ := z10_A (KeepBut.blk hk (g' := gb305) (o := .cells #[.int .i64 0, .int .i64 0, .int .i64 0] 32 (0, 0)) z10_6 NB305_0.out z10_28); have n2_ := z10_A (KeepBut.blk hk (g' := gb319) (o := .cells #[.int .i64 x320000_29, .int .i64 t310, .int .i64 t316] 32 (0, 0)) z10_9 NB319_0.out z10_28); have n3_ := z10_A (Kd.R_mono (Kd.R_keep (IsS82.apart (show IsS82 w0 _ g s0_0 t326 t327 from by repeat (first | (with_reducible first | exact HI0.out | apply IsS82.alloc | apply IsS82.drewN | apply IsS82.drew | apply IsS82.set_1 | apply IsS82.set_2 | refine IsS82.far ?_ NB0_304.out _ | refine IsS82.far ?_ NB0_305.out _ | refine IsS82.far ?_ NB0_319.out _) | exact HI0.out)) (by (with_reducible repeat (first | apply Kd.R_alloc | apply Kd.R_drewN | apply Kd.R_drew)); exact HO342.out) (by decide)) hk (fun _ h => h.2)) (fun _ h => h.1)); have n4_ := z10_A (KeepBut.trans z10_1 hk (.inl rfl)); have n5_ := z10_A (hb); have n6_ := z10_A (hi); clear BK304 BK305 BK319 HO342 HK HB HI0; revert n0_ n1_ n2_ n3_ n4_ n5_ n6_; intro BK304 BK305 BK319 HO342 HK HB HI0; (try clear hb); (try clear hb2); (try clear hk); (try clear hi); have hnb72 := NB319_304.out; have hnc72 := NB304_319.out; have hnb73 := NB319_305.out; have hnc73 := NB305_319.out; have hnb74 := NB319_0.out; have hnc74 := NB0_319.out; have hcz75_0 : w71.cell? ⟨gb319, 0, none⟩ = some (.int .i64 x320000_29) := bcz BK319.out 0 rfl; have hcz75_1 : w71.cell? ⟨gb319, 1, none⟩ = some (.int .i64 t310) := bcz BK319.out 1 rfl; have hcz75_2 : w71.cell? ⟨gb319, 2, none⟩ = some (.int .i64 t316) := bcz BK319.out 2 rfl; obtain ⟨hfz75_0, hfz75_1, hfz75_2⟩ := F3z (blk_frozen BK319.out); have hnb76 := NB305_304.out; have hnc76 := NB304_305.out; have hnb77 := NB305_0.out; have hnc77 := NB0_305.out; have hcz78_0 : w71.cell? ⟨gb305, 0, none⟩ = some (.int .i64 0) := bcz BK305.out 0 rfl; have hcz78_1 : w71.cell? ⟨gb305, 1, none⟩ = some (.int .i64 0) := bcz BK305.out 1 rfl; have hcz78_2 : w71.cell? ⟨gb305, 2, none⟩ = some (.int .i64 0) := bcz BK305.out 2 rfl; obtain ⟨hfz78_0, hfz78_1, hfz78_2⟩ := F3z (blk_frozen BK305.out)))
        refine bodyPost_ret (results_cell_row rfl _ _ gb305 32 #[.int .i64 x320000_29, .int .i64 t310, .int .i64 t343] (0, 0) _ rfl (by (with_reducible repeat (first | refine blk_drewN ?_ _ | refine blk_drew ?_ | refine blk_alloc ?_ _)); refine blk_put (cs := #[.int .i64 x320000_29, .int .i64 t310, .int .i64 0]) ?_ 2 _ rfl; (with_reducible repeat (first | refine blk_drewN ?_ _ | refine blk_drew ?_ | refine blk_alloc ?_ _)); refine blk_put (cs := #[.int .i64 x320000_29, .int .i64 0, .int .i64 0]) ?_ 1 _ rfl; (with_reducible repeat (first | refine blk_drewN ?_ _ | refine blk_drew ?_ | refine blk_alloc ?_ _)); refine blk_put (cs := #[.int .i64 0, .int .i64 0, .int .i64 0]) ?_ 0 _ rfl; (with_reducible repeat (first | refine blk_drewN ?_ _ | refine blk_drew ?_ | refine blk_alloc ?_ _)); refine blk_far ?_ NB305_319.out _; (with_reducible repeat (first | refine blk_drewN ?_ _ | refine blk_drew ?_ | refine blk_alloc ?_ _)); exact BK305.out) Try.underlying32 rfl z10_23) rfl ?_
        exact ⟨z10_13, z10_4, z10_2, z10_1⟩
       ·rw [if_neg c65] at H
        have c65b0 : (t325 == 2) = false := beq_eq_false_iff_ne.mpr c65
        have c65b1 : (t325 != 2) = true := bne_iff_ne.mpr c65
        simp only [Option.some.injEq, Prod.mk.injEq] at H
        obtain ⟨rfl, rfl, rfl, rfl, rfl⟩ := H
        go_wp2_with (first | ((with_reducible refine gate_callee (f := 105) rfl ?_); refine goesL_ (some 37) rfl rfl Try.func105 z10_23 rfl #[.pointer (some ⟨g, 0, none⟩), .int .i64 40] rfl z10_5 ?_; (with_reducible refine (spec_l1Cur_pick.calls g s0_0 x1001_7 x1002_7 40 t325 t326 t327 w0 _ ?side1 ?side2 A36.out).mono ?_); (case side1 => repeat (first | (with_reducible first | exact HI0.out | apply IsS82.alloc | apply IsS82.drewN | apply IsS82.drew | apply IsS82.set_1 | apply IsS82.set_2 | refine IsS82.far ?_ NB0_304.out _ | refine IsS82.far ?_ NB0_305.out _ | refine IsS82.far ?_ NB0_319.out _) | exact HI0.out)); (case side2 => repeat (first | (with_reducible first | exact HB.out | apply below_alloc | apply pw_below_drewN | apply below_drew1 | refine below_set ?_ (IsS82.ge HI0.out) | refine below_set ?_ GE304.out | refine below_set ?_ GE305.out | refine below_set ?_ GE319.out) | exact HB.out)); rintro e w79 ⟨rfl, hi, hb, hk⟩; refine ⟨_, rfl, ?_⟩; have n0_ := z10_A (KeepBut.blk hk (g' := gb304) (o := .cells #[.slice A1_0 l1_0.length c1_0, .int .i64 a1_1, .int .i64 a1_2, .int .i64 a1_3] 30 (0, 0)) z10_3 NB304_0.out z10_28); have n1_ := z10_A (KeepBut.blk hk (g' := gb305) (o := .cells #[.int .i64 0, .int .i64 0, .int .i64 0] 32 (0, 0)) z10_6 NB305_0.out z10_28); have n2_ := z10_A (KeepBut.blk hk (g' := gb319) (o := .cells #[.int .i64 x320000_29, .int .i64 t310, .int .i64 t316] 32 (0, 0)) z10_9 NB319_0.out z10_28); have n3_ := z10_A (KeepBut.trans z10_1 hk (.inl rfl)); have n4_ := z10_A (hb); have n5_ := z10_A (hi); clear BK304 BK305 BK319 HK HB HI0; revert n0_ n1_ n2_ n3_ n4_ n5_; intro BK304 BK305 BK319 HK HB HI0; (try clear hb); (try clear hb2); (try clear hk); (try clear hi); have hnb80 := NB319_304.out; have hnc80 := NB304_319.out; have hnb81 := NB319_305.out; have hnc81 := NB305_319.out; have hnb82 := NB319_0.out; have hnc82 := NB0_319.out; have hcz83_0 : w79.cell? ⟨gb319, 0, none⟩ = some (.int .i64 x320000_29) := bcz BK319.out 0 rfl; have hcz83_1 : w79.cell? ⟨gb319, 1, none⟩ = some (.int .i64 t310) := bcz BK319.out 1 rfl; have hcz83_2 : w79.cell? ⟨gb319, 2, none⟩ = some (.int .i64 t316) := bcz BK319.out 2 rfl; obtain ⟨hfz83_0, hfz83_1, hfz83_2⟩ := F3z (blk_frozen BK319.out); have hnb84 := NB305_304.out; have hnc84 := NB304_305.out; have hnb85 := NB305_0.out; have hnc85 := NB0_305.out; have hcz86_0 : w79.cell? ⟨gb305, 0, none⟩ = some (.int .i64 0) := bcz BK305.out 0 rfl; have hcz86_1 : w79.cell? ⟨gb305, 1, none⟩ = some (.int .i64 0) := bcz BK305.out 1 rfl; have hcz86_2 : w79.cell? ⟨gb305, 2, none⟩ = some (.int .i64 0) := bcz BK305.out 2 rfl; obtain ⟨hfz86_0, hfz86_1, hfz86_2⟩ := F3z (blk_frozen BK305.out)))
        refine bodyPost_ret (results_cell_row rfl _ _ gb305 32 #[.int .i64 x320000_29, .int .i64 t310, .int .i64 t316] (0, 0) _ rfl (by (with_reducible repeat (first | refine blk_drewN ?_ _ | refine blk_drew ?_ | refine blk_alloc ?_ _)); refine blk_put (cs := #[.int .i64 x320000_29, .int .i64 t310, .int .i64 0]) ?_ 2 _ rfl; (with_reducible repeat (first | refine blk_drewN ?_ _ | refine blk_drew ?_ | refine blk_alloc ?_ _)); refine blk_put (cs := #[.int .i64 x320000_29, .int .i64 0, .int .i64 0]) ?_ 1 _ rfl; (with_reducible repeat (first | refine blk_drewN ?_ _ | refine blk_drew ?_ | refine blk_alloc ?_ _)); refine blk_put (cs := #[.int .i64 0, .int .i64 0, .int .i64 0]) ?_ 0 _ rfl; (with_reducible repeat (first | refine blk_drewN ?_ _ | refine blk_drew ?_ | refine blk_alloc ?_ _)); exact BK305.out) Try.underlying32 rfl z10_23) rfl ?_
        exact ⟨z10_13, z10_4, z10_2, z10_1⟩

/-! ### spec_l1Cur_sold: function 91 -/
def spec_l1Cur_sold.f (s0_0 : List Int) (s0_1 : Int) (s0_2 : Int) : Option (Int × Int × Int) := (spec_l1Cur_among.f s0_0 s0_1 s0_2 (([0, 1, 2, 3, 4, 5, 8, 9, (-1), 6, 7] : List Int))).bind fun bt349 => (some (bt349.1, bt349.2.1, bt349.2.2))
set_option maxHeartbeats 8000000 in
set_option maxRecDepth 100000 in
theorem spec_l1Cur_sold.calls (g : Nat) (s0_0 : List Int) (s0_1 : Int) (s0_2 : Int) (r1 : Int) (r2 : Int) (r3 : Int) (w0 w : World) (hI : IsS82 w0 w g s0_0 s0_1 s0_2) (hB : Below w0.heap.size w0 w) (h : spec_l1Cur_sold.f s0_0 s0_1 s0_2 = some (r1, r2, r3)) :
  Calls Try.prog 91 #[.pointer (some ⟨g, 0, none⟩)] w fun e w' => e = .returned (.int .i64 r1) ∧ IsS82 w0 w' g s0_0 r2 r3 ∧ Below w0.heap.size w0 w' ∧ KeepBut w w' g none := by
 have HI0 := z10_A hI
 have HK := z10_A (KeepBut.refl w g none)
 have HL := z10_A hB.size
 clear hI
 have HW0 := z10_A hB.size
 have HB := z10_A hB
 clear hB
 have H : ((spec_l1Cur_among.f s0_0 s0_1 s0_2 (([0, 1, 2, 3, 4, 5, 8, 9, (-1), 6, 7] : List Int))).bind fun bt349 => (some (bt349.1, bt349.2.1, bt349.2.2))) = some (r1, r2, r3) := h
 clear h
 obtain ⟨y346, hy346⟩ : ∃ y_ : List Int, y_ = (([0, 1, 2, 3, 4, 5, 8, 9, (-1), 6, 7] : List Int)) := ⟨_, rfl⟩
 replace H : ((spec_l1Cur_among.f s0_0 s0_1 s0_2 y346).bind fun bt349 => (some (bt349.1, bt349.2.1, bt349.2.2))) = some (r1, r2, r3) := by first | (rw [hy346]; with_reducible exact H) | (have H2_ := (Option.bind_some _ _).symm.trans H; rw [hy346]; with_reducible exact H2_) | (have H2_ := (Option.bind_some _ _).symm.trans H; with_reducible exact H2_) | with_reducible exact H | (rw [hy346]; exact H) | exact H
 have Ny346 := z10_A hy346
 clear hy346
 replace H := Option.bind_eq_some_iff.mp H
 obtain ⟨⟨t349, t350, t351⟩, A20, H⟩ := H
 (try dsimp only at H)
 have A2 := z10_A A20
 clear A20
 simp only [Option.some.injEq, Prod.mk.injEq] at H
 obtain ⟨rfl, rfl, rfl⟩ := H
 go_enter Try.func91, Try.ntmps91
 go_wp2_with (first | ((with_reducible refine gate_dst (N := 4) rfl ?_); refine Kd.R_lit (Kd.int .i64) _ 3 ?hg (N := 4) ?hd (xs := ([0, 1, 2, 3, 4, 5, 8, 9, (-1), 6, 7] : List Int)) (inner := [.int .i64 0, .int .i64 1, .int .i64 2, .int .i64 3, .int .i64 4, .int .i64 5, .int .i64 8, .int .i64 9, .int .i64 (-1), .int .i64 6, .int .i64 7]) (ok := fun _ => True) (okp := fun _ => True) ?hr ?hp (fun _ hk => hk) trivial (Below.refl _ _) (Nat.le_refl _) z10_28 ?_; (case hd => rfl); (case hg => rfl); (case hr => first | (go_simp; done) | (go_simp; rfl)); (case hp => exact (Reps.one (show Kd.M (Kd.int .i64) _ _ _ 0 [.int .i64 0] from rfl) (Reps.one (show Kd.M (Kd.int .i64) _ _ _ 1 [.int .i64 1] from rfl) (Reps.one (show Kd.M (Kd.int .i64) _ _ _ 2 [.int .i64 2] from rfl) (Reps.one (show Kd.M (Kd.int .i64) _ _ _ 3 [.int .i64 3] from rfl) (Reps.one (show Kd.M (Kd.int .i64) _ _ _ 4 [.int .i64 4] from rfl) (Reps.one (show Kd.M (Kd.int .i64) _ _ _ 5 [.int .i64 5] from rfl) (Reps.one (show Kd.M (Kd.int .i64) _ _ _ 8 [.int .i64 8] from rfl) (Reps.one (show Kd.M (Kd.int .i64) _ _ _ 9 [.int .i64 9] from rfl) (Reps.one (show Kd.M (Kd.int .i64) _ _ _ (-1) [.int .i64 (-1)] from rfl) (Reps.one (show Kd.M (Kd.int .i64) _ _ _ 6 [.int .i64 6] from rfl) (Reps.one (show Kd.M (Kd.int .i64) _ _ _ 7 [.int .i64 7] from rfl) (Reps.none _ _))))))))))))); intro v347 w3 ho4 hb hg_ hnew_; clear hg_ hnew_; (first | rw [← Ny346.out] at ho4 | (simp only [Int.reduceToNat] at ho4; rw [← Ny346.out] at ho4)); have n0_ := z10_A (Kd.R_lower ho4 (keep_size (w := w) (g := g) (row := none) z10_11)); have n1_ := z10_A (IsS82.below z10_17 hb); have n2_ := z10_A (KeepBut.trans z10_11 (KeepBut.of_below hb g none) (.inl rfl)); have n3_ := z10_A (below_step z10_16 hb); clear HI0 HK HB; revert n0_ n1_ n2_ n3_; intro HO348 HI0 HK HB; clear hb ho4; obtain ⟨Ao5, co5, eo5⟩ := Kd.R_slice HO348.out; subst eo5) | ((with_reducible refine gate_callee (f := 82) rfl ?_); refine goesL_ (some 5) rfl rfl Try.func82 z10_23 rfl #[.pointer (some ⟨g, 0, none⟩), .slice Ao5 y346.length co5] rfl z10_5 ?_; (with_reducible refine (spec_l1Cur_among.calls g s0_0 s0_1 s0_2 _ _ y346 t349 t350 t351 w0 _ ?side1 ?side2 ?side3 ?side4 ?side5 A2.out).mono ?_); (case side1 => repeat (first | (with_reducible first | exact HI0.out | apply IsS82.alloc | apply IsS82.drewN | apply IsS82.drew | apply IsS82.set_1 | apply IsS82.set_2) | exact HI0.out)); (case side2 => repeat (first | (with_reducible first | exact HB.out | apply below_alloc | apply pw_below_drewN | apply below_drew1 | refine below_set ?_ (IsS82.ge HI0.out)) | exact HB.out)); (case side3 => have zh := (Kd.R_reads' HO348.out).2.2; exact z10_C); (case side4 => exact (Kd.R_reads' HO348.out).2.1); (case side5 => exact far_slice (IsS82.own_ne HI0.out HO348.out (by decide))); rintro e w6 ⟨rfl, hi, hb, hk⟩; refine ⟨_, rfl, ?_⟩; have n0_ := z10_A (Kd.R_mono (Kd.R_keep (IsS82.apart (show IsS82 w0 _ g s0_0 s0_1 s0_2 from by repeat (first | (with_reducible first | exact HI0.out | apply IsS82.alloc | apply IsS82.drewN | apply IsS82.drew | apply IsS82.set_1 | apply IsS82.set_2) | exact HI0.out)) (by (with_reducible repeat (first | apply Kd.R_alloc | apply Kd.R_drewN | apply Kd.R_drew)); exact HO348.out) (by decide)) hk (fun _ h => h.2)) (fun _ h => h.1)); have n1_ := z10_A (KeepBut.trans z10_11 hk (.inl rfl)); have n2_ := z10_A (hb); have n3_ := z10_A (hi); clear HO348 HK HB HI0; revert n0_ n1_ n2_ n3_; intro HO348 HK HB HI0; (try clear hb); (try clear hb2); (try clear hk); (try clear hi)))
 go_ret
 exact ⟨z10_13, z10_17, z10_16, z10_11⟩

end Go.Proofs.Ytiniocecpgjikaa.PFnProfits
