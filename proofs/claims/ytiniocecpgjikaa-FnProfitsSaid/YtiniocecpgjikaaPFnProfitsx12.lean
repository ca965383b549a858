-- A text of this session (its program hook.py, over the kit's print.py): not a print of print.sh
-- THIN: one blank for two
import Derived.Test.YtiniocecpgjikaaPFnProfitsx0
import Derived.Test.YtiniocecpgjikaaPFnProfitsx2
import Derived.Test.YtiniocecpgjikaaPFnProfitsx5
import Derived.Test.YtiniocecpgjikaaPFnProfitsx6
import Derived.Test.YtiniocecpgjikaaPFnProfitsx7
import Derived.Test.YtiniocecpgjikaaPFnProfitsx11
namespace Go.Proofs.Ytiniocecpgjikaa.PFnProfits
open Go.RowKit Go.Proofs.YtiniocecpgjikaaW.PrintWords Go.Proofs.YtiniocecpgjikaaW.PrintLast Go.Proofs.YtiniocecpgjikaaW.PrintMore
attribute [local go_sem] max2_int min2_int max_two min_two max_three min_three max_four min_four   -- for this text's walks alone
set_option linter.unusedVariables false
set_option linter.unusedSimpArgs false

-- SQUEEZED
private theorem bcz {w : World} {g : Nat} {t : TypeId} {cs : Array Value} (h : w.heap[g]? = some (.cells cs t (0, 0))) (i : Nat) {v : Value} (e : cs[i]? = some v) : w.cell? ⟨g, i, none⟩ = some v := (blk_cell h i).trans e
private theorem F4z {P : Nat → Prop} (h : ∀ i, P i) : P 0 ∧ P 1 ∧ P 2 ∧ P 3 := ⟨h 0, h 1, h 2, h 3⟩
theorem z12_A {p : Prop} (h : p) : Aside0 p := Aside0.mk h
theorem z12_C {p : Prop} (h : p := by repeat (first | exact zh | (with_reducible refine Kd.C_alloc ?_ _) | (with_reducible refine Kd.C_drewN ?_ _) | (with_reducible refine Kd.C_drew ?_))) : p := h
theorem z12_1 {p : Prop} (h : p := by repeat (first | (with_reducible first | exact HB.out | apply below_alloc | apply pw_below_drewN | apply below_drew1) | exact HB.out)) : p := h
theorem z12_2 {p : Prop} (h : p := by (try simp only [List.map_toArray, List.map_cons, List.map_nil]); first | done | rfl | (simp only [List.length_drop, List.length_take]; rfl)) : p := h
theorem z12_3 {p : Prop} (h : p := by repeat (first | (with_reducible first | exact HB.out | apply below_alloc | apply pw_below_drewN | apply below_drew1 | refine below_set ?_ GE419.out) | exact HB.out)) : p := h
theorem z12_4 {p : Prop} (h : p := by repeat (first | (with_reducible first | exact HB.out | apply below_alloc | apply pw_below_drewN | apply below_drew1 | refine below_set ?_ GE410.out) | exact HB.out)) : p := h
theorem z12_5 {p : Prop} (h : p := by repeat (first | (with_reducible first | exact HB.out | apply below_alloc | apply pw_below_drewN | apply below_drew1 | refine below_set ?_ GE406.out) | exact HB.out)) : p := h
theorem z12_6 {p : Prop} (h : p := by repeat (first | (with_reducible first | exact HB.out | apply below_alloc | apply pw_below_drewN | apply below_drew1 | refine below_set ?_ GE399.out) | exact HB.out)) : p := h
theorem z12_7 {p : Prop} (h : p := by first | rfl | (simp [errW_none, errW_some] <;> rfl) | (simp [*, errW_none, errW_some] <;> rfl)) : p := h
theorem z12_8 {p : Prop} (h : p := by (with_reducible repeat (first | refine blk_drewN ?_ _ | refine blk_drew ?_ | refine blk_alloc ?_ _)); exact BK419.out) : p := h
theorem z12_9 {p : Prop} (h : p := by rw [hg]; exact (below_size z12_1)) : p := h
theorem z12_10 {p : Prop} (h : p := by (with_reducible repeat (first | refine blk_drewN ?_ _ | refine blk_drew ?_ | refine blk_alloc ?_ _)); exact BK410.out) : p := h
theorem z12_11 {p : Prop} (h : p := by repeat (first | (with_reducible first | exact HB.out | apply below_alloc | apply pw_below_drewN | apply below_drew1 | refine below_set ?_ GE403.out) | exact HB.out)) : p := h
theorem z12_12 {p : Prop} (h : p := by (with_reducible repeat (first | apply Kd.R_alloc | apply Kd.R_drewN | apply Kd.R_drew)); exact HO_4.out) : p := h
theorem z12_13 {p : Prop} (h : p := by first | rfl | (simp; done) | (simp [*]; done)) : p := h
theorem z12_14 {p : Prop} (h : p := by rw [if_neg (show ¬ (false = true) by decide)] at H; exact H) : p := h
theorem z12_15 {p : Prop} (h : p := by (with_reducible repeat (first | refine blk_drewN ?_ _ | refine blk_drew ?_ | refine blk_alloc ?_ _)); exact BK406.out) : p := h
theorem z12_16 {p : Prop} (h : p := by (with_reducible repeat (first | refine blk_drewN ?_ _ | refine blk_drew ?_ | refine blk_alloc ?_ _)); exact BK399.out) : p := h
theorem z12_17 {p : Prop} (h : p := by first | (with_reducible assumption) | assumption) : p := h
theorem z12_18 {p : Prop} (h : p := by (with_reducible repeat (first | apply Kd.R_alloc | apply Kd.R_drewN | apply Kd.R_drew)); exact HO422.out) : p := h
theorem z12_19 {p : Prop} (h : p := by (with_reducible repeat (first | refine blk_drewN ?_ _ | refine blk_drew ?_ | refine blk_alloc ?_ _)); exact BK403.out) : p := h
theorem z12_20 {p : Prop} (h : p := by repeat (first | exact Drawn0.refl _ | apply Drawn0.step)) : p := h
theorem z12_21 {p : Prop} (h : p := by rw [if_pos rfl] at H; exact H) : p := h
theorem z12_22 {p : Prop} (h : p := by kernel_rfl) : p := h

/-! ### spec_JointProfit: function 50 -/
def spec_JointProfit.f (k : Nat) (l0_0 : List Int) (a0_1 : Int) (a0_2 : Int) (a0_3 : Int) (a1 : Int) : Option (Int × Bool) := (spec_l10Market.f k l0_0 a0_1 a0_2 a0_3).bind fun t400 => (if t400 = true then ((spec_l10Order.f a1).bind fun t401 => (if t401 = true then ((spec_l10Joint.f k l0_0 a0_1 a0_2 a0_3 a1).bind fun t402 => (some (t402, true))) else (some (0, false)))) else (some (0, false)))
theorem spec_JointProfit.mono : ∀ a0 a1 a2 a3 a4 k, LeO (spec_JointProfit.f k a0 a1 a2 a3 a4) (spec_JointProfit.f (k + 1) a0 a1 a2 a3 a4) := by
 intro a0 a1 a2 a3 a4 k
 unfold spec_JointProfit.f
 repeat' first
   | (with_reducible exact spec_l10Joint.mono _ _ _ _ _ _)
   | (with_reducible exact spec_l10Market.mono _ _ _ _ _)
   | (with_reducible exact LeO.refl _)
   | (with_reducible exact LeO.none _)
   | (with_reducible refine LeO.ite ?_ ?_)
   | (with_reducible refine LeO.bind ?_ (fun _ => ?_))
   | exact spec_l10Joint.mono _ _ _ _ _ _
   | exact spec_l10Market.mono _ _ _ _ _
   | exact LeO.none _
   | refine LeO.ite ?_ ?_
   | refine LeO.bind ?_ (fun _ => ?_)
set_option maxHeartbeats 8000000 in
set_option maxRecDepth 100000 in
theorem spec_JointProfit.calls (k : Nat) (A0_0 : Option Addr) (c0_0 : Nat) (l0_0 : List Int) (a0_1 : Int) (a0_2 : Int) (a0_3 : Int) (a1 : Int) (r1 : Int) (r2 : Bool) (w : World) (hr0_0 : Kd.C (Kd.int .i64) w A0_0 l0_0.length l0_0) (hc0_0 : l0_0.length ≤ c0_0) (h : spec_JointProfit.f k l0_0 a0_1 a0_2 a0_3 a1 = some (r1, r2)) :
  Calls Try.prog 50 #[.agg #[.slice A0_0 l0_0.length c0_0, .int .i64 a0_1, .int .i64 a0_2, .int .i64 a0_3], .int .i64 a1] w fun e w' => e = .returned (.tuple #[.int .i64 r1, .bool r2]) ∧ Below w.heap.size w w' := by
 have hu30 := Try.underlying30
 have HR0_0 := z12_A hr0_0
 have HC0_0 := z12_A hc0_0
 clear hr0_0 hc0_0
 have HB := z12_A (Below.refl w.heap.size w)
 have H : ((spec_l10Market.f k l0_0 a0_1 a0_2 a0_3).bind fun t400 => (if t400 = true then ((spec_l10Order.f a1).bind fun t401 => (if t401 = true then ((spec_l10Joint.f k l0_0 a0_1 a0_2 a0_3 a1).bind fun t402 => (some (t402, true))) else (some (0, false)))) else (some (0, false)))) = some (r1, r2) := h
 clear h
 replace H := Option.bind_eq_some_iff.mp H
 obtain ⟨t400, A30, H⟩ := H
 (try dsimp only at H)
 have A3 := z12_A A30
 clear A30
 by_cases c4 : t400 = true
 ·subst c4
  have H1 : ((spec_l10Order.f a1).bind fun t401 => (if t401 = true then ((spec_l10Joint.f k l0_0 a0_1 a0_2 a0_3 a1).bind fun t402 => (some (t402, true))) else (some (0, false)))) = some (r1, r2) := z12_21
  clear H
  have H := H1
  clear H1
  replace H := Option.bind_eq_some_iff.mp H
  obtain ⟨t401, A50, H⟩ := H
  (try dsimp only at H)
  have A5 := z12_A A50
  clear A50
  by_cases c6 : t401 = true
  ·subst c6
   have H1 : ((spec_l10Joint.f k l0_0 a0_1 a0_2 a0_3 a1).bind fun t402 => (some (t402, true))) = some (r1, r2) := z12_21
   clear H
   have H := H1
   clear H1
   replace H := Option.bind_eq_some_iff.mp H
   obtain ⟨t402, A70, H⟩ := H
   (try dsimp only at H)
   have A7 := z12_A A70
   clear A70
   simp only [Option.some.injEq, Prod.mk.injEq] at H
   obtain ⟨rfl, rfl⟩ := H
   go_enter Try.func50, Try.ntmps50
   go_wp2_with (first | ((with_reducible refine gate_dst (N := 2) rfl ?_); refine box_event ?hg (N := 2) ?hd (cs := #[.slice A0_0 l0_0.length c0_0, .int .i64 a0_1, .int .i64 a0_2, .int .i64 a0_3]) (t := 30) ?hr ?_; (case hd => rfl); (case hg => rfl); (case hr => first | (go_simp; done) | (go_simp; rfl)); intro gb399 hg w8 hbox hb; have n0_ := z12_A (below_step z12_1 hb); have n1_ := z12_A (hbox); have n2_ := z12_A ((z12_9 : w.heap.size ≤ gb399)); have n3_ := z12_A ((z12_9 : w.heap.size ≤ gb399)); clear HB; revert n0_ n1_ n2_ n3_; intro HB BK399 GW399 GE399; clear hb hbox hg; have hcz9_0 : w8.cell? ⟨gb399, 0, none⟩ = some (.slice A0_0 l0_0.length c0_0) := bcz BK399.out 0 rfl; have hcz9_1 : w8.cell? ⟨gb399, 1, none⟩ = some (.int .i64 a0_1) := bcz BK399.out 1 rfl; have hcz9_2 : w8.cell? ⟨gb399, 2, none⟩ = some (.int .i64 a0_2) := bcz BK399.out 2 rfl; have hcz9_3 : w8.cell? ⟨gb399, 3, none⟩ = some (.int .i64 a0_3) := bcz BK399.out 3 rfl; obtain ⟨hfz9_0, hfz9_1, hfz9_2, hfz9_3⟩ := F4z (blk_frozen BK399.out)) | ((with_reducible refine gate_callee (f := 67) rfl ?_); refine goesL_ (some 7) rfl rfl Try.func67 z12_22 rfl #[.agg #[.slice A0_0 l0_0.length c0_0, .int .i64 a0_1, .int .i64 a0_2, .int .i64 a0_3]] rfl z12_2 ?_; (with_reducible refine (spec_l10Market.calls k _ _ l0_0 a0_1 a0_2 a0_3 true _ ?side1 ?side2 A3.out).mono ?_); (case side1 => have zh := (Kd.C_below HR0_0.out HB.out); exact z12_C); (case side2 => exact HC0_0.out); rintro e w10 ⟨rfl, hb⟩; refine ⟨_, rfl, ?_⟩; have n0_ := z12_A (blk_below (g := gb399) (o := .cells #[.slice A0_0 l0_0.length c0_0, .int .i64 a0_1, .int .i64 a0_2, .int .i64 a0_3] 30 (0, 0)) z12_16 hb); have n1_ := z12_A (below_step z12_6 hb); clear BK399 HB; revert n0_ n1_; intro BK399 HB; (try clear hb); (try clear hb2); (try clear hk); (try clear hi)) | (go_at_call 92; (with_reducible refine (spec_l10Order.calls a1 true _ A5.out).mono ?_); rintro e w' ⟨rfl, ⟨nd, rfl⟩⟩; have hcz11_0 : w10.cell? ⟨gb399, 0, none⟩ = some (.slice A0_0 l0_0.length c0_0) := bcz BK399.out 0 rfl; have hcz11_1 : w10.cell? ⟨gb399, 1, none⟩ = some (.int .i64 a0_1) := bcz BK399.out 1 rfl; have hcz11_2 : w10.cell? ⟨gb399, 2, none⟩ = some (.int .i64 a0_2) := bcz BK399.out 2 rfl; have hcz11_3 : w10.cell? ⟨gb399, 3, none⟩ = some (.int .i64 a0_3) := bcz BK399.out 3 rfl; obtain ⟨hfz11_0, hfz11_1, hfz11_2, hfz11_3⟩ := F4z (blk_frozen BK399.out)) | ((with_reducible refine gate_callee (f := 96) rfl ?_); refine goesL_ (some 16) rfl rfl Try.func96 z12_22 rfl #[.agg #[.slice A0_0 l0_0.length c0_0, .int .i64 a0_1, .int .i64 a0_2, .int .i64 a0_3], .int .i64 a1] rfl z12_2 ?_; (with_reducible refine (spec_l10Joint.calls k _ _ l0_0 a0_1 a0_2 a0_3 a1 t402 _ ?side1 ?side2 A7.out).mono ?_); (case side1 => repeat (first | exact (Kd.C_below HR0_0.out z12_6) | (with_reducible refine Kd.C_alloc ?_ _) | (with_reducible refine Kd.C_drewN ?_ _) | (with_reducible refine Kd.C_drew ?_))); (case side2 => exact HC0_0.out); rintro e w12 ⟨rfl, hb⟩; refine ⟨_, rfl, ?_⟩; have n0_ := z12_A (blk_below (g := gb399) (o := .cells #[.slice A0_0 l0_0.length c0_0, .int .i64 a0_1, .int .i64 a0_2, .int .i64 a0_3] 30 (0, 0)) z12_16 hb); have n1_ := z12_A (below_step z12_6 hb); clear BK399 HB; revert n0_ n1_; intro BK399 HB; (try clear hb); (try clear hb2); (try clear hk); (try clear hi)))
   go_ret2
   exact ⟨z12_7, z12_6⟩
  ·replace c6 := Bool.eq_false_iff.mpr c6
   subst c6
   have H1 : (some (0, false)) = some (r1, r2) := z12_14
   clear H
   have H := H1
   clear H1
   simp only [Option.some.injEq, Prod.mk.injEq] at H
   obtain ⟨rfl, rfl⟩ := H
   go_enter Try.func50, Try.ntmps50
   go_wp2_with (first | ((with_reducible refine gate_dst (N := 2) rfl ?_); refine box_event ?hg (N := 2) ?hd (cs := #[.slice A0_0 l0_0.length c0_0, .int .i64 a0_1, .int .i64 a0_2, .int .i64 a0_3]) (t := 30) ?hr ?_; (case hd => rfl); (case hg => rfl); (case hr => first | (go_simp; done) | (go_simp; rfl)); intro gb399 hg w13 hbox hb; have n0_ := z12_A (below_step z12_1 hb); have n1_ := z12_A (hbox); have n2_ := z12_A ((z12_9 : w.heap.size ≤ gb399)); have n3_ := z12_A ((z12_9 : w.heap.size ≤ gb399)); clear HB; revert n0_ n1_ n2_ n3_; intro HB BK399 GW399 GE399; clear hb hbox hg; have hcz14_0 : w13.cell? ⟨gb399, 0, none⟩ = some (.slice A0_0 l0_0.length c0_0) := bcz BK399.out 0 rfl; have hcz14_1 : w13.cell? ⟨gb399, 1, none⟩ = some (.int .i64 a0_1) := bcz BK399.out 1 rfl; have hcz14_2 : w13.cell? ⟨gb399, 2, none⟩ = some (.int .i64 a0_2) := bcz BK399.out 2 rfl; have hcz14_3 : w13.cell? ⟨gb399, 3, none⟩ = some (.int .i64 a0_3) := bcz BK399.out 3 rfl; obtain ⟨hfz14_0, hfz14_1, hfz14_2, hfz14_3⟩ := F4z (blk_frozen BK399.out)) | ((with_reducible refine gate_callee (f := 67) rfl ?_); refine goesL_ (some 7) rfl rfl Try.func67 z12_22 rfl #[.agg #[.slice A0_0 l0_0.length c0_0, .int .i64 a0_1, .int .i64 a0_2, .int .i64 a0_3]] rfl z12_2 ?_; (with_reducible refine (spec_l10Market.calls k _ _ l0_0 a0_1 a0_2 a0_3 true _ ?side1 ?side2 A3.out).mono ?_); (case side1 => have zh := (Kd.C_below HR0_0.out HB.out); exact z12_C); (case side2 => exact HC0_0.out); rintro e w15 ⟨rfl, hb⟩; refine ⟨_, rfl, ?_⟩; have n0_ := z12_A (blk_below (g := gb399) (o := .cells #[.slice A0_0 l0_0.length c0_0, .int .i64 a0_1, .int .i64 a0_2, .int .i64 a0_3] 30 (0, 0)) z12_16 hb); have n1_ := z12_A (below_step z12_6 hb); clear BK399 HB; revert n0_ n1_; intro BK399 HB; (try clear hb); (try clear hb2); (try clear hk); (try clear hi)) | (go_at_call 92; (with_reducible refine (spec_l10Order.calls a1 false _ A5.out).mono ?_); rintro e w' ⟨rfl, ⟨nd, rfl⟩⟩))
   go_ret2
   exact ⟨z12_7, z12_6⟩
 ·replace c4 := Bool.eq_false_iff.mpr c4
  subst c4
  have H1 : (some (0, false)) = some (r1, r2) := z12_14
  clear H
  have H := H1
  clear H1
  simp only [Option.some.injEq, Prod.mk.injEq] at H
  obtain ⟨rfl, rfl⟩ := H
  go_enter Try.func50, Try.ntmps50
  go_wp2_with (first | ((with_reducible refine gate_dst (N := 2) rfl ?_); refine box_event ?hg (N := 2) ?hd (cs := #[.slice A0_0 l0_0.length c0_0, .int .i64 a0_1, .int .i64 a0_2, .int .i64 a0_3]) (t := 30) ?hr ?_; (case hd => rfl); (case hg => rfl); (case hr => first | (go_simp; done) | (go_simp; rfl)); intro gb399 hg w16 hbox hb; have n0_ := z12_A (below_step z12_1 hb); have n1_ := z12_A (hbox); have n2_ := z12_A ((z12_9 : w.heap.size ≤ gb399)); have n3_ := z12_A ((z12_9 : w.heap.size ≤ gb399)); clear HB; revert n0_ n1_ n2_ n3_; intro HB BK399 GW399 GE399; clear hb hbox hg; have hcz17_0 : w16.cell? ⟨gb399, 0, none⟩ = some (.slice A0_0 l0_0.length c0_0) := bcz BK399.out 0 rfl; have hcz17_1 : w16.cell? ⟨gb399, 1, none⟩ = some (.int .i64 a0_1) := bcz BK399.out 1 rfl; have hcz17_2 : w16.cell? ⟨gb399, 2, none⟩ = some (.int .i64 a0_2) := bcz BK399.out 2 rfl; have hcz17_3 : w16.cell? ⟨gb399, 3, none⟩ = some (.int .i64 a0_3) := bcz BK399.out 3 rfl; obtain ⟨hfz17_0, hfz17_1, hfz17_2, hfz17_3⟩ := F4z (blk_frozen BK399.out)) | ((with_reducible refine gate_callee (f := 67) rfl ?_); refine goesL_ (some 7) rfl rfl Try.func67 z12_22 rfl #[.agg #[.slice A0_0 l0_0.length c0_0, .int .i64 a0_1, .int .i64 a0_2, .int .i64 a0_3]] rfl z12_2 ?_; (with_reducible refine (spec_l10Market.calls k _ _ l0_0 a0_1 a0_2 a0_3 false _ ?side1 ?side2 A3.out).mono ?_); (case side1 => have zh := (Kd.C_below HR0_0.out HB.out); exact z12_C); (case side2 => exact HC0_0.out); rintro e w18 ⟨rfl, hb⟩; refine ⟨_, rfl, ?_⟩; have n0_ := z12_A (blk_below (g := gb399) (o := .cells #[.slice A0_0 l0_0.length c0_0, .int .i64 a0_1, .int .i64 a0_2, .int .i64 a0_3] 30 (0, 0)) z12_16 hb); have n1_ := z12_A (below_step z12_6 hb); clear BK399 HB; revert n0_ n1_; intro BK399 HB; (try clear hb); (try clear hb2); (try clear hk); (try clear hi)))
  go_ret2
  exact ⟨z12_7, z12_6⟩

/-! ### impl_SalesOf: function 51 -/
def impl_SalesOf.f (k : Nat) (l0_0 : List Int) (a0_1 : Int) (a0_2 : Int) (a0_3 : Int) (a1 : Int) : Option (Int × Bool) := (impl_isSale.f k l0_0 a0_1 a0_2 a0_3 a1).bind fun t404 => (if t404 = true then ((impl_Market_sales.f k l0_0 a0_1 a0_2 a0_3 a1).bind fun t405 => (some (t405, true))) else (some (0, false)))
theorem impl_SalesOf.mono : ∀ a0 a1 a2 a3 a4 k, LeO (impl_SalesOf.f k a0 a1 a2 a3 a4) (impl_SalesOf.f (k + 1) a0 a1 a2 a3 a4) := by
 intro a0 a1 a2 a3 a4 k
 unfold impl_SalesOf.f
 repeat' first
   | (with_reducible exact impl_Market_sales.mono _ _ _ _ _ _)
   | (with_reducible exact impl_isSale.mono _ _ _ _ _ _)
   | (with_reducible exact LeO.refl _)
   | (with_reducible exact LeO.none _)
   | (with_reducible refine LeO.ite ?_ ?_)
   | (with_reducible refine LeO.bind ?_ (fun _ => ?_))
   | exact impl_Market_sales.mono _ _ _ _ _ _
   | exact impl_isSale.mono _ _ _ _ _ _
   | exact LeO.none _
   | refine LeO.ite ?_ ?_
   | refine LeO.bind ?_ (fun _ => ?_)
set_option maxHeartbeats 8000000 in
set_option maxRecDepth 100000 in
theorem impl_SalesOf.calls (k : Nat) (A0_0 : Option Addr) (c0_0 : Nat) (l0_0 : List Int) (a0_1 : Int) (a0_2 : Int) (a0_3 : Int) (a1 : Int) (r1 : Int) (r2 : Bool) (w : World) (hr0_0 : Kd.C (Kd.int .i64) w A0_0 l0_0.length l0_0) (hc0_0 : l0_0.length ≤ c0_0) (h : impl_SalesOf.f k l0_0 a0_1 a0_2 a0_3 a1 = some (r1, r2)) :
  Calls Try.prog 51 #[.agg #[.slice A0_0 l0_0.length c0_0, .int .i64 a0_1, .int .i64 a0_2, .int .i64 a0_3], .int .i64 a1] w fun e w' => e = .returned (.tuple #[.int .i64 r1, .bool r2]) ∧ Below w.heap.size w w' := by
 have hu30 := Try.underlying30
 have HR0_0 := z12_A hr0_0
 have HC0_0 := z12_A hc0_0
 clear hr0_0 hc0_0
 have HB := z12_A (Below.refl w.heap.size w)
 have H : ((impl_isSale.f k l0_0 a0_1 a0_2 a0_3 a1).bind fun t404 => (if t404 = true then ((impl_Market_sales.f k l0_0 a0_1 a0_2 a0_3 a1).bind fun t405 => (some (t405, true))) else (some (0, false)))) = some (r1, r2) := h
 clear h
 replace H := Option.bind_eq_some_iff.mp H
 obtain ⟨t404, A30, H⟩ := H
 (try dsimp only at H)
 have A3 := z12_A A30
 clear A30
 by_cases c4 : t404 = true
 ·subst c4
  have H1 : ((impl_Market_sales.f k l0_0 a0_1 a0_2 a0_3 a1).bind fun t405 => (some (t405, true))) = some (r1, r2) := z12_21
  clear H
  have H := H1
  clear H1
  replace H := Option.bind_eq_some_iff.mp H
  obtain ⟨t405, A50, H⟩ := H
  (try dsimp only at H)
  have A5 := z12_A A50
  clear A50
  simp only [Option.some.injEq, Prod.mk.injEq] at H
  obtain ⟨rfl, rfl⟩ := H
  go_enter Try.func51, Try.ntmps51
  go_wp2_with (first | ((with_reducible refine gate_dst (N := 2) rfl ?_); refine box_event ?hg (N := 2) ?hd (cs := #[.slice A0_0 l0_0.length c0_0, .int .i64 a0_1, .int .i64 a0_2, .int .i64 a0_3]) (t := 30) ?hr ?_; (case hd => rfl); (case hg => rfl); (case hr => first | (go_simp; done) | (go_simp; rfl)); intro gb403 hg w6 hbox hb; have n0_ := z12_A (below_step z12_1 hb); have n1_ := z12_A (hbox); have n2_ := z12_A ((z12_9 : w.heap.size ≤ gb403)); have n3_ := z12_A ((z12_9 : w.heap.size ≤ gb403)); clear HB; revert n0_ n1_ n2_ n3_; intro HB BK403 GW403 GE403; clear hb hbox hg; have hcz7_0 : w6.cell? ⟨gb403, 0, none⟩ = some (.slice A0_0 l0_0.length c0_0) := bcz BK403.out 0 rfl; have hcz7_1 : w6.cell? ⟨gb403, 1, none⟩ = some (.int .i64 a0_1) := bcz BK403.out 1 rfl; have hcz7_2 : w6.cell? ⟨gb403, 2, none⟩ = some (.int .i64 a0_2) := bcz BK403.out 2 rfl; have hcz7_3 : w6.cell? ⟨gb403, 3, none⟩ = some (.int .i64 a0_3) := bcz BK403.out 3 rfl; obtain ⟨hfz7_0, hfz7_1, hfz7_2, hfz7_3⟩ := F4z (blk_frozen BK403.out)) | ((with_reducible refine gate_callee (f := 88) rfl ?_); refine goesL_ (some 8) rfl rfl Try.func88 z12_22 rfl #[.agg #[.slice A0_0 l0_0.length c0_0, .int .i64 a0_1, .int .i64 a0_2, .int .i64 a0_3], .int .i64 a1] rfl z12_2 ?_; (with_reducible refine (impl_isSale.calls k _ _ l0_0 a0_1 a0_2 a0_3 a1 true _ ?side1 ?side2 A3.out).mono ?_); (case side1 => have zh := (Kd.C_below HR0_0.out HB.out); exact z12_C); (case side2 => exact HC0_0.out); rintro e w8 ⟨rfl, hb⟩; refine ⟨_, rfl, ?_⟩; have n0_ := z12_A (blk_below (g := gb403) (o := .cells #[.slice A0_0 l0_0.length c0_0, .int .i64 a0_1, .int .i64 a0_2, .int .i64 a0_3] 30 (0, 0)) z12_19 hb); have n1_ := z12_A (below_step z12_11 hb); clear BK403 HB; revert n0_ n1_; intro BK403 HB; (try clear hb); (try clear hb2); (try clear hk); (try clear hi); have hcz9_0 : w8.cell? ⟨gb403, 0, none⟩ = some (.slice A0_0 l0_0.length c0_0) := bcz BK403.out 0 rfl; have hcz9_1 : w8.cell? ⟨gb403, 1, none⟩ = some (.int .i64 a0_1) := bcz BK403.out 1 rfl; have hcz9_2 : w8.cell? ⟨gb403, 2, none⟩ = some (.int .i64 a0_2) := bcz BK403.out 2 rfl; have hcz9_3 : w8.cell? ⟨gb403, 3, none⟩ = some (.int .i64 a0_3) := bcz BK403.out 3 rfl; obtain ⟨hfz9_0, hfz9_1, hfz9_2, hfz9_3⟩ := F4z (blk_frozen BK403.out)) | ((with_reducible refine gate_callee (f := 97) rfl ?_); refine goesL_ (some 12) rfl rfl Try.func97 z12_22 rfl #[.agg #[.slice A0_0 l0_0.length c0_0, .int .i64 a0_1, .int .i64 a0_2, .int .i64 a0_3], .int .i64 a1] rfl z12_2 ?_; (with_reducible refine (impl_Market_sales.calls k _ _ l0_0 a0_1 a0_2 a0_3 a1 t405 _ ?side1 ?side2 A5.out).mono ?_); (case side1 => have zh := (Kd.C_below HR0_0.out HB.out); exact z12_C); (case side2 => exact HC0_0.out); rintro e w10 ⟨rfl, hb⟩; refine ⟨_, rfl, ?_⟩; have n0_ := z12_A (blk_below (g := gb403) (o := .cells #[.slice A0_0 l0_0.length c0_0, .int .i64 a0_1, .int .i64 a0_2, .int .i64 a0_3] 30 (0, 0)) z12_19 hb); have n1_ := z12_A (below_step z12_11 hb); clear BK403 HB; revert n0_ n1_; intro BK403 HB; (try clear hb); (try clear hb2); (try clear hk); (try clear hi)))
  go_ret2
  exact ⟨z12_7, z12_11⟩
 ·replace c4 := Bool.eq_false_iff.mpr c4
  subst c4
  have H1 : (some (0, false)) = some (r1, r2) := z12_14
  clear H
  have H := H1
  clear H1
  simp only [Option.some.injEq, Prod.mk.injEq] at H
  obtain ⟨rfl, rfl⟩ := H
  go_enter Try.func51, Try.ntmps51
  go_wp2_with (first | ((with_reducible refine gate_dst (N := 2) rfl ?_); refine box_event ?hg (N := 2) ?hd (cs := #[.slice A0_0 l0_0.length c0_0, .int .i64 a0_1, .int .i64 a0_2, .int .i64 a0_3]) (t := 30) ?hr ?_; (case hd => rfl); (case hg => rfl); (case hr => first | (go_simp; done) | (go_simp; rfl)); intro gb403 hg w11 hbox hb; have n0_ := z12_A (below_step z12_1 hb); have n1_ := z12_A (hbox); have n2_ := z12_A ((z12_9 : w.heap.size ≤ gb403)); have n3_ := z12_A ((z12_9 : w.heap.size ≤ gb403)); clear HB; revert n0_ n1_ n2_ n3_; intro HB BK403 GW403 GE403; clear hb hbox hg; have hcz12_0 : w11.cell? ⟨gb403, 0, none⟩ = some (.slice A0_0 l0_0.length c0_0) := bcz BK403.out 0 rfl; have hcz12_1 : w11.cell? ⟨gb403, 1, none⟩ = some (.int .i64 a0_1) := bcz BK403.out 1 rfl; have hcz12_2 : w11.cell? ⟨gb403, 2, none⟩ = some (.int .i64 a0_2) := bcz BK403.out 2 rfl; have hcz12_3 : w11.cell? ⟨gb403, 3, none⟩ = some (.int .i64 a0_3) := bcz BK403.out 3 rfl; obtain ⟨hfz12_0, hfz12_1, hfz12_2, hfz12_3⟩ := F4z (blk_frozen BK403.out)) | ((with_reducible refine gate_callee (f := 88) rfl ?_); refine goesL_ (some 8) rfl rfl Try.func88 z12_22 rfl #[.agg #[.slice A0_0 l0_0.length c0_0, .int .i64 a0_1, .int .i64 a0_2, .int .i64 a0_3], .int .i64 a1] rfl z12_2 ?_; (with_reducible refine (impl_isSale.calls k _ _ l0_0 a0_1 a0_2 a0_3 a1 false _ ?side1 ?side2 A3.out).mono ?_); (case side1 => have zh := (Kd.C_below HR0_0.out HB.out); exact z12_C); (case side2 => exact HC0_0.out); rintro e w13 ⟨rfl, hb⟩; refine ⟨_, rfl, ?_⟩; have n0_ := z12_A (blk_below (g := gb403) (o := .cells #[.slice A0_0 l0_0.length c0_0, .int .i64 a0_1, .int .i64 a0_2, .int .i64 a0_3] 30 (0, 0)) z12_19 hb); have n1_ := z12_A (below_step z12_11 hb); clear BK403 HB; revert n0_ n1_; intro BK403 HB; (try clear hb); (try clear hb2); (try clear hk); (try clear hi)))
  go_ret2
  exact ⟨z12_7, z12_11⟩

/-! ### spec_SalesOf: function 52 -/
def spec_SalesOf.f (k : Nat) (l0_0 : List Int) (a0_1 : Int) (a0_2 : Int) (a0_3 : Int) (a1 : Int) : Option (Int × Bool) := (spec_l10Market.f k l0_0 a0_1 a0_2 a0_3).bind fun t407 => (if t407 = true then ((spec_l10Order.f a1).bind fun t408 => (if t408 = true then ((spec_l10Sales.f k l0_0 a0_1 a0_2 a0_3 a1).bind fun t409 => (some (t409, true))) else (some (0, false)))) else (some (0, false)))
theorem spec_SalesOf.mono : ∀ a0 a1 a2 a3 a4 k, LeO (spec_SalesOf.f k a0 a1 a2 a3 a4) (spec_SalesOf.f (k + 1) a0 a1 a2 a3 a4) := by
 intro a0 a1 a2 a3 a4 k
 unfold spec_SalesOf.f
 repeat' first
   | (with_reducible exact spec_l10Market.mono _ _ _ _ _)
   | (with_reducible exact spec_l10Sales.mono _ _ _ _ _ _)
   | (with_reducible exact LeO.refl _)
   | (with_reducible exact LeO.none _)
   | (with_reducible refine LeO.ite ?_ ?_)
   | (with_reducible refine LeO.bind ?_ (fun _ => ?_))
   | exact spec_l10Market.mono _ _ _ _ _
   | exact spec_l10Sales.mono _ _ _ _ _ _
   | exact LeO.none _
   | refine LeO.ite ?_ ?_
   | refine LeO.bind ?_ (fun _ => ?_)
set_option maxHeartbeats 8000000 in
set_option maxRecDepth 100000 in
theorem spec_SalesOf.calls (k : Nat) (A0_0 : Option Addr) (c0_0 : Nat) (l0_0 : List Int) (a0_1 : Int) (a0_2 : Int) (a0_3 : Int) (a1 : Int) (r1 : Int) (r2 : Bool) (w : World) (hr0_0 : Kd.C (Kd.int .i64) w A0_0 l0_0.length l0_0) (hc0_0 : l0_0.length ≤ c0_0) (h : spec_SalesOf.f k l0_0 a0_1 a0_2 a0_3 a1 = some (r1, r2)) :
  Calls Try.prog 52 #[.agg #[.slice A0_0 l0_0.length c0_0, .int .i64 a0_1, .int .i64 a0_2, .int .i64 a0_3], .int .i64 a1] w fun e w' => e = .returned (.tuple #[.int .i64 r1, .bool r2]) ∧ Below w.heap.size w w' := by
 have hu30 := Try.underlying30
 have HR0_0 := z12_A hr0_0
 have HC0_0 := z12_A hc0_0
 clear hr0_0 hc0_0
 have HB := z12_A (Below.refl w.heap.size w)
 have H : ((spec_l10Market.f k l0_0 a0_1 a0_2 a0_3).bind fun t407 => (if t407 = true then ((spec_l10Order.f a1).bind fun t408 => (if t408 = true then ((spec_l10Sales.f k l0_0 a0_1 a0_2 a0_3 a1).bind fun t409 => (some (t409, true))) else (some (0, false)))) else (some (0, false)))) = some (r1, r2) := h
 clear h
 replace H := Option.bind_eq_some_iff.mp H
 obtain ⟨t407, A30, H⟩ := H
 (try dsimp only at H)
 have A3 := z12_A A30
 clear A30
 by_cases c4 : t407 = true
 ·subst c4
  have H1 : ((spec_l10Order.f a1).bind fun t408 => (if t408 = true then ((spec_l10Sales.f k l0_0 a0_1 a0_2 a0_3 a1).bind fun t409 => (some (t409, true))) else (some (0, false)))) = some (r1, r2) := z12_21
  clear H
  have H := H1
  clear H1
  replace H := Option.bind_eq_some_iff.mp H
  obtain ⟨t408, A50, H⟩ := H
  (try dsimp only at H)
  have A5 := z12_A A50
  clear A50
  by_cases c6 : t408 = true
  ·subst c6
   have H1 : ((spec_l10Sales.f k l0_0 a0_1 a0_2 a0_3 a1).bind fun t409 => (some (t409, true))) = some (r1, r2) := z12_21
   clear H
   have H := H1
   clear H1
   replace H := Option.bind_eq_some_iff.mp H
   obtain ⟨t409, A70, H⟩ := H
   (try dsimp only at H)
   have A7 := z12_A A70
   clear A70
   simp only [Option.some.injEq, Prod.mk.injEq] at H
   obtain ⟨rfl, rfl⟩ := H
   go_enter Try.func52, Try.ntmps52
   go_wp2_with (first | ((with_reducible refine gate_dst (N := 2) rfl ?_); refine box_event ?hg (N := 2) ?hd (cs := #[.slice A0_0 l0_0.length c0_0, .int .i64 a0_1, .int .i64 a0_2, .int .i64 a0_3]) (t := 30) ?hr ?_; (case hd => rfl); (case hg => rfl); (case hr => first | (go_simp; done) | (go_simp; rfl)); intro gb406 hg w8 hbox hb; have n0_ := z12_A (below_step z12_1 hb); have n1_ := z12_A (hbox); have n2_ := z12_A ((z12_9 : w.heap.size ≤ gb406)); have n3_ := z12_A ((z12_9 : w.heap.size ≤ gb406)); clear HB; revert n0_ n1_ n2_ n3_; intro HB BK406 GW406 GE406; clear hb hbox hg; have hcz9_0 : w8.cell? ⟨gb406, 0, none⟩ = some (.slice A0_0 l0_0.length c0_0) := bcz BK406.out 0 rfl; have hcz9_1 : w8.cell? ⟨gb406, 1, none⟩ = some (.int .i64 a0_1) := bcz BK406.out 1 rfl; have hcz9_2 : w8.cell? ⟨gb406, 2, none⟩ = some (.int .i64 a0_2) := bcz BK406.out 2 rfl; have hcz9_3 : w8.cell? ⟨gb406, 3, none⟩ = some (.int .i64 a0_3) := bcz BK406.out 3 rfl; obtain ⟨hfz9_0, hfz9_1, hfz9_2, hfz9_3⟩ := F4z (blk_frozen BK406.out)) | ((with_reducible refine gate_callee (f := 67) rfl ?_); refine goesL_ (some 7) rfl rfl Try.func67 z12_22 rfl #[.agg #[.slice A0_0 l0_0.length c0_0, .int .i64 a0_1, .int .i64 a0_2, .int .i64 a0_3]] rfl z12_2 ?_; (with_reducible refine (spec_l10Market.calls k _ _ l0_0 a0_1 a0_2 a0_3 true _ ?side1 ?side2 A3.out).mono ?_); (case side1 => have zh := (Kd.C_below HR0_0.out HB.out); exact z12_C); (case side2 => exact HC0_0.out); rintro e w10 ⟨rfl, hb⟩; refine ⟨_, rfl, ?_⟩; have n0_ := z12_A (blk_below (g := gb406) (o := .cells #[.slice A0_0 l0_0.length c0_0, .int .i64 a0_1, .int .i64 a0_2, .int .i64 a0_3] 30 (0, 0)) z12_15 hb); have n1_ := z12_A (below_step z12_5 hb); clear BK406 HB; revert n0_ n1_; intro BK406 HB; (try clear hb); (try clear hb2); (try clear hk); (try clear hi)) | (go_at_call 92; (with_reducible refine (spec_l10Order.calls a1 true _ A5.out).mono ?_); rintro e w' ⟨rfl, ⟨nd, rfl⟩⟩; have hcz11_0 : w10.cell? ⟨gb406, 0, none⟩ = some (.slice A0_0 l0_0.length c0_0) := bcz BK406.out 0 rfl; have hcz11_1 : w10.cell? ⟨gb406, 1, none⟩ = some (.int .i64 a0_1) := bcz BK406.out 1 rfl; have hcz11_2 : w10.cell? ⟨gb406, 2, none⟩ = some (.int .i64 a0_2) := bcz BK406.out 2 rfl; have hcz11_3 : w10.cell? ⟨gb406, 3, none⟩ = some (.int .i64 a0_3) := bcz BK406.out 3 rfl; obtain ⟨hfz11_0, hfz11_1, hfz11_2, hfz11_3⟩ := F4z (blk_frozen BK406.out)) | ((with_reducible refine gate_callee (f := 98) rfl ?_); refine goesL_ (some 16) rfl rfl Try.func98 z12_22 rfl #[.agg #[.slice A0_0 l0_0.length c0_0, .int .i64 a0_1, .int .i64 a0_2, .int .i64 a0_3], .int .i64 a1] rfl z12_2 ?_; (with_reducible refine (spec_l10Sales.calls k _ _ l0_0 a0_1 a0_2 a0_3 a1 t409 _ ?side1 ?side2 A7.out).mono ?_); (case side1 => repeat (first | exact (Kd.C_below HR0_0.out z12_5) | (with_reducible refine Kd.C_alloc ?_ _) | (with_reducible refine Kd.C_drewN ?_ _) | (with_reducible refine Kd.C_drew ?_))); (case side2 => exact HC0_0.out); rintro e w12 ⟨rfl, hb⟩; refine ⟨_, rfl, ?_⟩; have n0_ := z12_A (blk_below (g := gb406) (o := .cells #[.slice A0_0 l0_0.length c0_0, .int .i64 a0_1, .int .i64 a0_2, .int .i64 a0_3] 30 (0, 0)) z12_15 hb); have n1_ := z12_A (below_step z12_5 hb); clear BK406 HB; revert n0_ n1_; intro BK406 HB; (try clear hb); (try clear hb2); (try clear hk); (try clear hi)))
   go_ret2
   exact ⟨z12_7, z12_5⟩
  ·replace c6 := Bool.eq_false_iff.mpr c6
   subst c6
   have H1 : (some (0, false)) = some (r1, r2) := z12_14
   clear H
   have H := H1
   clear H1
   simp only [Option.some.injEq, Prod.mk.injEq] at H
   obtain ⟨rfl, rfl⟩ := H
   go_enter Try.func52, Try.ntmps52
   go_wp2_with (first | ((with_reducible refine gate_dst (N := 2) rfl ?_); refine box_event ?hg (N := 2) ?hd (cs := #[.slice A0_0 l0_0.length c0_0, .int .i64 a0_1, .int .i64 a0_2, .int .i64 a0_3]) (t := 30) ?hr ?_; (case hd => rfl); (case hg => rfl); (case hr => first | (go_simp; done) | (go_simp; rfl)); intro gb406 hg w13 hbox hb; have n0_ := z12_A (below_step z12_1 hb); have n1_ := z12_A (hbox); have n2_ := z12_A ((z12_9 : w.heap.size ≤ gb406)); have n3_ := z12_A ((z12_9 : w.heap.size ≤ gb406)); clear HB; revert n0_ n1_ n2_ n3_; intro HB BK406 GW406 GE406; clear hb hbox hg; have hcz14_0 : w13.cell? ⟨gb406, 0, none⟩ = some (.slice A0_0 l0_0.length c0_0) := bcz BK406.out 0 rfl; have hcz14_1 : w13.cell? ⟨gb406, 1, none⟩ = some (.int .i64 a0_1) := bcz BK406.out 1 rfl; have hcz14_2 : w13.cell? ⟨gb406, 2, none⟩ = some (.int .i64 a0_2) := bcz BK406.out 2 rfl; have hcz14_3 : w13.cell? ⟨gb406, 3, none⟩ = some (.int .i64 a0_3) := bcz BK406.out 3 rfl; obtain ⟨hfz14_0, hfz14_1, hfz14_2, hfz14_3⟩ := F4z (blk_frozen BK406.out)) | ((with_reducible refine gate_callee (f := 67) rfl ?_); refine goesL_ (some 7) rfl rfl Try.func67 z12_22 rfl #[.agg #[.slice A0_0 l0_0.length c0_0, .int .i64 a0_1, .int .i64 a0_2, .int .i64 a0_3]] rfl z12_2 ?_; (with_reducible refine (spec_l10Market.calls k _ _ l0_0 a0_1 a0_2 a0_3 true _ ?side1 ?side2 A3.out).mono ?_); (case side1 => have zh := (Kd.C_below HR0_0.out HB.out); exact z12_C); (case side2 => exact HC0_0.out); rintro e w15 ⟨rfl, hb⟩; refine ⟨_, rfl, ?_⟩; have n0_ := z12_A (blk_below (g := gb406) (o := .cells #[.slice A0_0 l0_0.length c0_0, .int .i64 a0_1, .int .i64 a0_2, .int .i64 a0_3] 30 (0, 0)) z12_15 hb); have n1_ := z12_A (below_step z12_5 hb); clear BK406 HB; revert n0_ n1_; intro BK406 HB; (try clear hb); (try clear hb2); (try clear hk); (try clear hi)) | (go_at_call 92; (with_reducible refine (spec_l10Order.calls a1 false _ A5.out).mono ?_); rintro e w' ⟨rfl, ⟨nd, rfl⟩⟩))
   go_ret2
   exact ⟨z12_7, z12_5⟩
 ·replace c4 := Bool.eq_false_iff.mpr c4
  subst c4
  have H1 : (some (0, false)) = some (r1, r2) := z12_14
  clear H
  have H := H1
  clear H1
  simp only [Option.some.injEq, Prod.mk.injEq] at H
  obtain ⟨rfl, rfl⟩ := H
  go_enter Try.func52, Try.ntmps52
  go_wp2_with (first | ((with_reducible refine gate_dst (N := 2) rfl ?_); refine box_event ?hg (N := 2) ?hd (cs := #[.slice A0_0 l0_0.length c0_0, .int .i64 a0_1, .int .i64 a0_2, .int .i64 a0_3]) (t := 30) ?hr ?_; (case hd => rfl); (case hg => rfl); (case hr => first | (go_simp; done) | (go_simp; rfl)); intro gb406 hg w16 hbox hb; have n0_ := z12_A (below_step z12_1 hb); have n1_ := z12_A (hbox); have n2_ := z12_A ((z12_9 : w.heap.size ≤ gb406)); have n3_ := z12_A ((z12_9 : w.heap.size ≤ gb406)); clear HB; revert n0_ n1_ n2_ n3_; intro HB BK406 GW406 GE406; clear hb hbox hg; have hcz17_0 : w16.cell? ⟨gb406, 0, none⟩ = some (.slice A0_0 l0_0.length c0_0) := bcz BK406.out 0 rfl; have hcz17_1 : w16.cell? ⟨gb406, 1, none⟩ = some (.int .i64 a0_1) := bcz BK406.out 1 rfl; have hcz17_2 : w16.cell? ⟨gb406, 2, none⟩ = some (.int .i64 a0_2) := bcz BK406.out 2 rfl; have hcz17_3 : w16.cell? ⟨gb406, 3, none⟩ = some (.int .i64 a0_3) := bcz BK406.out 3 rfl; obtain ⟨hfz17_0, hfz17_1, hfz17_2, hfz17_3⟩ := F4z (blk_frozen BK406.out)) | ((with_reducible refine gate_callee (f := 67) rfl ?_); refine goesL_ (some 7) rfl rfl Try.func67 z12_22 rfl #[.agg #[.slice A0_0 l0_0.length c0_0, .int .i64 a0_1, .int .i64 a0_2, .int .i64 a0_3]] rfl z12_2 ?_; (with_reducible refine (spec_l10Market.calls k _ _ l0_0 a0_1 a0_2 a0_3 false _ ?side1 ?side2 A3.out).mono ?_); (case side1 => have zh := (Kd.C_below HR0_0.out HB.out); exact z12_C); (case side2 => exact HC0_0.out); rintro e w18 ⟨rfl, hb⟩; refine ⟨_, rfl, ?_⟩; have n0_ := z12_A (blk_below (g := gb406) (o := .cells #[.slice A0_0 l0_0.length c0_0, .int .i64 a0_1, .int .i64 a0_2, .int .i64 a0_3] 30 (0, 0)) z12_15 hb); have n1_ := z12_A (below_step z12_5 hb); clear BK406 HB; revert n0_ n1_; intro BK406 HB; (try clear hb); (try clear hb2); (try clear hk); (try clear hi)))
  go_ret2
  exact ⟨z12_7, z12_5⟩

/-! ### impl_JointProfits: function 53 -/
def impl_JointProfits.l0 : Nat → List Int → Int → List Int → Int → Int → Int → Option (List Int × Bool)
 | 0, _, _, _, _, _, _ => none
 | k + 1, x4, x10, x411000, x411001, x411002, x411003 => if x10 < 9 then ((impl_Market_joint.f k x411000 x411001 x411002 x411003 x10).bind fun t415 => (if x4.length < 17592186044416 then (impl_JointProfits.l0 k (x4 ++ [t415]) (wrap64 (x10 + 1)) x411000 x411001 x411002 x411003) else (none))) else (some (x4, true))
def impl_JointProfits.f (k : Nat) (l0_0 : List Int) (a0_1 : Int) (a0_2 : Int) (a0_3 : Int) : Option (List Int × Bool) := (impl_IsMarket.f k l0_0 a0_1 a0_2 a0_3).bind fun t411 => (if t411 = true then (impl_JointProfits.l0 k (([] : List Int)) 0 l0_0 a0_1 a0_2 a0_3) else (some (([] : List Int), false)))
theorem impl_JointProfits.mono_l : ∀ k, (∀ y0 y1 y2 y3 y4 y5, LeO (impl_JointProfits.l0 k y0 y1 y2 y3 y4 y5) (impl_JointProfits.l0 (k + 1) y0 y1 y2 y3 y4 y5))
 | 0 => fun _ _ _ _ _ _ r h => by simp [impl_JointProfits.l0] at h
 | k + 1 => by
  have ih0 := impl_JointProfits.mono_l k
  ·intro y0 y1 y2 y3 y4 y5
   unfold impl_JointProfits.l0
   repeat' first
   | (with_reducible exact ih0 _ _ _ _ _ _)
   | (with_reducible exact impl_IsMarket.mono _ _ _ _ _)
   | (with_reducible exact impl_Market_joint.mono _ _ _ _ _ _)
   | (with_reducible exact LeO.refl _)
   | (with_reducible exact LeO.none _)
   | (with_reducible refine LeO.ite ?_ ?_)
   | (with_reducible refine LeO.bind ?_ (fun _ => ?_))
   | exact ih0 _ _ _ _ _ _
   | exact impl_IsMarket.mono _ _ _ _ _
   | exact impl_Market_joint.mono _ _ _ _ _ _
   | exact LeO.none _
   | refine LeO.ite ?_ ?_
   | refine LeO.bind ?_ (fun _ => ?_)
theorem impl_JointProfits.mono : ∀ a0 a1 a2 a3 k, LeO (impl_JointProfits.f k a0 a1 a2 a3) (impl_JointProfits.f (k + 1) a0 a1 a2 a3) := by
 intro a0 a1 a2 a3 k
 have ih0 := impl_JointProfits.mono_l k
 unfold impl_JointProfits.f
 repeat' first
   | (with_reducible exact ih0 _ _ _ _ _ _)
   | (with_reducible exact impl_IsMarket.mono _ _ _ _ _)
   | (with_reducible exact impl_Market_joint.mono _ _ _ _ _ _)
   | (with_reducible exact LeO.refl _)
   | (with_reducible exact LeO.none _)
   | (with_reducible refine LeO.ite ?_ ?_)
   | (with_reducible refine LeO.bind ?_ (fun _ => ?_))
   | exact ih0 _ _ _ _ _ _
   | exact impl_IsMarket.mono _ _ _ _ _
   | exact impl_Market_joint.mono _ _ _ _ _ _
   | exact LeO.none _
   | refine LeO.ite ?_ ?_
   | refine LeO.bind ?_ (fun _ => ?_)
set_option maxHeartbeats 8000000 in
set_option maxRecDepth 100000 in
theorem impl_JointProfits.calls (k : Nat) (A0_0 : Option Addr) (c0_0 : Nat) (l0_0 : List Int) (a0_1 : Int) (a0_2 : Int) (a0_3 : Int) (r1 : List Int) (r2 : Bool) (w : World) (hr0_0 : Kd.C (Kd.int .i64) w A0_0 l0_0.length l0_0) (hc0_0 : l0_0.length ≤ c0_0) (h : impl_JointProfits.f k l0_0 a0_1 a0_2 a0_3 = some (r1, r2)) :
  Calls Try.prog 53 #[.agg #[.slice A0_0 l0_0.length c0_0, .int .i64 a0_1, .int .i64 a0_2, .int .i64 a0_3]] w fun e w' => ∃ v0_ : Value, e = .returned (.tuple #[v0_, .bool r2]) ∧ Kd.R (Kd.int .i64) 3 w' w.heap.size (fun _ => True) v0_ r1 ∧ Below w.heap.size w w' := by
 have hu30 := Try.underlying30
 have HR0_0 := z12_A hr0_0
 have HC0_0 := z12_A hc0_0
 clear hr0_0 hc0_0
 have HB := z12_A (Below.refl w.heap.size w)
 have H : ((impl_IsMarket.f k l0_0 a0_1 a0_2 a0_3).bind fun t411 => (if t411 = true then (impl_JointProfits.l0 k (([] : List Int)) 0 l0_0 a0_1 a0_2 a0_3) else (some (([] : List Int), false)))) = some (r1, r2) := h
 clear h
 replace H := Option.bind_eq_some_iff.mp H
 obtain ⟨t411, A20, H⟩ := H
 (try dsimp only at H)
 have A2 := z12_A A20
 clear A20
 by_cases c3 : t411 = true
 ·subst c3
  have H1 : (impl_JointProfits.l0 k (([] : List Int)) 0 l0_0 a0_1 a0_2 a0_3) = some (r1, r2) := z12_21
  clear H
  have H := H1
  clear H1
  obtain ⟨y412, hy412⟩ : ∃ y_ : List Int, y_ = (([] : List Int)) := ⟨_, rfl⟩
  replace H : (impl_JointProfits.l0 k y412 0 l0_0 a0_1 a0_2 a0_3) = some (r1, r2) := by first | (rw [hy412]; with_reducible exact H) | (have H2_ := (Option.bind_some _ _).symm.trans H; rw [hy412]; with_reducible exact H2_) | (have H2_ := (Option.bind_some _ _).symm.trans H; with_reducible exact H2_) | with_reducible exact H | (rw [hy412]; exact H) | exact H
  have Ny412 := z12_A hy412
  clear hy412
  have H' := z12_A H
  clear H
  go_enter Try.func53, Try.ntmps53
  go_wp2_with (first | ((with_reducible refine gate_dst (N := 1) rfl ?_); refine box_event ?hg (N := 1) ?hd (cs := #[.slice A0_0 l0_0.length c0_0, .int .i64 a0_1, .int .i64 a0_2, .int .i64 a0_3]) (t := 30) ?hr ?_; (case hd => rfl); (case hg => rfl); (case hr => first | (go_simp; done) | (go_simp; rfl)); intro gb410 hg w4 hbox hb; have n0_ := z12_A (below_step z12_1 hb); have n1_ := z12_A (hbox); have n2_ := z12_A ((z12_9 : w.heap.size ≤ gb410)); have n3_ := z12_A ((z12_9 : w.heap.size ≤ gb410)); clear HB; revert n0_ n1_ n2_ n3_; intro HB BK410 GW410 GE410; clear hb hbox hg; have hcz5_0 : w4.cell? ⟨gb410, 0, none⟩ = some (.slice A0_0 l0_0.length c0_0) := bcz BK410.out 0 rfl; have hcz5_1 : w4.cell? ⟨gb410, 1, none⟩ = some (.int .i64 a0_1) := bcz BK410.out 1 rfl; have hcz5_2 : w4.cell? ⟨gb410, 2, none⟩ = some (.int .i64 a0_2) := bcz BK410.out 2 rfl; have hcz5_3 : w4.cell? ⟨gb410, 3, none⟩ = some (.int .i64 a0_3) := bcz BK410.out 3 rfl; obtain ⟨hfz5_0, hfz5_1, hfz5_2, hfz5_3⟩ := F4z (blk_frozen BK410.out)) | ((with_reducible refine gate_callee (f := 42) rfl ?_); refine goesL_ (some 7) rfl rfl Try.func42 z12_22 rfl #[.agg #[.slice A0_0 l0_0.length c0_0, .int .i64 a0_1, .int .i64 a0_2, .int .i64 a0_3]] rfl z12_2 ?_; (with_reducible refine (impl_IsMarket.calls k _ _ l0_0 a0_1 a0_2 a0_3 true _ ?side1 ?side2 A2.out).mono ?_); (case side1 => have zh := (Kd.C_below HR0_0.out HB.out); exact z12_C); (case side2 => exact HC0_0.out); rintro e w6 ⟨rfl, hb⟩; refine ⟨_, rfl, ?_⟩; have n0_ := z12_A (blk_below (g := gb410) (o := .cells #[.slice A0_0 l0_0.length c0_0, .int .i64 a0_1, .int .i64 a0_2, .int .i64 a0_3] 30 (0, 0)) z12_10 hb); have n1_ := z12_A (below_step z12_4 hb); clear BK410 HB; revert n0_ n1_; intro BK410 HB; (try clear hb); (try clear hb2); (try clear hk); (try clear hi)) | ((with_reducible refine gate_dst (N := 9) rfl ?_); refine Kd.R_lit (Kd.int .i64) _ 3 ?hg (N := 9) ?hd (xs := ([] : List Int)) (inner := []) (ok := fun _ => True) (okp := fun _ => True) ?hr ?hp (fun _ hk => hk) trivial (Below.refl _ _) (Nat.le_refl _) (by simp) ?_; (case hd => rfl); (case hg => rfl); (case hr => first | (go_simp; done) | (go_simp; rfl)); (case hp => exact (Reps.none _ _)); intro v413 w7 ho8 hb hg_ hnew_; clear hg_ hnew_; (first | rw [← Ny412.out] at ho8 | (simp only [Int.reduceToNat] at ho8; rw [← Ny412.out] at ho8)); have n0_ := z12_A (Kd.R_lower ho8 (below_size z12_4)); have n1_ := z12_A (blk_below (g := gb410) (o := .cells #[.slice A0_0 l0_0.length c0_0, .int .i64 a0_1, .int .i64 a0_2, .int .i64 a0_3] 30 (0, 0)) z12_10 hb); have n2_ := z12_A (below_step z12_4 hb); clear BK410 HB; revert n0_ n1_ n2_; intro HO414 BK410 HB; clear hb ho8))
  go_loopg [4, 10] k (fun kq v4 v10 w' => ∃ (x4_1 : List Int) (x10_1 : Int), v10 = .int .i64 x10_1 ∧ Aside0 (impl_JointProfits.l0 kq x4_1 x10_1 l0_0 a0_1 a0_2 a0_3 = some (r1, r2)) ∧ Aside0 (kq ≤ k) ∧ Aside0 (Kd.R (Kd.int .i64) 3 w' w.heap.size (fun _ => True) v4 x4_1) ∧ Aside0 (w'.heap[gb410]? = some (.cells #[(.slice A0_0 l0_0.length c0_0), .int .i64 a0_1, .int .i64 a0_2, .int .i64 a0_3] 30 (0, 0))) ∧ Aside0 (Below w.heap.size w w'))
  case atStart => exact ⟨(y412), (0), z12_13, H', ⟨Nat.le_refl _⟩, ⟨by (with_reducible repeat (first | apply Kd.R_alloc | apply Kd.R_drewN | apply Kd.R_drew)); exact HO414.out⟩, ⟨z12_10⟩, ⟨z12_4⟩⟩
  case round =>
   clear H'
   (try clear c3); (try clear hcz5_0); (try clear hcz5_1); (try clear hcz5_2); (try clear hcz5_3); (try clear hfz5_0); (try clear hfz5_1); (try clear hfz5_2); (try clear hfz5_3)
   obtain ⟨x4_1, x10_1, rfl, HA, HK1, HO_4, BK410, HB⟩ := hrel
   cases gk with
   | zero => exact absurd HA.out (by simp [impl_JointProfits.l0])
   | succ k1 =>
    have H := HA.out
    clear HA
    simp only [impl_JointProfits.l0] at H
    by_cases c9 : x10_1 < 9
    ·rw [if_pos c9] at H
     have c9b0 : decide (x10_1 < 9) = true := decide_eq_true c9
     clear c9
     replace H := Option.bind_eq_some_iff.mp H
     obtain ⟨t415, A100, H⟩ := H
     (try dsimp only at H)
     have A10 := z12_A A100
     clear A100
     by_cases c11 : x4_1.length < 17592186044416
     ·rw [if_pos c11] at H
      have LMc11 := z12_A c11
      clear c11
      obtain ⟨y416, hy416⟩ : ∃ y_ : List Int, y_ = (x4_1 ++ [t415]) := ⟨_, rfl⟩
      replace H : (impl_JointProfits.l0 k1 y416 (wrap64 (x10_1 + 1)) l0_0 a0_1 a0_2 a0_3) = some (r1, r2) := by first | (rw [hy416]; with_reducible exact H) | (have H2_ := (Option.bind_some _ _).symm.trans H; rw [hy416]; with_reducible exact H2_) | (have H2_ := (Option.bind_some _ _).symm.trans H; with_reducible exact H2_) | with_reducible exact H | (rw [hy416]; exact H) | exact H
      have Ny416 := z12_A hy416
      clear hy416
      have H' := z12_A H
      clear H
      have hcz12_0 : wr.cell? ⟨gb410, 0, none⟩ = some (.slice A0_0 l0_0.length c0_0) := bcz BK410.out 0 rfl
      have hcz12_1 : wr.cell? ⟨gb410, 1, none⟩ = some (.int .i64 a0_1) := bcz BK410.out 1 rfl
      have hcz12_2 : wr.cell? ⟨gb410, 2, none⟩ = some (.int .i64 a0_2) := bcz BK410.out 2 rfl
      have hcz12_3 : wr.cell? ⟨gb410, 3, none⟩ = some (.int .i64 a0_3) := bcz BK410.out 3 rfl
      obtain ⟨hfz12_0, hfz12_1, hfz12_2, hfz12_3⟩ := F4z (blk_frozen BK410.out)
      go_wp2_with (first | ((with_reducible refine gate_callee (f := 87) rfl ?_); refine goesL_ (some 16) rfl rfl Try.func87 z12_22 rfl #[.agg #[.slice A0_0 l0_0.length c0_0, .int .i64 a0_1, .int .i64 a0_2, .int .i64 a0_3], .int .i64 x10_1] rfl z12_2 ?_; (with_reducible refine (impl_Market_joint.calls k1 _ _ l0_0 a0_1 a0_2 a0_3 x10_1 t415 _ ?side1 ?side2 A10.out).mono ?_); (case side1 => have zh := (Kd.C_below HR0_0.out HB.out); exact z12_C); (case side2 => exact HC0_0.out); rintro e w13 ⟨rfl, hb⟩; refine ⟨_, rfl, ?_⟩; have n0_ := z12_A (Kd.R_below z12_12 hb); have n1_ := z12_A (blk_below (g := gb410) (o := .cells #[.slice A0_0 l0_0.length c0_0, .int .i64 a0_1, .int .i64 a0_2, .int .i64 a0_3] 30 (0, 0)) z12_10 hb); have n2_ := z12_A (below_step z12_4 hb); clear HO_4 BK410 HB; revert n0_ n1_ n2_; intro HO_4 BK410 HB; (try clear hb); (try clear hb2); (try clear hk); (try clear hi)) | ((with_reducible refine gate_builtin (b := .append) (xs := #[.tmp 13, .tmp 17]) rfl ?_); at_builtin; refine Kd.R_append (Kd.int .i64) (w0 := w) w.heap.size rfl (.tmp 13) (.tmp 17) 22 3 (.int .i64 0) 8 rfl Try.underlying22 info3 rfl (by decide) (by omega) u4 x4_1 t415 [.int .i64 t415] (fun _ => True) (fun _ => False) rfl rfl ?aP (fun _ hk => hk.elim) ?aF ?aO ?aB ?aS ?aL ?_; (case aP => exact rfl); (case aB => exact z12_4); (case aF => exact (fun _ _ => trivial)); (case aO => exact z12_12); (case aS => exact (below_size z12_4)); (case aL => have := LMc11.out; omega); intro v417 w14 ho hb hg hat; rw [← Ny416.out] at ho; have n0_ := z12_A (blk_grown (g := gb410) (o := .cells #[.slice A0_0 l0_0.length c0_0, .int .i64 a0_1, .int .i64 a0_2, .int .i64 a0_3] 30 (0, 0)) z12_10 hg (Kd.R_ne HO_4.out BK410.out (by decide))); have n1_ := z12_A (hb); have n2_ := z12_A (ho); clear BK410 HB HO_4; revert n0_ n1_ n2_; intro BK410 HB HO418; clear ho hb hg hat))
      go_roundg k1
      case measure => have := HK1.out; omega
      case rel => exact ⟨(y416), (wrap64 (x10_1 + 1)), z12_13, H', ⟨by have := HK1.out; omega⟩, ⟨by (with_reducible repeat (first | apply Kd.R_alloc | apply Kd.R_drewN | apply Kd.R_drew)); exact HO418.out⟩, ⟨z12_10⟩, ⟨z12_4⟩⟩
     ·rw [if_neg c11] at H
      exact absurd H (by simp)
    ·rw [if_neg c9] at H
     have c9b0 : decide (x10_1 < 9) = false := decide_eq_false c9
     clear c9
     simp only [Option.some.injEq, Prod.mk.injEq] at H
     obtain ⟨rfl, rfl⟩ := H
     go_wp2
     go_ret2
     exact ⟨_, z12_7, z12_12, z12_4⟩
 ·replace c3 := Bool.eq_false_iff.mpr c3
  subst c3
  have H1 : (some (([] : List Int), false)) = some (r1, r2) := z12_14
  clear H
  have H := H1
  clear H1
  simp only [Option.some.injEq, Prod.mk.injEq] at H
  obtain ⟨rfl, rfl⟩ := H
  go_enter Try.func53, Try.ntmps53
  go_wp2_with (first | ((with_reducible refine gate_dst (N := 1) rfl ?_); refine box_event ?hg (N := 1) ?hd (cs := #[.slice A0_0 l0_0.length c0_0, .int .i64 a0_1, .int .i64 a0_2, .int .i64 a0_3]) (t := 30) ?hr ?_; (case hd => rfl); (case hg => rfl); (case hr => first | (go_simp; done) | (go_simp; rfl)); intro gb410 hg w15 hbox hb; have n0_ := z12_A (below_step z12_1 hb); have n1_ := z12_A (hbox); have n2_ := z12_A ((z12_9 : w.heap.size ≤ gb410)); have n3_ := z12_A ((z12_9 : w.heap.size ≤ gb410)); clear HB; revert n0_ n1_ n2_ n3_; intro HB BK410 GW410 GE410; clear hb hbox hg; have hcz16_0 : w15.cell? ⟨gb410, 0, none⟩ = some (.slice A0_0 l0_0.length c0_0) := bcz BK410.out 0 rfl; have hcz16_1 : w15.cell? ⟨gb410, 1, none⟩ = some (.int .i64 a0_1) := bcz BK410.out 1 rfl; have hcz16_2 : w15.cell? ⟨gb410, 2, none⟩ = some (.int .i64 a0_2) := bcz BK410.out 2 rfl; have hcz16_3 : w15.cell? ⟨gb410, 3, none⟩ = some (.int .i64 a0_3) := bcz BK410.out 3 rfl; obtain ⟨hfz16_0, hfz16_1, hfz16_2, hfz16_3⟩ := F4z (blk_frozen BK410.out)) | ((with_reducible refine gate_callee (f := 42) rfl ?_); refine goesL_ (some 7) rfl rfl Try.func42 z12_22 rfl #[.agg #[.slice A0_0 l0_0.length c0_0, .int .i64 a0_1, .int .i64 a0_2, .int .i64 a0_3]] rfl z12_2 ?_; (with_reducible refine (impl_IsMarket.calls k _ _ l0_0 a0_1 a0_2 a0_3 false _ ?side1 ?side2 A2.out).mono ?_); (case side1 => have zh := (Kd.C_below HR0_0.out HB.out); exact z12_C); (case side2 => exact HC0_0.out); rintro e w17 ⟨rfl, hb⟩; refine ⟨_, rfl, ?_⟩; have n0_ := z12_A (blk_below (g := gb410) (o := .cells #[.slice A0_0 l0_0.length c0_0, .int .i64 a0_1, .int .i64 a0_2, .int .i64 a0_3] 30 (0, 0)) z12_10 hb); have n1_ := z12_A (below_step z12_4 hb); clear BK410 HB; revert n0_ n1_; intro BK410 HB; (try clear hb); (try clear hb2); (try clear hk); (try clear hi)))
  go_ret2
  exact ⟨_, z12_7, by first | exact Kd.R_nil _ _ _ _ _ | exact Kd.N_nil _ _ _ _ _ | exact Kd.V_nil _ _ _ _ _ | exact Kd.Q_nil _ _ _ _ _ | exact Kd.S_nil _ _ _ _ _, z12_4⟩

/-! ### spec_JointProfits: function 54 -/
def spec_JointProfits.l0 : Nat → List Int → Int → List Int → Int → Int → Int → Option (List Int × Bool)
 | 0, _, _, _, _, _, _ => none
 | k + 1, x4, x5, x420000, x420001, x420002, x420003 => if x5 ≤ 8 then ((spec_l10Joint.f k x420000 x420001 x420002 x420003 x5).bind fun t424 => (if x4.length < 17592186044416 then (spec_JointProfits.l0 k (x4 ++ [t424]) (wrap64 (x5 + 1)) x420000 x420001 x420002 x420003) else (none))) else (some (x4, true))
def spec_JointProfits.f (k : Nat) (l0_0 : List Int) (a0_1 : Int) (a0_2 : Int) (a0_3 : Int) : Option (List Int × Bool) := (some (([] : List Int) : List Int)).bind fun y420 => ((spec_l10Market.f k l0_0 a0_1 a0_2 a0_3).bind fun t423 => (if t423 = true then (spec_JointProfits.l0 k y420 0 l0_0 a0_1 a0_2 a0_3) else (some (y420, false))))
theorem spec_JointProfits.mono_l : ∀ k, (∀ y0 y1 y2 y3 y4 y5, LeO (spec_JointProfits.l0 k y0 y1 y2 y3 y4 y5) (spec_JointProfits.l0 (k + 1) y0 y1 y2 y3 y4 y5))
 | 0 => fun _ _ _ _ _ _ r h => by simp [spec_JointProfits.l0] at h
 | k + 1 => by
  have ih0 := spec_JointProfits.mono_l k
  ·intro y0 y1 y2 y3 y4 y5
   unfold spec_JointProfits.l0
   repeat' first
   | (with_reducible exact ih0 _ _ _ _ _ _)
   | (with_reducible exact spec_l10Joint.mono _ _ _ _ _ _)
   | (with_reducible exact spec_l10Market.mono _ _ _ _ _)
   | (with_reducible exact LeO.refl _)
   | (with_reducible exact LeO.none _)
   | (with_reducible refine LeO.ite ?_ ?_)
   | (with_reducible refine LeO.bind ?_ (fun _ => ?_))
   | exact ih0 _ _ _ _ _ _
   | exact spec_l10Joint.mono _ _ _ _ _ _
   | exact spec_l10Market.mono _ _ _ _ _
   | exact LeO.none _
   | refine LeO.ite ?_ ?_
   | refine LeO.bind ?_ (fun _ => ?_)
theorem spec_JointProfits.mono : ∀ a0 a1 a2 a3 k, LeO (spec_JointProfits.f k a0 a1 a2 a3) (spec_JointProfits.f (k + 1) a0 a1 a2 a3) := by
 intro a0 a1 a2 a3 k
 have ih0 := spec_JointProfits.mono_l k
 unfold spec_JointProfits.f
 repeat' first
   | (with_reducible exact ih0 _ _ _ _ _ _)
   | (with_reducible exact spec_l10Joint.mono _ _ _ _ _ _)
   | (with_reducible exact spec_l10Market.mono _ _ _ _ _)
   | (with_reducible exact LeO.refl _)
   | (with_reducible exact LeO.none _)
   | (with_reducible refine LeO.ite ?_ ?_)
   | (with_reducible refine LeO.bind ?_ (fun _ => ?_))
   | exact ih0 _ _ _ _ _ _
   | exact spec_l10Joint.mono _ _ _ _ _ _
   | exact spec_l10Market.mono _ _ _ _ _
   | exact LeO.none _
   | refine LeO.ite ?_ ?_
   | refine LeO.bind ?_ (fun _ => ?_)
set_option maxHeartbeats 8000000 in
set_option maxRecDepth 100000 in
theorem spec_JointProfits.calls (k : Nat) (A0_0 : Option Addr) (c0_0 : Nat) (l0_0 : List Int) (a0_1 : Int) (a0_2 : Int) (a0_3 : Int) (r1 : List Int) (r2 : Bool) (w : World) (hr0_0 : Kd.C (Kd.int .i64) w A0_0 l0_0.length l0_0) (hc0_0 : l0_0.length ≤ c0_0) (h : spec_JointProfits.f k l0_0 a0_1 a0_2 a0_3 = some (r1, r2)) :
  Calls Try.prog 54 #[.agg #[.slice A0_0 l0_0.length c0_0, .int .i64 a0_1, .int .i64 a0_2, .int .i64 a0_3]] w fun e w' => ∃ v0_ : Value, e = .returned (.tuple #[v0_, .bool r2]) ∧ Kd.R (Kd.int .i64) 3 w' w.heap.size (fun _ => True) v0_ r1 ∧ Below w.heap.size w w' := by
 have hu30 := Try.underlying30
 have HR0_0 := z12_A hr0_0
 have HC0_0 := z12_A hc0_0
 clear hr0_0 hc0_0
 have HB := z12_A (Below.refl w.heap.size w)
 have H : ((some (([] : List Int) : List Int)).bind fun y420 => ((spec_l10Market.f k l0_0 a0_1 a0_2 a0_3).bind fun t423 => (if t423 = true then (spec_JointProfits.l0 k y420 0 l0_0 a0_1 a0_2 a0_3) else (some (y420, false))))) = some (r1, r2) := h
 clear h
 obtain ⟨y420, hy420⟩ : ∃ y_ : List Int, y_ = (([] : List Int)) := ⟨_, rfl⟩
 replace H : ((spec_l10Market.f k l0_0 a0_1 a0_2 a0_3).bind fun t423 => (if t423 = true then (spec_JointProfits.l0 k y420 0 l0_0 a0_1 a0_2 a0_3) else (some (y420, false)))) = some (r1, r2) := by first | (rw [hy420]; with_reducible exact H) | (have H2_ := (Option.bind_some _ _).symm.trans H; rw [hy420]; with_reducible exact H2_) | (have H2_ := (Option.bind_some _ _).symm.trans H; with_reducible exact H2_) | with_reducible exact H | (rw [hy420]; exact H) | exact H
 have Ny420 := z12_A hy420
 clear hy420
 replace H := Option.bind_eq_some_iff.mp H
 obtain ⟨t423, A20, H⟩ := H
 (try dsimp only at H)
 have A2 := z12_A A20
 clear A20
 by_cases c3 : t423 = true
 ·subst c3
  have H1 : (spec_JointProfits.l0 k y420 0 l0_0 a0_1 a0_2 a0_3) = some (r1, r2) := z12_21
  clear H
  have H := H1
  clear H1
  have H' := z12_A H
  clear H
  go_enter Try.func54, Try.ntmps54
  go_wp2_with (first | ((with_reducible refine gate_dst (N := 1) rfl ?_); refine box_event ?hg (N := 1) ?hd (cs := #[.slice A0_0 l0_0.length c0_0, .int .i64 a0_1, .int .i64 a0_2, .int .i64 a0_3]) (t := 30) ?hr ?_; (case hd => rfl); (case hg => rfl); (case hr => first | (go_simp; done) | (go_simp; rfl)); intro gb419 hg w4 hbox hb; have n0_ := z12_A (below_step z12_1 hb); have n1_ := z12_A (hbox); have n2_ := z12_A ((z12_9 : w.heap.size ≤ gb419)); have n3_ := z12_A ((z12_9 : w.heap.size ≤ gb419)); clear HB; revert n0_ n1_ n2_ n3_; intro HB BK419 GW419 GE419; clear hb hbox hg) | ((with_reducible refine gate_dst (N := 6) rfl ?_); refine Kd.R_lit (Kd.int .i64) _ 3 ?hg (N := 6) ?hd (xs := ([] : List Int)) (inner := []) (ok := fun _ => True) (okp := fun _ => True) ?hr ?hp (fun _ hk => hk) trivial (Below.refl _ _) (Nat.le_refl _) (by simp) ?_; (case hd => rfl); (case hg => rfl); (case hr => first | (go_simp; done) | (go_simp; rfl)); (case hp => exact (Reps.none _ _)); intro v421 w5 ho6 hb hg_ hnew_; clear hg_ hnew_; (first | rw [← Ny420.out] at ho6 | (simp only [Int.reduceToNat] at ho6; rw [← Ny420.out] at ho6)); have n0_ := z12_A (Kd.R_lower ho6 (below_size z12_3)); have n1_ := z12_A (blk_below (g := gb419) (o := .cells #[.slice A0_0 l0_0.length c0_0, .int .i64 a0_1, .int .i64 a0_2, .int .i64 a0_3] 30 (0, 0)) z12_8 hb); have n2_ := z12_A (below_step z12_3 hb); clear BK419 HB; revert n0_ n1_ n2_; intro HO422 BK419 HB; clear hb ho6; have hcz7_0 : w5.cell? ⟨gb419, 0, none⟩ = some (.slice A0_0 l0_0.length c0_0) := bcz BK419.out 0 rfl; have hcz7_1 : w5.cell? ⟨gb419, 1, none⟩ = some (.int .i64 a0_1) := bcz BK419.out 1 rfl; have hcz7_2 : w5.cell? ⟨gb419, 2, none⟩ = some (.int .i64 a0_2) := bcz BK419.out 2 rfl; have hcz7_3 : w5.cell? ⟨gb419, 3, none⟩ = some (.int .i64 a0_3) := bcz BK419.out 3 rfl; obtain ⟨hfz7_0, hfz7_1, hfz7_2, hfz7_3⟩ := F4z (blk_frozen BK419.out)) | ((with_reducible refine gate_callee (f := 67) rfl ?_); refine goesL_ (some 8) rfl rfl Try.func67 z12_22 rfl #[.agg #[.slice A0_0 l0_0.length c0_0, .int .i64 a0_1, .int .i64 a0_2, .int .i64 a0_3]] rfl z12_2 ?_; (with_reducible refine (spec_l10Market.calls k _ _ l0_0 a0_1 a0_2 a0_3 true _ ?side1 ?side2 A2.out).mono ?_); (case side1 => have zh := (Kd.C_below HR0_0.out HB.out); exact z12_C); (case side2 => exact HC0_0.out); rintro e w8 ⟨rfl, hb⟩; refine ⟨_, rfl, ?_⟩; have n0_ := z12_A (Kd.R_below z12_18 hb); have n1_ := z12_A (blk_below (g := gb419) (o := .cells #[.slice A0_0 l0_0.length c0_0, .int .i64 a0_1, .int .i64 a0_2, .int .i64 a0_3] 30 (0, 0)) z12_8 hb); have n2_ := z12_A (below_step z12_3 hb); clear HO422 BK419 HB; revert n0_ n1_ n2_; intro HO422 BK419 HB; (try clear hb); (try clear hb2); (try clear hk); (try clear hi)))
  go_loopg [4, 5] k (fun kq v4 v5 w' => ∃ (x4_1 : List Int) (x5_1 : Int), v5 = .int .i64 x5_1 ∧ Aside0 (spec_JointProfits.l0 kq x4_1 x5_1 l0_0 a0_1 a0_2 a0_3 = some (r1, r2)) ∧ Aside0 (kq ≤ k) ∧ Aside0 (Kd.R (Kd.int .i64) 3 w' w.heap.size (fun _ => True) v4 x4_1) ∧ Aside0 (w'.heap[gb419]? = some (.cells #[(.slice A0_0 l0_0.length c0_0), .int .i64 a0_1, .int .i64 a0_2, .int .i64 a0_3] 30 (0, 0))) ∧ Aside0 (Below w.heap.size w w'))
  case atStart => exact ⟨(y420), (0), z12_13, H', ⟨Nat.le_refl _⟩, ⟨z12_18⟩, ⟨z12_8⟩, ⟨z12_3⟩⟩
  case round =>
   clear H'
   (try clear c3); (try clear hcz7_0); (try clear hcz7_1); (try clear hcz7_2); (try clear hcz7_3); (try clear hfz7_0); (try clear hfz7_1); (try clear hfz7_2); (try clear hfz7_3)
   obtain ⟨x4_1, x5_1, rfl, HA, HK1, HO_4, BK419, HB⟩ := hrel
   cases gk with
   | zero => exact absurd HA.out (by simp [spec_JointProfits.l0])
   | succ k1 =>
    have H := HA.out
    clear HA
    simp only [spec_JointProfits.l0] at H
    by_cases c9 : x5_1 ≤ 8
    ·rw [if_pos c9] at H
     have c9b0 : decide (x5_1 ≤ 8) = true := decide_eq_true c9
     clear c9
     replace H := Option.bind_eq_some_iff.mp H
     obtain ⟨t424, A100, H⟩ := H
     (try dsimp only at H)
     have A10 := z12_A A100
     clear A100
     by_cases c11 : x4_1.length < 17592186044416
     ·rw [if_pos c11] at H
      have LMc11 := z12_A c11
      clear c11
      obtain ⟨y425, hy425⟩ : ∃ y_ : List Int, y_ = (x4_1 ++ [t424]) := ⟨_, rfl⟩
      replace H : (spec_JointProfits.l0 k1 y425 (wrap64 (x5_1 + 1)) l0_0 a0_1 a0_2 a0_3) = some (r1, r2) := by first | (rw [hy425]; with_reducible exact H) | (have H2_ := (Option.bind_some _ _).symm.trans H; rw [hy425]; with_reducible exact H2_) | (have H2_ := (Option.bind_some _ _).symm.trans H; with_reducible exact H2_) | with_reducible exact H | (rw [hy425]; exact H) | exact H
      have Ny425 := z12_A hy425
      clear hy425
      have H' := z12_A H
      clear H
      have hcz12_0 : wr.cell? ⟨gb419, 0, none⟩ = some (.slice A0_0 l0_0.length c0_0) := bcz BK419.out 0 rfl
      have hcz12_1 : wr.cell? ⟨gb419, 1, none⟩ = some (.int .i64 a0_1) := bcz BK419.out 1 rfl
      have hcz12_2 : wr.cell? ⟨gb419, 2, none⟩ = some (.int .i64 a0_2) := bcz BK419.out 2 rfl
      have hcz12_3 : wr.cell? ⟨gb419, 3, none⟩ = some (.int .i64 a0_3) := bcz BK419.out 3 rfl
      obtain ⟨hfz12_0, hfz12_1, hfz12_2, hfz12_3⟩ := F4z (blk_frozen BK419.out)
      go_wp2_with (first | ((with_reducible refine gate_callee (f := 96) rfl ?_); refine goesL_ (some 18) rfl rfl Try.func96 z12_22 rfl #[.agg #[.slice A0_0 l0_0.length c0_0, .int .i64 a0_1, .int .i64 a0_2, .int .i64 a0_3], .int .i64 x5_1] rfl z12_2 ?_; (with_reducible refine (spec_l10Joint.calls k1 _ _ l0_0 a0_1 a0_2 a0_3 x5_1 t424 _ ?side1 ?side2 A10.out).mono ?_); (case side1 => have zh := (Kd.C_below HR0_0.out HB.out); exact z12_C); (case side2 => exact HC0_0.out); rintro e w13 ⟨rfl, hb⟩; refine ⟨_, rfl, ?_⟩; have n0_ := z12_A (Kd.R_below z12_12 hb); have n1_ := z12_A (blk_below (g := gb419) (o := .cells #[.slice A0_0 l0_0.length c0_0, .int .i64 a0_1, .int .i64 a0_2, .int .i64 a0_3] 30 (0, 0)) z12_8 hb); have n2_ := z12_A (below_step z12_3 hb); clear HO_4 BK419 HB; revert n0_ n1_ n2_; intro HO_4 BK419 HB; (try clear hb); (try clear hb2); (try clear hk); (try clear hi)) | ((with_reducible refine gate_builtin (b := .append) (xs := #[.tmp 15, .tmp 19]) rfl ?_); at_builtin; refine Kd.R_append (Kd.int .i64) (w0 := w) w.heap.size rfl (.tmp 15) (.tmp 19) 22 3 (.int .i64 0) 8 rfl Try.underlying22 info3 rfl (by decide) (by omega) u4 x4_1 t424 [.int .i64 t424] (fun _ => True) (fun _ => False) rfl rfl ?aP (fun _ hk => hk.elim) ?aF ?aO ?aB ?aS ?aL ?_; (case aP => exact rfl); (case aB => exact z12_3); (case aF => exact (fun _ _ => trivial)); (case aO => exact z12_12); (case aS => exact (below_size z12_3)); (case aL => have := LMc11.out; omega); intro v426 w14 ho hb hg hat; rw [← Ny425.out] at ho; have n0_ := z12_A (blk_grown (g := gb419) (o := .cells #[.slice A0_0 l0_0.length c0_0, .int .i64 a0_1, .int .i64 a0_2, .int .i64 a0_3] 30 (0, 0)) z12_8 hg (Kd.R_ne HO_4.out BK419.out (by decide))); have n1_ := z12_A (hb); have n2_ := z12_A (ho); clear BK419 HB HO_4; revert n0_ n1_ n2_; intro BK419 HB HO427; clear ho hb hg hat))
      go_roundg k1
      case measure => have := HK1.out; omega
      case rel => exact ⟨(y425), (wrap64 (x5_1 + 1)), z12_13, H', ⟨by have := HK1.out; omega⟩, ⟨by (with_reducible repeat (first | apply Kd.R_alloc | apply Kd.R_drewN | apply Kd.R_drew)); exact HO427.out⟩, ⟨z12_8⟩, ⟨z12_3⟩⟩
     ·rw [if_neg c11] at H
      exact absurd H (by simp)
    ·rw [if_neg c9] at H
     have c9b0 : decide (x5_1 ≤ 8) = false := decide_eq_false c9
     clear c9
     simp only [Option.some.injEq, Prod.mk.injEq] at H
     obtain ⟨rfl, rfl⟩ := H
     go_wp2
     go_ret2
     exact ⟨_, z12_7, z12_12, z12_3⟩
 ·replace c3 := Bool.eq_false_iff.mpr c3
  subst c3
  have H1 : (some (y420, false)) = some (r1, r2) := z12_14
  clear H
  have H := H1
  clear H1
  simp only [Option.some.injEq, Prod.mk.injEq] at H
  obtain ⟨rfl, rfl⟩ := H
  go_enter Try.func54, Try.ntmps54
  go_wp2_with (first | ((with_reducible refine gate_dst (N := 1) rfl ?_); refine box_event ?hg (N := 1) ?hd (cs := #[.slice A0_0 l0_0.length c0_0, .int .i64 a0_1, .int .i64 a0_2, .int .i64 a0_3]) (t := 30) ?hr ?_; (case hd => rfl); (case hg => rfl); (case hr => first | (go_simp; done) | (go_simp; rfl)); intro gb419 hg w15 hbox hb; have n0_ := z12_A (below_step z12_1 hb); have n1_ := z12_A (hbox); have n2_ := z12_A ((z12_9 : w.heap.size ≤ gb419)); have n3_ := z12_A ((z12_9 : w.heap.size ≤ gb419)); clear HB; revert n0_ n1_ n2_ n3_; intro HB BK419 GW419 GE419; clear hb hbox hg) | ((with_reducible refine gate_dst (N := 6) rfl ?_); refine Kd.R_lit (Kd.int .i64) _ 3 ?hg (N := 6) ?hd (xs := ([] : List Int)) (inner := []) (ok := fun _ => True) (okp := fun _ => True) ?hr ?hp (fun _ hk => hk) trivial (Below.refl _ _) (Nat.le_refl _) (by simp) ?_; (case hd => rfl); (case hg => rfl); (case hr => first | (go_simp; done) | (go_simp; rfl)); (case hp => exact (Reps.none _ _)); intro v421 w16 ho17 hb hg_ hnew_; clear hg_ hnew_; (first | rw [← Ny420.out] at ho17 | (simp only [Int.reduceToNat] at ho17; rw [← Ny420.out] at ho17)); have n0_ := z12_A (Kd.R_lower ho17 (below_size z12_3)); have n1_ := z12_A (blk_below (g := gb419) (o := .cells #[.slice A0_0 l0_0.length c0_0, .int .i64 a0_1, .int .i64 a0_2, .int .i64 a0_3] 30 (0, 0)) z12_8 hb); have n2_ := z12_A (below_step z12_3 hb); clear BK419 HB; revert n0_ n1_ n2_; intro HO422 BK419 HB; clear hb ho17; have hcz18_0 : w16.cell? ⟨gb419, 0, none⟩ = some (.slice A0_0 l0_0.length c0_0) := bcz BK419.out 0 rfl; have hcz18_1 : w16.cell? ⟨gb419, 1, none⟩ = some (.int .i64 a0_1) := bcz BK419.out 1 rfl; have hcz18_2 : w16.cell? ⟨gb419, 2, none⟩ = some (.int .i64 a0_2) := bcz BK419.out 2 rfl; have hcz18_3 : w16.cell? ⟨gb419, 3, none⟩ = some (.int .i64 a0_3) := bcz BK419.out 3 rfl; obtain ⟨hfz18_0, hfz18_1, hfz18_2, hfz18_3⟩ := F4z (blk_frozen BK419.out)) | ((with_reducible refine gate_callee (f := 67) rfl ?_); refine goesL_ (some 8) rfl rfl Try.func67 z12_22 rfl #[.agg #[.slice A0_0 l0_0.length c0_0, .int .i64 a0_1, .int .i64 a0_2, .int .i64 a0_3]] rfl z12_2 ?_; (with_reducible refine (spec_l10Market.calls k _ _ l0_0 a0_1 a0_2 a0_3 false _ ?side1 ?side2 A2.out).mono ?_); (case side1 => have zh := (Kd.C_below HR0_0.out HB.out); exact z12_C); (case side2 => exact HC0_0.out); rintro e w19 ⟨rfl, hb⟩; refine ⟨_, rfl, ?_⟩; have n0_ := z12_A (Kd.R_below z12_18 hb); have n1_ := z12_A (blk_below (g := gb419) (o := .cells #[.slice A0_0 l0_0.length c0_0, .int .i64 a0_1, .int .i64 a0_2, .int .i64 a0_3] 30 (0, 0)) z12_8 hb); have n2_ := z12_A (below_step z12_3 hb); clear HO422 BK419 HB; revert n0_ n1_ n2_; intro HO422 BK419 HB; (try clear hb); (try clear hb2); (try clear hk); (try clear hi)))
  go_ret2
  exact ⟨_, z12_7, z12_18, z12_3⟩

/-! ### laws_rInts: function 55 -/
def laws_rInts.l0 : Nat → List Int → List Int → Int → Option (Bool)
 | 0, _, _, _ => none
 | k + 1, x0, x1, x5 => if x5 < (x0.length : Int) then (if 0 ≤ x5 then (if x5 < (x1.length : Int) then (if (rd x0 x5) = (rd x1 x5) then (laws_rInts.l0 k x0 x1 (wrap64 (x5 + 1))) else (some false)) else (none)) else (none)) else (some true)
def laws_rInts.f (k : Nat) (l0 : List Int) (l1 : List Int) : Option (Bool) := if (l0.length : Int) = (l1.length : Int) then (laws_rInts.l0 k l0 l1 0) else (some false)
theorem laws_rInts.mono_l : ∀ k, (∀ y0 y1 y2, LeO (laws_rInts.l0 k y0 y1 y2) (laws_rInts.l0 (k + 1) y0 y1 y2))
 | 0 => fun _ _ _ r h => by simp [laws_rInts.l0] at h
 | k + 1 => by
  have ih0 := laws_rInts.mono_l k
  ·intro y0 y1 y2
   unfold laws_rInts.l0
   repeat' first
   | (with_reducible exact ih0 _ _ _)
   | (with_reducible exact LeO.refl _)
   | (with_reducible exact LeO.none _)
   | (with_reducible refine LeO.ite ?_ ?_)
   | (with_reducible refine LeO.bind ?_ (fun _ => ?_))
   | exact ih0 _ _ _
   | exact LeO.none _
   | refine LeO.ite ?_ ?_
   | refine LeO.bind ?_ (fun _ => ?_)
theorem laws_rInts.mono : ∀ a0 a1 k, LeO (laws_rInts.f k a0 a1) (laws_rInts.f (k + 1) a0 a1) := by
 intro a0 a1 k
 have ih0 := laws_rInts.mono_l k
 unfold laws_rInts.f
 repeat' first
   | (with_reducible exact ih0 _ _ _)
   | (with_reducible exact LeO.refl _)
   | (with_reducible exact LeO.none _)
   | (with_reducible refine LeO.ite ?_ ?_)
   | (with_reducible refine LeO.bind ?_ (fun _ => ?_))
   | exact ih0 _ _ _
   | exact LeO.none _
   | refine LeO.ite ?_ ?_
   | refine LeO.bind ?_ (fun _ => ?_)
set_option maxHeartbeats 8000000 in
set_option maxRecDepth 100000 in
theorem laws_rInts.calls (k : Nat) (A0 : Option Addr) (c0 : Nat) (l0 : List Int) (A1 : Option Addr) (c1 : Nat) (l1 : List Int) (r : Bool) (w : World) (hr0 : Kd.C (Kd.int .i64) w A0 l0.length l0) (hc0 : l0.length ≤ c0) (hr1 : Kd.C (Kd.int .i64) w A1 l1.length l1) (hc1 : l1.length ≤ c1) (h : laws_rInts.f k l0 l1 = some r) :
  Calls Try.prog 55 #[.slice A0 l0.length c0, .slice A1 l1.length c1] w fun e w' => e = .returned (.bool r) ∧ Drawn0 w w' := by
 have HR0 := z12_A hr0
 have HC0 := z12_A hc0
 clear hr0 hc0
 have HR1 := z12_A hr1
 have HC1 := z12_A hc1
 clear hr1 hc1
 have H : (if (l0.length : Int) = (l1.length : Int) then (laws_rInts.l0 k l0 l1 0) else (some false)) = some r := h
 clear h
 by_cases c3 : (l0.length : Int) = (l1.length : Int)
 ·rw [if_pos c3] at H
  have c3b0 : ((l0.length : Int) == (l1.length : Int)) = true := beq_iff_eq.mpr c3
  have c3b1 : ((l0.length : Int) != (l1.length : Int)) = false := bne_eq_false_iff_eq.mpr c3
  have c3b2 : (l0.length == l1.length) = true := by first | simpa using c3 | (simp at c3 ⊢; omega)
  clear c3
  have H' := z12_A H
  clear H
  go_enter Try.func55, Try.ntmps55
  go_wp2
  repeat (go_quiet (fail); try go_wp2)
  go_loopg [5] k (fun kq v5 w' => ∃ (x5_1 : Int), v5 = .int .i64 x5_1 ∧ Aside0 (laws_rInts.l0 kq l0 l1 x5_1 = some r) ∧ Aside0 (kq ≤ k) ∧ Drawn0 w w')
  case atStart => exact ⟨(0), z12_13, H', ⟨Nat.le_refl _⟩, z12_20⟩
  case round =>
   clear H'
   (try clear c1); (try clear c3); (try clear c3b0); (try clear c3b1); (try clear c3b2)
   obtain ⟨x5_1, rfl, HA, HK1, ⟨m1, rfl⟩⟩ := hrel
   cases gk with
   | zero => exact absurd HA.out (by simp [laws_rInts.l0])
   | succ k1 =>
    have H := HA.out
    clear HA
    simp only [laws_rInts.l0] at H
    by_cases c4 : x5_1 < (l0.length : Int)
    ·rw [if_pos c4] at H
     have c4b0 : decide (x5_1 < (l0.length : Int)) = true := decide_eq_true c4
     clear c4
     by_cases c5 : 0 ≤ x5_1
     ·rw [if_pos c5] at H
      have c5b0 : decide (0 ≤ x5_1) = true := decide_eq_true c5
      clear c5
      by_cases c6 : x5_1 < (l1.length : Int)
      ·rw [if_pos c6] at H
       have c6b0 : decide (x5_1 < (l1.length : Int)) = true := decide_eq_true c6
       clear c6
       by_cases c7 : (rd l0 x5_1) = (rd l1 x5_1)
       ·rw [if_pos c7] at H
        have c7b0 : ((rd l0 x5_1) == (rd l1 x5_1)) = true := beq_iff_eq.mpr c7
        have c7b1 : ((rd l0 x5_1) != (rd l1 x5_1)) = false := bne_eq_false_iff_eq.mpr c7
        clear c7
        have H' := z12_A H
        clear H
        have p428 : 0 ≤ (x5_1 : Int) := of_decide_eq_true z12_17
        have q428 : x5_1 < (l0.length : Int) := of_decide_eq_true z12_17
        obtain ⟨ad428, e428, hx428_0⟩ := Kd.at_int HR0.out x5_1 p428 q428
        cases e428
        replace p428 := eq_true p428
        replace q428 := eq_true q428
        have p429 : 0 ≤ (x5_1 : Int) := of_decide_eq_true z12_17
        have q429 : x5_1 < (l1.length : Int) := of_decide_eq_true z12_17
        obtain ⟨ad429, e429, hx429_0⟩ := Kd.at_int HR1.out x5_1 p429 q429
        cases e429
        replace p429 := eq_true p429
        replace q429 := eq_true q429
        go_wp2
        repeat (go_quiet (fail); try go_wp2)
        go_roundg k1
        case measure => have := HK1.out; omega
        case rel => exact ⟨(wrap64 (x5_1 + 1)), z12_13, H', ⟨by have := HK1.out; omega⟩, z12_20⟩
       ·rw [if_neg c7] at H
        have c7b0 : ((rd l0 x5_1) == (rd l1 x5_1)) = false := beq_eq_false_iff_ne.mpr c7
        have c7b1 : ((rd l0 x5_1) != (rd l1 x5_1)) = true := bne_iff_ne.mpr c7
        obtain rfl := Option.some.inj H
        have p428 : 0 ≤ (x5_1 : Int) := of_decide_eq_true z12_17
        have q428 : x5_1 < (l0.length : Int) := of_decide_eq_true z12_17
        obtain ⟨ad428, e428, hx428_0⟩ := Kd.at_int HR0.out x5_1 p428 q428
        cases e428
        replace p428 := eq_true p428
        replace q428 := eq_true q428
        have p429 : 0 ≤ (x5_1 : Int) := of_decide_eq_true z12_17
        have q429 : x5_1 < (l1.length : Int) := of_decide_eq_true z12_17
        obtain ⟨ad429, e429, hx429_0⟩ := Kd.at_int HR1.out x5_1 p429 q429
        cases e429
        replace p429 := eq_true p429
        replace q429 := eq_true q429
        go_wp2
        repeat (go_quiet (fail); try go_wp2)
        go_ret
        exact ⟨z12_13, z12_20⟩
      ·rw [if_neg c6] at H
       exact absurd H (by simp)
     ·rw [if_neg c5] at H
      exact absurd H (by simp)
    ·rw [if_neg c4] at H
     have c4b0 : decide (x5_1 < (l0.length : Int)) = false := decide_eq_false c4
     clear c4
     obtain rfl := Option.some.inj H
     go_wp2
     repeat (go_quiet (fail); try go_wp2)
     go_ret
     exact ⟨z12_13, z12_20⟩
 ·rw [if_neg c3] at H
  have c3b0 : ((l0.length : Int) == (l1.length : Int)) = false := beq_eq_false_iff_ne.mpr c3
  have c3b1 : ((l0.length : Int) != (l1.length : Int)) = true := bne_iff_ne.mpr c3
  have c3b2 : (l0.length == l1.length) = false := by first | simpa using c3 | (simp at c3 ⊢; omega)
  obtain rfl := Option.some.inj H
  go_enter Try.func55, Try.ntmps55
  go_wp2
  repeat (go_quiet (fail); try go_wp2)
  go_ret
  exact ⟨z12_13, z12_20⟩

end Go.Proofs.Ytiniocecpgjikaa.PFnProfits
