-- A text of this session (its program hook.py, over the kit's print.py): not a print of print.sh
-- THIN: one blank for two
import Derived.Test.YtiniocecpgjikaaPFnContractsx0
import Derived.Test.YtiniocecpgjikaaPFnContractsx2
import Derived.Test.YtiniocecpgjikaaPFnContractsx7
import Derived.Test.YtiniocecpgjikaaPFnContractsx8
namespace Go.Proofs.Ytiniocecpgjikaa.PFnContracts
open Go.RowKit Go.Proofs.YtiniocecpgjikaaW.PrintWords Go.Proofs.YtiniocecpgjikaaW.PrintLast Go.Proofs.YtiniocecpgjikaaW.PrintMore
attribute [local go_sem] max2_int min2_int max_two min_two max_three min_three max_four min_four   -- for this text's walks alone
set_option linter.unusedVariables false
set_option linter.unusedSimpArgs false

-- SQUEEZED
theorem z10_A {p : Prop} (h : p) : Aside0 p := Aside0.mk h
theorem z10_C {p : Prop} (h : p := by repeat (first | exact zh | (with_reducible refine Kd.C_alloc ?_ _) | (with_reducible refine Kd.C_drewN ?_ _) | (with_reducible refine Kd.C_drew ?_))) : p := h
theorem z10_1 {p : Prop} (h : p := by repeat (first | (with_reducible first | exact HK.out | apply KeepBut.set_ | apply keep_drewN | apply keep_drew | apply keep_alloc | refine keep_far ?_ GW299.out _ | refine keep_far ?_ GW300.out _ | refine keep_far ?_ GW314.out _) | exact HK.out)) : p := h
theorem z10_2 {p : Prop} (h : p := by repeat (first | (with_reducible first | exact HB.out | apply below_alloc | apply pw_below_drewN | apply below_drew1 | refine below_set ?_ (IsS82.ge HI0.out) | refine below_set ?_ GE299.out | refine below_set ?_ GE300.out | refine below_set ?_ GE314.out) | exact HB.out)) : p := h
theorem z10_3 {p : Prop} (h : p := by (with_reducible repeat (first | refine blk_drewN ?_ _ | refine blk_drew ?_ | refine blk_alloc ?_ _)); exact BK299.out) : p := h
theorem z10_4 {p : Prop} (h : p := by repeat (first | (with_reducible first | exact HI0.out | apply IsS82.alloc | apply IsS82.drewN | apply IsS82.drew | apply IsS82.set_1 | apply IsS82.set_2 | refine IsS82.far ?_ NB0_299.out _ | refine IsS82.far ?_ NB0_300.out _ | refine IsS82.far ?_ NB0_314.out _) | exact HI0.out)) : p := h
theorem z10_5 {p : Prop} (h : p := by (try simp only [List.map_toArray, List.map_cons, List.map_nil]); first | done | rfl | (simp only [List.length_drop, List.length_take]; rfl)) : p := h
theorem z10_6 {p : Prop} (h : p := by (with_reducible repeat (first | refine blk_drewN ?_ _ | refine blk_drew ?_ | refine blk_alloc ?_ _)); exact BK300.out) : p := h
theorem z10_7 {p : Prop} (h : p := by repeat (first | (with_reducible first | exact HB.out | apply below_alloc | apply pw_below_drewN | apply below_drew1 | refine below_set ?_ GE291.out) | exact HB.out)) : p := h
theorem z10_8 {p : Prop} (h : p := by repeat (first | (with_reducible first | exact HK.out | apply KeepBut.set_ | apply keep_drewN | apply keep_drew | apply keep_alloc | refine keep_far ?_ GW299.out _ | refine keep_far ?_ GW300.out _) | exact HK.out)) : p := h
theorem z10_9 {p : Prop} (h : p := by (with_reducible repeat (first | refine blk_drewN ?_ _ | refine blk_drew ?_ | refine blk_alloc ?_ _)); exact BK314.out) : p := h
theorem z10_10 {p : Prop} (h : p := by (with_reducible repeat (first | refine blk_drewN ?_ _ | refine blk_drew ?_ | refine blk_alloc ?_ _)); exact BK291.out) : p := h
theorem z10_11 {p : Prop} (h : p := by first | rfl | (simp [errW_none, errW_some] <;> rfl) | (simp [*, errW_none, errW_some] <;> rfl)) : p := h
theorem z10_12 {p : Prop} (h : p := by repeat (first | (with_reducible first | exact HK.out | apply KeepBut.set_ | apply keep_drewN | apply keep_drew | apply keep_alloc) | exact HK.out)) : p := h
theorem z10_13 {p : Prop} (h : p := by repeat (first | (with_reducible first | exact HI0.out | apply IsS82.alloc | apply IsS82.drewN | apply IsS82.drew | apply IsS82.set_1 | apply IsS82.set_2 | refine IsS82.far ?_ NB0_299.out _ | refine IsS82.far ?_ NB0_300.out _) | exact HI0.out)) : p := h
theorem z10_14 {p : Prop} (h : p := by repeat (first | (with_reducible first | exact HB.out | apply below_alloc | apply pw_below_drewN | apply below_drew1 | refine below_set ?_ (IsS82.ge HI0.out) | refine below_set ?_ GE299.out | refine below_set ?_ GE300.out) | exact HB.out)) : p := h
theorem z10_15 {p : Prop} (h : p := by first | rfl | (simp; done) | (simp [*]; done)) : p := h
theorem z10_16 {p : Prop} (h : p := by rw [if_neg (show ¬ (false = true) by decide)] at H; exact H) : p := h
theorem z10_17 {p : Prop} (h : p := by repeat (first | (with_reducible first | exact HK.out | apply KeepBut.set_ | apply keep_drewN | apply keep_drew | apply keep_alloc | refine keep_far ?_ GW299.out _) | exact HK.out)) : p := h
theorem z10_18 {p : Prop} (h : p := by repeat (first | (with_reducible first | exact HB.out | apply below_alloc | apply pw_below_drewN | apply below_drew1) | exact HB.out)) : p := h
theorem z10_19 {p : Prop} (h : p := by kernel_rfl) : p := h
theorem z10_20 {p : Prop} (h : p := by (with_reducible repeat (first | apply Kd.R_alloc | apply Kd.R_drewN | apply Kd.R_drew)); exact HO310.out) : p := h
theorem z10_21 {p : Prop} (h : p := by rw [if_pos rfl] at H; exact H) : p := h
theorem z10_22 {p : Prop} (h : p := by first | omega | exact Nat.le_refl _) : p := h
theorem z10_23 {p : Prop} (h : p := by repeat (first | (with_reducible first | exact HB.out | apply below_alloc | apply pw_below_drewN | apply below_drew1 | refine below_set ?_ (IsS82.ge HI0.out)) | exact HB.out)) : p := h
theorem z10_24 {p : Prop} (h : p := by repeat (first | (with_reducible first | exact HI0.out | apply IsS82.alloc | apply IsS82.drewN | apply IsS82.drew | apply IsS82.set_1 | apply IsS82.set_2) | exact HI0.out)) : p := h
theorem z10_25 {p : Prop} (h : p := by simp) : p := h
theorem z10_26 {p : Prop} (h : p := by rw [hg]; exact Nat.ne_of_lt (blk_lt (g := gb299) (o := .cells #[.slice A1_0 l1_0.length c1_0, .int .i64 a1_1, .int .i64 a1_2, .int .i64 a1_3] 30 (0, 0)) z10_3)) : p := h
theorem z10_27 {p : Prop} (h : p := by rw [hg]; exact Nat.ne_of_gt (blk_lt (g := gb299) (o := .cells #[.slice A1_0 l1_0.length c1_0, .int .i64 a1_1, .int .i64 a1_2, .int .i64 a1_3] 30 (0, 0)) z10_3)) : p := h

/-! ### spec_PayFor: function 41 -/
mutual
def spec_PayFor.j0 : Nat → Int → Int → Bool → List Int → Int → Int → Int → Option (Int × Bool)
 | 0, _, _, _, _, _, _, _ => none
 | k + 1, x1, x2, x28, x292000, x292001, x292002, x292003 => if x28 = true then (some (0, false)) else (spec_PayFor.l0 k x1 x2 0 x292000 x292001 x292002 x292003)
def spec_PayFor.l0 : Nat → Int → Int → Int → List Int → Int → Int → Int → Option (Int × Bool)
 | 0, _, _, _, _, _, _, _ => none
 | k + 1, x1, x2, x8, x292000, x292001, x292002, x292003 => if x8 ≤ 99 then ((spec_l10Proportion.f x292000 x292001 x292002 x292003 x8 x1 x2).bind fun t295 => (if t295 = true then (some (x8, true)) else (spec_PayFor.l0 k x1 x2 (wrap64 (x8 + 1)) x292000 x292001 x292002 x292003))) else (some (0, false))
end
def spec_PayFor.f (k : Nat) (l0_0 : List Int) (a0_1 : Int) (a0_2 : Int) (a0_3 : Int) (a1 : Int) (a2 : Int) : Option (Int × Bool) := (spec_l10Market.f k l0_0 a0_1 a0_2 a0_3).bind fun t292 => (if t292 = true then ((spec_l1In.f a1 0 99).bind fun t293 => (if t293 = true then ((spec_l1In.f a2 0 100).bind fun t294 => (if t294 = true then (spec_PayFor.j0 k a1 a2 (a0_1 == a0_3) l0_0 a0_1 a0_2 a0_3) else (spec_PayFor.j0 k a1 a2 true l0_0 a0_1 a0_2 a0_3))) else (spec_PayFor.j0 k a1 a2 true l0_0 a0_1 a0_2 a0_3))) else (spec_PayFor.j0 k a1 a2 true l0_0 a0_1 a0_2 a0_3))
theorem spec_PayFor.mono_l : ∀ k, (∀ y0 y1 y2 y3 y4 y5 y6, LeO (spec_PayFor.j0 k y0 y1 y2 y3 y4 y5 y6) (spec_PayFor.j0 (k + 1) y0 y1 y2 y3 y4 y5 y6)) ∧ (∀ y0 y1 y2 y3 y4 y5 y6, LeO (spec_PayFor.l0 k y0 y1 y2 y3 y4 y5 y6) (spec_PayFor.l0 (k + 1) y0 y1 y2 y3 y4 y5 y6))
 | 0 => ⟨fun _ _ _ _ _ _ _ r h => by simp [spec_PayFor.j0] at h, fun _ _ _ _ _ _ _ r h => by simp [spec_PayFor.l0] at h⟩
 | k + 1 => by
  obtain ⟨ih0, ih1⟩ := spec_PayFor.mono_l k
  refine ⟨?_, ?_⟩
  ·intro y0 y1 y2 y3 y4 y5 y6
   unfold spec_PayFor.j0
   repeat' first
   | (with_reducible exact ih0 _ _ _ _ _ _ _)
   | (with_reducible exact ih1 _ _ _ _ _ _ _)
   | (with_reducible exact spec_l10Market.mono _ _ _ _ _)
   | (with_reducible exact LeO.refl _)
   | (with_reducible exact LeO.none _)
   | (with_reducible refine LeO.ite ?_ ?_)
   | (with_reducible refine LeO.bind ?_ (fun _ => ?_))
   | exact ih0 _ _ _ _ _ _ _
   | exact ih1 _ _ _ _ _ _ _
   | exact spec_l10Market.mono _ _ _ _ _
   | exact LeO.none _
   | refine LeO.ite ?_ ?_
   | refine LeO.bind ?_ (fun _ => ?_)
  ·intro y0 y1 y2 y3 y4 y5 y6
   unfold spec_PayFor.l0
   repeat' first
   | (with_reducible exact ih0 _ _ _ _ _ _ _)
   | (with_reducible exact ih1 _ _ _ _ _ _ _)
   | (with_reducible exact spec_l10Market.mono _ _ _ _ _)
   | (with_reducible exact LeO.refl _)
   | (with_reducible exact LeO.none _)
   | (with_reducible refine LeO.ite ?_ ?_)
   | (with_reducible refine LeO.bind ?_ (fun _ => ?_))
   | exact ih0 _ _ _ _ _ _ _
   | exact ih1 _ _ _ _ _ _ _
   | exact spec_l10Market.mono _ _ _ _ _
   | exact LeO.none _
   | refine LeO.ite ?_ ?_
   | refine LeO.bind ?_ (fun _ => ?_)
theorem spec_PayFor.mono : ∀ a0 a1 a2 a3 a4 a5 k, LeO (spec_PayFor.f k a0 a1 a2 a3 a4 a5) (spec_PayFor.f (k + 1) a0 a1 a2 a3 a4 a5) := by
 intro a0 a1 a2 a3 a4 a5 k
 obtain ⟨ih0, ih1⟩ := spec_PayFor.mono_l k
 unfold spec_PayFor.f
 repeat' first
   | (with_reducible exact ih0 _ _ _ _ _ _ _)
   | (with_reducible exact ih1 _ _ _ _ _ _ _)
   | (with_reducible exact spec_l10Market.mono _ _ _ _ _)
   | (with_reducible exact LeO.refl _)
   | (with_reducible exact LeO.none _)
   | (with_reducible refine LeO.ite ?_ ?_)
   | (with_reducible refine LeO.bind ?_ (fun _ => ?_))
   | exact ih0 _ _ _ _ _ _ _
   | exact ih1 _ _ _ _ _ _ _
   | exact spec_l10Market.mono _ _ _ _ _
   | exact LeO.none _
   | refine LeO.ite ?_ ?_
   | refine LeO.bind ?_ (fun _ => ?_)
set_option maxHeartbeats 8000000 in
set_option maxRecDepth 100000 in
theorem spec_PayFor.calls (k : Nat) (A0_0 : Option Addr) (c0_0 : Nat) (l0_0 : List Int) (a0_1 : Int) (a0_2 : Int) (a0_3 : Int) (a1 : Int) (a2 : Int) (r1 : Int) (r2 : Bool) (w : World) (hr0_0 : Kd.C (Kd.int .i64) w A0_0 l0_0.length l0_0) (hc0_0 : l0_0.length ≤ c0_0) (h : spec_PayFor.f k l0_0 a0_1 a0_2 a0_3 a1 a2 = some (r1, r2)) :
  Calls Try.prog 41 #[.agg #[.slice A0_0 l0_0.length c0_0, .int .i64 a0_1, .int .i64 a0_2, .int .i64 a0_3], .int .i64 a1, .int .i64 a2] w fun e w' => e = .returned (.tuple #[.int .i64 r1, .bool r2]) ∧ Below w.heap.size w w' := by
 have hu30 := Try.underlying30
 have hu32 := Try.underlying32
 have HR0_0 := z10_A hr0_0
 have HC0_0 := z10_A hc0_0
 clear hr0_0 hc0_0
 have HB := z10_A (Below.refl w.heap.size w)
 have H : ((spec_l10Market.f k l0_0 a0_1 a0_2 a0_3).bind fun t292 => (if t292 = true then ((spec_l1In.f a1 0 99).bind fun t293 => (if t293 = true then ((spec_l1In.f a2 0 100).bind fun t294 => (if t294 = true then (spec_PayFor.j0 k a1 a2 (a0_1 == a0_3) l0_0 a0_1 a0_2 a0_3) else (spec_PayFor.j0 k a1 a2 true l0_0 a0_1 a0_2 a0_3))) else (spec_PayFor.j0 k a1 a2 true l0_0 a0_1 a0_2 a0_3))) else (spec_PayFor.j0 k a1 a2 true l0_0 a0_1 a0_2 a0_3))) = some (r1, r2) := h
 clear h
 have HC4 := z10_A H
 clear H
 go_enter Try.func41, Try.ntmps41
 go_upto_region 1 with (first | ((with_reducible refine gate_dst (N := 3) rfl ?_); refine box_event ?hg (N := 3) ?hd (cs := #[.slice A0_0 l0_0.length c0_0, .int .i64 a0_1, .int .i64 a0_2, .int .i64 a0_3]) (t := 30) ?hr ?_; (case hd => rfl); (case hg => rfl); (case hr => first | (go_simp; done) | (go_simp; rfl)); intro gb291 hg w5 hbox hb; have n0_ := z10_A (below_step z10_18 hb); have n1_ := z10_A (hbox); have n2_ := z10_A ((by rw [hg]; exact (below_size z10_18) : w.heap.size ≤ gb291)); have n3_ := z10_A ((by rw [hg]; exact (below_size z10_18) : w.heap.size ≤ gb291)); clear HB; revert n0_ n1_ n2_ n3_; intro HB BK291 GW291 GE291; clear hb hbox hg))
 (try simp only [Act.put, List.setIfInBounds_toArray, List.set_cons_zero, List.set_cons_succ])
 go_cut [28] (fun v28 wc => ∃ (kq : Nat) (x28_3 : Bool), v28 = .bool x28_3 ∧ Aside0 (spec_PayFor.j0 kq a1 a2 x28_3 l0_0 a0_1 a0_2 a0_3 = some (r1, r2)) ∧ Aside0 (kq ≤ k) ∧ Aside0 (wc.heap[gb291]? = some (.cells #[(.slice A0_0 l0_0.length c0_0), .int .i64 a0_1, .int .i64 a0_2, .int .i64 a0_3] 30 (0, 0))) ∧ Aside0 (Below w.heap.size w wc))
 case first =>
  have H := HC4.out
  clear HC4
  replace H := Option.bind_eq_some_iff.mp H
  obtain ⟨t292, A60, H⟩ := H
  (try dsimp only at H)
  have A6 := z10_A A60
  clear A60
  by_cases c7 : t292 = true
  ·subst c7
   have H1 : ((spec_l1In.f a1 0 99).bind fun t293 => (if t293 = true then ((spec_l1In.f a2 0 100).bind fun t294 => (if t294 = true then (spec_PayFor.j0 k a1 a2 (a0_1 == a0_3) l0_0 a0_1 a0_2 a0_3) else (spec_PayFor.j0 k a1 a2 true l0_0 a0_1 a0_2 a0_3))) else (spec_PayFor.j0 k a1 a2 true l0_0 a0_1 a0_2 a0_3))) = some (r1, r2) := z10_21
   clear H
   have H := H1
   clear H1
   replace H := Option.bind_eq_some_iff.mp H
   obtain ⟨t293, A80, H⟩ := H
   (try dsimp only at H)
   have A8 := z10_A A80
   clear A80
   by_cases c9 : t293 = true
   ·subst c9
    have H1 : ((spec_l1In.f a2 0 100).bind fun t294 => (if t294 = true then (spec_PayFor.j0 k a1 a2 (a0_1 == a0_3) l0_0 a0_1 a0_2 a0_3) else (spec_PayFor.j0 k a1 a2 true l0_0 a0_1 a0_2 a0_3))) = some (r1, r2) := z10_21
    clear H
    have H := H1
    clear H1
    replace H := Option.bind_eq_some_iff.mp H
    obtain ⟨t294, A100, H⟩ := H
    (try dsimp only at H)
    have A10 := z10_A A100
    clear A100
    by_cases c11 : t294 = true
    ·subst c11
     have H1 : (spec_PayFor.j0 k a1 a2 (a0_1 == a0_3) l0_0 a0_1 a0_2 a0_3) = some (r1, r2) := z10_21
     clear H
     have H := H1
     clear H1
     have H' := z10_A H
     clear H
     have hcz12_0 : w5.cell? ⟨gb291, 0, none⟩ = some (.slice A0_0 l0_0.length c0_0) := (blk_cell BK291.out 0).trans rfl
     have hcz12_1 : w5.cell? ⟨gb291, 1, none⟩ = some (.int .i64 a0_1) := (blk_cell BK291.out 1).trans rfl
     have hcz12_2 : w5.cell? ⟨gb291, 2, none⟩ = some (.int .i64 a0_2) := (blk_cell BK291.out 2).trans rfl
     have hcz12_3 : w5.cell? ⟨gb291, 3, none⟩ = some (.int .i64 a0_3) := (blk_cell BK291.out 3).trans rfl
     have hfz12_0 := blk_frozen BK291.out 0
     have hfz12_1 := blk_frozen BK291.out 1
     have hfz12_2 := blk_frozen BK291.out 2
     have hfz12_3 := blk_frozen BK291.out 3
     go_wp2_with (first | ((with_reducible refine gate_callee (f := 67) rfl ?_); refine goesL_ (some 10) rfl rfl Try.func67 z10_19 rfl #[.agg #[.slice A0_0 l0_0.length c0_0, .int .i64 a0_1, .int .i64 a0_2, .int .i64 a0_3]] rfl z10_5 ?_; (with_reducible refine (spec_l10Market.calls k _ _ l0_0 a0_1 a0_2 a0_3 true _ ?side1 ?side2 A6.out).mono ?_); (case side1 => have zh := (Kd.C_below HR0_0.out HB.out); exact z10_C); (case side2 => exact HC0_0.out); rintro e w13 ⟨rfl, hb⟩; refine ⟨_, rfl, ?_⟩; have n0_ := z10_A (blk_below (g := gb291) (o := .cells #[.slice A0_0 l0_0.length c0_0, .int .i64 a0_1, .int .i64 a0_2, .int .i64 a0_3] 30 (0, 0)) z10_10 hb); have n1_ := z10_A (below_step z10_7 hb); clear BK291 HB; revert n0_ n1_; intro BK291 HB; (try clear hb); (try clear hb2); (try clear hk); (try clear hi)) | (go_at_call 83; (with_reducible refine (spec_l1In.calls a1 0 99 true _ A8.out).mono ?_); rintro e w' ⟨rfl, ⟨nd, rfl⟩⟩) | (go_at_call 83; (with_reducible refine (spec_l1In.calls a2 0 100 true _ A10.out).mono ?_); rintro e w' ⟨rfl, ⟨nd, rfl⟩⟩; have hcz14_0 : w13.cell? ⟨gb291, 0, none⟩ = some (.slice A0_0 l0_0.length c0_0) := (blk_cell BK291.out 0).trans rfl; have hcz14_1 : w13.cell? ⟨gb291, 1, none⟩ = some (.int .i64 a0_1) := (blk_cell BK291.out 1).trans rfl; have hcz14_2 : w13.cell? ⟨gb291, 2, none⟩ = some (.int .i64 a0_2) := (blk_cell BK291.out 2).trans rfl; have hcz14_3 : w13.cell? ⟨gb291, 3, none⟩ = some (.int .i64 a0_3) := (blk_cell BK291.out 3).trans rfl; have hfz14_0 := blk_frozen BK291.out 0; have hfz14_1 := blk_frozen BK291.out 1; have hfz14_2 := blk_frozen BK291.out 2; have hfz14_3 := blk_frozen BK291.out 3))
     go_meet
     case rel => exact ⟨_, ((a0_1 == a0_3)), z10_15, H', ⟨z10_22⟩, ⟨z10_10⟩, ⟨z10_7⟩⟩
    ·replace c11 := Bool.eq_false_iff.mpr c11
     subst c11
     have H1 : (spec_PayFor.j0 k a1 a2 true l0_0 a0_1 a0_2 a0_3) = some (r1, r2) := z10_16
     clear H
     have H := H1
     clear H1
     have H' := z10_A H
     clear H
     have hcz15_0 : w5.cell? ⟨gb291, 0, none⟩ = some (.slice A0_0 l0_0.length c0_0) := (blk_cell BK291.out 0).trans rfl
     have hcz15_1 : w5.cell? ⟨gb291, 1, none⟩ = some (.int .i64 a0_1) := (blk_cell BK291.out 1).trans rfl
     have hcz15_2 : w5.cell? ⟨gb291, 2, none⟩ = some (.int .i64 a0_2) := (blk_cell BK291.out 2).trans rfl
     have hcz15_3 : w5.cell? ⟨gb291, 3, none⟩ = some (.int .i64 a0_3) := (blk_cell BK291.out 3).trans rfl
     have hfz15_0 := blk_frozen BK291.out 0
     have hfz15_1 := blk_frozen BK291.out 1
     have hfz15_2 := blk_frozen BK291.out 2
     have hfz15_3 := blk_frozen BK291.out 3
     go_wp2_with (first | ((with_reducible refine gate_callee (f := 67) rfl ?_); refine goesL_ (some 10) rfl rfl Try.func67 z10_19 rfl #[.agg #[.slice A0_0 l0_0.length c0_0, .int .i64 a0_1, .int .i64 a0_2, .int .i64 a0_3]] rfl z10_5 ?_; (with_reducible refine (spec_l10Market.calls k _ _ l0_0 a0_1 a0_2 a0_3 true _ ?side1 ?side2 A6.out).mono ?_); (case side1 => have zh := (Kd.C_below HR0_0.out HB.out); exact z10_C); (case side2 => exact HC0_0.out); rintro e w16 ⟨rfl, hb⟩; refine ⟨_, rfl, ?_⟩; have n0_ := z10_A (blk_below (g := gb291) (o := .cells #[.slice A0_0 l0_0.length c0_0, .int .i64 a0_1, .int .i64 a0_2, .int .i64 a0_3] 30 (0, 0)) z10_10 hb); have n1_ := z10_A (below_step z10_7 hb); clear BK291 HB; revert n0_ n1_; intro BK291 HB; (try clear hb); (try clear hb2); (try clear hk); (try clear hi)) | (go_at_call 83; (with_reducible refine (spec_l1In.calls a1 0 99 true _ A8.out).mono ?_); rintro e w' ⟨rfl, ⟨nd, rfl⟩⟩) | (go_at_call 83; (with_reducible refine (spec_l1In.calls a2 0 100 false _ A10.out).mono ?_); rintro e w' ⟨rfl, ⟨nd, rfl⟩⟩))
     go_meet
     case rel => exact ⟨_, (true), z10_15, H', ⟨z10_22⟩, ⟨z10_10⟩, ⟨z10_7⟩⟩
   ·replace c9 := Bool.eq_false_iff.mpr c9
    subst c9
    have H1 : (spec_PayFor.j0 k a1 a2 true l0_0 a0_1 a0_2 a0_3) = some (r1, r2) := z10_16
    clear H
    have H := H1
    clear H1
    have H' := z10_A H
    clear H
    have hcz17_0 : w5.cell? ⟨gb291, 0, none⟩ = some (.slice A0_0 l0_0.length c0_0) := (blk_cell BK291.out 0).trans rfl
    have hcz17_1 : w5.cell? ⟨gb291, 1, none⟩ = some (.int .i64 a0_1) := (blk_cell BK291.out 1).trans rfl
    have hcz17_2 : w5.cell? ⟨gb291, 2, none⟩ = some (.int .i64 a0_2) := (blk_cell BK291.out 2).trans rfl
    have hcz17_3 : w5.cell? ⟨gb291, 3, none⟩ = some (.int .i64 a0_3) := (blk_cell BK291.out 3).trans rfl
    have hfz17_0 := blk_frozen BK291.out 0
    have hfz17_1 := blk_frozen BK291.out 1
    have hfz17_2 := blk_frozen BK291.out 2
    have hfz17_3 := blk_frozen BK291.out 3
    go_wp2_with (first | ((with_reducible refine gate_callee (f := 67) rfl ?_); refine goesL_ (some 10) rfl rfl Try.func67 z10_19 rfl #[.agg #[.slice A0_0 l0_0.length c0_0, .int .i64 a0_1, .int .i64 a0_2, .int .i64 a0_3]] rfl z10_5 ?_; (with_reducible refine (spec_l10Market.calls k _ _ l0_0 a0_1 a0_2 a0_3 true _ ?side1 ?side2 A6.out).mono ?_); (case side1 => have zh := (Kd.C_below HR0_0.out HB.out); exact z10_C); (case side2 => exact HC0_0.out); rintro e w18 ⟨rfl, hb⟩; refine ⟨_, rfl, ?_⟩; have n0_ := z10_A (blk_below (g := gb291) (o := .cells #[.slice A0_0 l0_0.length c0_0, .int .i64 a0_1, .int .i64 a0_2, .int .i64 a0_3] 30 (0, 0)) z10_10 hb); have n1_ := z10_A (below_step z10_7 hb); clear BK291 HB; revert n0_ n1_; intro BK291 HB; (try clear hb); (try clear hb2); (try clear hk); (try clear hi)) | (go_at_call 83; (with_reducible refine (spec_l1In.calls a1 0 99 false _ A8.out).mono ?_); rintro e w' ⟨rfl, ⟨nd, rfl⟩⟩))
    go_meet
    case rel => exact ⟨_, (true), z10_15, H', ⟨z10_22⟩, ⟨z10_10⟩, ⟨z10_7⟩⟩
  ·replace c7 := Bool.eq_false_iff.mpr c7
   subst c7
   have H1 : (spec_PayFor.j0 k a1 a2 true l0_0 a0_1 a0_2 a0_3) = some (r1, r2) := z10_16
   clear H
   have H := H1
   clear H1
   have H' := z10_A H
   clear H
   have hcz19_0 : w5.cell? ⟨gb291, 0, none⟩ = some (.slice A0_0 l0_0.length c0_0) := (blk_cell BK291.out 0).trans rfl
   have hcz19_1 : w5.cell? ⟨gb291, 1, none⟩ = some (.int .i64 a0_1) := (blk_cell BK291.out 1).trans rfl
   have hcz19_2 : w5.cell? ⟨gb291, 2, none⟩ = some (.int .i64 a0_2) := (blk_cell BK291.out 2).trans rfl
   have hcz19_3 : w5.cell? ⟨gb291, 3, none⟩ = some (.int .i64 a0_3) := (blk_cell BK291.out 3).trans rfl
   have hfz19_0 := blk_frozen BK291.out 0
   have hfz19_1 := blk_frozen BK291.out 1
   have hfz19_2 := blk_frozen BK291.out 2
   have hfz19_3 := blk_frozen BK291.out 3
   go_wp2_with (first | ((with_reducible refine gate_callee (f := 67) rfl ?_); refine goesL_ (some 10) rfl rfl Try.func67 z10_19 rfl #[.agg #[.slice A0_0 l0_0.length c0_0, .int .i64 a0_1, .int .i64 a0_2, .int .i64 a0_3]] rfl z10_5 ?_; (with_reducible refine (spec_l10Market.calls k _ _ l0_0 a0_1 a0_2 a0_3 false _ ?side1 ?side2 A6.out).mono ?_); (case side1 => have zh := (Kd.C_below HR0_0.out HB.out); exact z10_C); (case side2 => exact HC0_0.out); rintro e w20 ⟨rfl, hb⟩; refine ⟨_, rfl, ?_⟩; have n0_ := z10_A (blk_below (g := gb291) (o := .cells #[.slice A0_0 l0_0.length c0_0, .int .i64 a0_1, .int .i64 a0_2, .int .i64 a0_3] 30 (0, 0)) z10_10 hb); have n1_ := z10_A (below_step z10_7 hb); clear BK291 HB; revert n0_ n1_; intro BK291 HB; (try clear hb); (try clear hb2); (try clear hk); (try clear hi)))
   go_meet
   case rel => exact ⟨_, (true), z10_15, H', ⟨z10_22⟩, ⟨z10_10⟩, ⟨z10_7⟩⟩
 case rest =>
  clear HC4
  skip
  obtain ⟨kq, x28_3, rfl, HA, HJ3, BK291, HB⟩ := hcut
  cases kq with
  | zero => exact absurd HA.out (by simp [spec_PayFor.j0])
  | succ kj3 =>
   have H := HA.out
   clear HA
   simp only [spec_PayFor.j0] at H
   by_cases c21 : x28_3 = true
   ·subst c21
    have H1 : (some (0, false)) = some (r1, r2) := z10_21
    clear H
    have H := H1
    clear H1
    simp only [Option.some.injEq, Prod.mk.injEq] at H
    obtain ⟨rfl, rfl⟩ := H
    go_wp2
    go_ret2
    exact ⟨z10_11, z10_7⟩
   ·replace c21 := Bool.eq_false_iff.mpr c21
    subst c21
    have H1 : (spec_PayFor.l0 kj3 a1 a2 0 l0_0 a0_1 a0_2 a0_3) = some (r1, r2) := z10_16
    clear H
    have H := H1
    clear H1
    have H' := z10_A H
    clear H
    go_wp2
    go_loopg [8] kj3 (fun kq v8 w' => ∃ (x8_2 : Int), v8 = .int .i64 x8_2 ∧ Aside0 (spec_PayFor.l0 kq a1 a2 x8_2 l0_0 a0_1 a0_2 a0_3 = some (r1, r2)) ∧ Aside0 (kq ≤ kj3) ∧ Aside0 (w'.heap[gb291]? = some (.cells #[(.slice A0_0 l0_0.length c0_0), .int .i64 a0_1, .int .i64 a0_2, .int .i64 a0_3] 30 (0, 0))) ∧ Aside0 (Below w.heap.size w w'))
    case atStart => exact ⟨(0), z10_15, H', ⟨Nat.le_refl _⟩, ⟨z10_10⟩, ⟨z10_7⟩⟩
    case round =>
     clear H'
     (try clear c2); (try clear c21)
     obtain ⟨x8_2, rfl, HA, HK2, BK291, HB⟩ := hrel
     cases gk with
     | zero => exact absurd HA.out (by simp [spec_PayFor.l0])
     | succ k2 =>
      have H := HA.out
      clear HA
      simp only [spec_PayFor.l0] at H
      by_cases c22 : x8_2 ≤ 99
      ·rw [if_pos c22] at H
       have c22b0 : decide (x8_2 ≤ 99) = true := decide_eq_true c22
       clear c22
       replace H := Option.bind_eq_some_iff.mp H
       obtain ⟨t295, A230, H⟩ := H
       (try dsimp only at H)
       have A23 := z10_A A230
       clear A230
       by_cases c24 : t295 = true
       ·subst c24
        have H1 : (some (x8_2, true)) = some (r1, r2) := z10_21
        clear H
        have H := H1
        clear H1
        simp only [Option.some.injEq, Prod.mk.injEq] at H
        obtain ⟨rfl, rfl⟩ := H
        have hcz25_0 : wr.cell? ⟨gb291, 0, none⟩ = some (.slice A0_0 l0_0.length c0_0) := (blk_cell BK291.out 0).trans rfl
        have hcz25_1 : wr.cell? ⟨gb291, 1, none⟩ = some (.int .i64 a0_1) := (blk_cell BK291.out 1).trans rfl
        have hcz25_2 : wr.cell? ⟨gb291, 2, none⟩ = some (.int .i64 a0_2) := (blk_cell BK291.out 2).trans rfl
        have hcz25_3 : wr.cell? ⟨gb291, 3, none⟩ = some (.int .i64 a0_3) := (blk_cell BK291.out 3).trans rfl
        have hfz25_0 := blk_frozen BK291.out 0
        have hfz25_1 := blk_frozen BK291.out 1
        have hfz25_2 := blk_frozen BK291.out 2
        have hfz25_3 := blk_frozen BK291.out 3
        go_wp2_with (first | ((with_reducible refine gate_callee (f := 70) rfl ?_); refine goesL_ (some 38) rfl rfl Try.func70 z10_19 rfl #[.agg #[.slice A0_0 l0_0.length c0_0, .int .i64 a0_1, .int .i64 a0_2, .int .i64 a0_3], .agg #[.int .i64 x8_2, .int .i64 a1, .int .i64 a2]] rfl z10_5 ?_; (with_reducible refine (spec_l10Proportion.calls _ _ l0_0 a0_1 a0_2 a0_3 x8_2 a1 a2 true _ ?side1 ?side2 A23.out).mono ?_); (case side1 => have zh := (Kd.C_below HR0_0.out HB.out); exact z10_C); (case side2 => exact HC0_0.out); rintro e w26 ⟨rfl, hb⟩; refine ⟨_, rfl, ?_⟩; have n0_ := z10_A (blk_below (g := gb291) (o := .cells #[.slice A0_0 l0_0.length c0_0, .int .i64 a0_1, .int .i64 a0_2, .int .i64 a0_3] 30 (0, 0)) z10_10 hb); have n1_ := z10_A (below_step z10_7 hb); clear BK291 HB; revert n0_ n1_; intro BK291 HB; (try clear hb); (try clear hb2); (try clear hk); (try clear hi)))
        go_ret2
        exact ⟨z10_11, z10_7⟩
       ·replace c24 := Bool.eq_false_iff.mpr c24
        subst c24
        have H1 : (spec_PayFor.l0 k2 a1 a2 (wrap64 (x8_2 + 1)) l0_0 a0_1 a0_2 a0_3) = some (r1, r2) := z10_16
        clear H
        have H := H1
        clear H1
        have H' := z10_A H
        clear H
        have hcz27_0 : wr.cell? ⟨gb291, 0, none⟩ = some (.slice A0_0 l0_0.length c0_0) := (blk_cell BK291.out 0).trans rfl
        have hcz27_1 : wr.cell? ⟨gb291, 1, none⟩ = some (.int .i64 a0_1) := (blk_cell BK291.out 1).trans rfl
        have hcz27_2 : wr.cell? ⟨gb291, 2, none⟩ = some (.int .i64 a0_2) := (blk_cell BK291.out 2).trans rfl
        have hcz27_3 : wr.cell? ⟨gb291, 3, none⟩ = some (.int .i64 a0_3) := (blk_cell BK291.out 3).trans rfl
        have hfz27_0 := blk_frozen BK291.out 0
        have hfz27_1 := blk_frozen BK291.out 1
        have hfz27_2 := blk_frozen BK291.out 2
        have hfz27_3 := blk_frozen BK291.out 3
        go_wp2_with (first | ((with_reducible refine gate_callee (f := 70) rfl ?_); refine goesL_ (some 38) rfl rfl Try.func70 z10_19 rfl #[.agg #[.slice A0_0 l0_0.length c0_0, .int .i64 a0_1, .int .i64 a0_2, .int .i64 a0_3], .agg #[.int .i64 x8_2, .int .i64 a1, .int .i64 a2]] rfl z10_5 ?_; (with_reducible refine (spec_l10Proportion.calls _ _ l0_0 a0_1 a0_2 a0_3 x8_2 a1 a2 false _ ?side1 ?side2 A23.out).mono ?_); (case side1 => have zh := (Kd.C_below HR0_0.out HB.out); exact z10_C); (case side2 => exact HC0_0.out); rintro e w28 ⟨rfl, hb⟩; refine ⟨_, rfl, ?_⟩; have n0_ := z10_A (blk_below (g := gb291) (o := .cells #[.slice A0_0 l0_0.length c0_0, .int .i64 a0_1, .int .i64 a0_2, .int .i64 a0_3] 30 (0, 0)) z10_10 hb); have n1_ := z10_A (below_step z10_7 hb); clear BK291 HB; revert n0_ n1_; intro BK291 HB; (try clear hb); (try clear hb2); (try clear hk); (try clear hi)))
        go_roundg k2
        case measure => have := HJ3.out; have := HK2.out; omega
        case rel => exact ⟨(wrap64 (x8_2 + 1)), z10_15, H', ⟨by have := HJ3.out; have := HK2.out; omega⟩, ⟨z10_10⟩, ⟨z10_7⟩⟩
      ·rw [if_neg c22] at H
       have c22b0 : decide (x8_2 ≤ 99) = false := decide_eq_false c22
       clear c22
       simp only [Option.some.injEq, Prod.mk.injEq] at H
       obtain ⟨rfl, rfl⟩ := H
       go_wp2
       go_ret2
       exact ⟨z10_11, z10_7⟩

/-! ### spec_l1Most: function 108 -/
def spec_l1Most.f (a0 : Int) (a1 : Int) : Option (Int) := if a0 > a1 then (some a0) else (some a1)
set_option maxHeartbeats 8000000 in
set_option maxRecDepth 100000 in
theorem spec_l1Most.calls (a0 : Int) (a1 : Int) (r : Int) (w : World) (h : spec_l1Most.f a0 a1 = some r) :
  Calls Try.prog 108 #[.int .i64 a0, .int .i64 a1] w fun e w' => e = .returned (.int .i64 r) ∧ Drawn0 w w' := by
 have H : (if a0 > a1 then (some a0) else (some a1)) = some r := h
 clear h
 by_cases c3 : a0 > a1
 ·rw [if_pos c3] at H
  have c3b0 : decide (a1 < a0) = true := decide_eq_true c3
  clear c3
  obtain rfl := Option.some.inj H
  go_enter Try.func108, Try.ntmps108
  go_wp2
  go_ret
  exact ⟨z10_15, by repeat (first | exact Drawn0.refl _ | apply Drawn0.step)⟩
 ·rw [if_neg c3] at H
  have c3b0 : decide (a1 < a0) = false := decide_eq_false c3
  clear c3
  obtain rfl := Option.some.inj H
  go_enter Try.func108, Try.ntmps108
  go_wp2
  go_ret
  exact ⟨z10_15, by repeat (first | exact Drawn0.refl _ | apply Drawn0.step)⟩

/-! ### spec_l1Cur_one: function 109 -/
def spec_l1Cur_one.f (s0_0 : List Int) (s0_1 : Int) (s0_2 : Int) (a1 : Int) : Option (Bool × Int × Int) := (spec_l1Cur_pick.f s0_0 s0_1 s0_2 a1).bind fun bt296 => (some ((bt296.1 == 0), bt296.2.1, bt296.2.2))
set_option maxHeartbeats 8000000 in
set_option maxRecDepth 100000 in
theorem spec_l1Cur_one.calls (g : Nat) (s0_0 : List Int) (s0_1 : Int) (s0_2 : Int) (a1 : Int) (r1 : Bool) (r2 : Int) (r3 : Int) (w0 w : World) (hI : IsS82 w0 w g s0_0 s0_1 s0_2) (hB : Below w0.heap.size w0 w) (h : spec_l1Cur_one.f s0_0 s0_1 s0_2 a1 = some (r1, r2, r3)) :
  Calls Try.prog 109 #[.pointer (some ⟨g, 0, none⟩), .int .i64 a1] w fun e w' => e = .returned (.bool r1) ∧ IsS82 w0 w' g s0_0 r2 r3 ∧ Below w0.heap.size w0 w' ∧ KeepBut w w' g none := by
 have HI0 := z10_A hI
 have HK := z10_A (KeepBut.refl w g none)
 have HL := z10_A hB.size
 clear hI
 have HW0 := z10_A hB.size
 have HB := z10_A hB
 clear hB
 have H : ((spec_l1Cur_pick.f s0_0 s0_1 s0_2 a1).bind fun bt296 => (some ((bt296.1 == 0), bt296.2.1, bt296.2.2))) = some (r1, r2, r3) := h
 clear h
 replace H := Option.bind_eq_some_iff.mp H
 obtain ⟨⟨t296, t297, t298⟩, A30, H⟩ := H
 (try dsimp only at H)
 have A3 := z10_A A30
 clear A30
 simp only [Option.some.injEq, Prod.mk.injEq] at H
 obtain ⟨rfl, rfl, rfl⟩ := H
 go_enter Try.func109, Try.ntmps109
 go_wp2_with (first | ((with_reducible refine gate_callee (f := 105) rfl ?_); refine goesL_ (some 7) rfl rfl Try.func105 z10_19 rfl #[.pointer (some ⟨g, 0, none⟩), .int .i64 a1] rfl z10_5 ?_; (with_reducible refine (spec_l1Cur_pick.calls g s0_0 s0_1 s0_2 a1 t296 t297 t298 w0 _ ?side1 ?side2 A3.out).mono ?_); (case side1 => repeat (first | (with_reducible first | exact HI0.out | apply IsS82.alloc | apply IsS82.drewN | apply IsS82.drew | apply IsS82.set_1 | apply IsS82.set_2) | exact HI0.out)); (case side2 => repeat (first | (with_reducible first | exact HB.out | apply below_alloc | apply pw_below_drewN | apply below_drew1 | refine below_set ?_ (IsS82.ge HI0.out)) | exact HB.out)); rintro e w4 ⟨rfl, hi, hb, hk⟩; refine ⟨_, rfl, ?_⟩; have n0_ := z10_A (KeepBut.trans z10_12 hk (.inl rfl)); have n1_ := z10_A (hb); have n2_ := z10_A (hi); clear HK HB HI0; revert n0_ n1_ n2_; intro HK HB HI0; (try clear hb); (try clear hb2); (try clear hk); (try clear hi)))
 go_ret
 exact ⟨z10_11, z10_24, z10_23, z10_12⟩

/-! ### spec_l1Cur_contract: function 90 -/
mutual
def spec_l1Cur_contract.j0 : Nat → Int → Bool → List Int → Int → Int → Int → Int → Int → Option (Int × Int × Int × Int × Int)
 | 0, _, _, _, _, _, _, _, _ => none
 | k + 1, x6, x33, x1000, x1001, x1002, x315000, x315001, x315002 => if x33 = true then (spec_l1Cur_contract.j1 k x1000 x1001 x1002 x6 x315001 x315002) else (spec_l1Cur_contract.j1 k x1000 x1001 x1002 x315000 x315001 x315002)
def spec_l1Cur_contract.j1 : Nat → List Int → Int → Int → Int → Int → Int → Option (Int × Int × Int × Int × Int)
 | 0, _, _, _, _, _, _ => none
 | k + 1, x1000, x1001, x1002, x315000, x315001, x315002 => (spec_l1Cur_pick.f x1000 x1001 x1002 40).bind fun bt320 => (if bt320.1 = 0 then ((spec_l1Cur_among.f x1000 bt320.2.1 bt320.2.2 (([(-1), 99, 100] : List Int))).bind fun bt326 => (some (bt326.1, x315001, x315002, bt326.2.1, bt326.2.2))) else (if bt320.1 = 1 then ((spec_l1Cur_among.f x1000 bt320.2.1 bt320.2.2 (([(-1), 99, 100] : List Int))).bind fun bt332 => (some (x315000, bt332.1, x315002, bt332.2.1, bt332.2.2))) else (if bt320.1 = 2 then ((spec_l1Cur_among.f x1000 bt320.2.1 bt320.2.2 (([(-1), 101] : List Int))).bind fun bt338 => (some (x315000, x315001, bt338.1, bt338.2.1, bt338.2.2))) else (some (x315000, x315001, x315002, bt320.2.1, bt320.2.2)))))
end
def spec_l1Cur_contract.f (k : Nat) (s0_0 : List Int) (s0_1 : Int) (s0_2 : Int) (l1_0 : List Int) (a1_1 : Int) (a1_2 : Int) (a1_3 : Int) : Option (Int × Int × Int × Int × Int) := (spec_l1Most.f a1_1 0).bind fun t301 => ((spec_l1Cur_pick.f s0_0 s0_1 s0_2 (wrap64 (t301 + 2))).bind fun bt302 => ((spec_l1Cur_pick.f s0_0 bt302.2.1 bt302.2.2 6).bind fun bt305 => ((spec_l1Cur_among.f s0_0 bt305.2.1 bt305.2.2 (([100, 100, 80, 50, 0] : List Int))).bind fun bt311 => ((spec_PayFor.f k l1_0 a1_1 a1_2 a1_3 bt305.1 bt311.1).bind fun bt315 => (if bt315.2 = true then ((spec_l1Cur_one.f s0_0 bt311.2.1 bt311.2.2 2).bind fun bt317 => (spec_l1Cur_contract.j0 k bt315.1 bt317.1 s0_0 bt317.2.1 bt317.2.2 bt302.1 bt305.1 bt311.1)) else (spec_l1Cur_contract.j0 k bt315.1 false s0_0 bt311.2.1 bt311.2.2 bt302.1 bt305.1 bt311.1))))))
theorem spec_l1Cur_contract.mono_l : ∀ k, (∀ y0 y1 y2 y3 y4 y5 y6 y7, LeO (spec_l1Cur_contract.j0 k y0 y1 y2 y3 y4 y5 y6 y7) (spec_l1Cur_contract.j0 (k + 1) y0 y1 y2 y3 y4 y5 y6 y7)) ∧ (∀ y0 y1 y2 y3 y4 y5, LeO (spec_l1Cur_contract.j1 k y0 y1 y2 y3 y4 y5) (spec_l1Cur_contract.j1 (k + 1) y0 y1 y2 y3 y4 y5))
 | 0 => ⟨fun _ _ _ _ _ _ _ _ r h => by simp [spec_l1Cur_contract.j0] at h, fun _ _ _ _ _ _ r h => by simp [spec_l1Cur_contract.j1] at h⟩
 | k + 1 => by
  obtain ⟨ih0, ih1⟩ := spec_l1Cur_contract.mono_l k
  refine ⟨?_, ?_⟩
  ·intro y0 y1 y2 y3 y4 y5 y6 y7
   unfold spec_l1Cur_contract.j0
   repeat' first
   | (with_reducible exact ih0 _ _ _ _ _ _ _ _)
   | (with_reducible exact ih1 _ _ _ _ _ _)
   | (with_reducible exact spec_PayFor.mono _ _ _ _ _ _ _)
   | (with_reducible exact LeO.refl _)
   | (with_reducible exact LeO.none _)
   | (with_reducible refine LeO.ite ?_ ?_)
   | (with_reducible refine LeO.bind ?_ (fun _ => ?_))
   | exact ih0 _ _ _ _ _ _ _ _
   | exact ih1 _ _ _ _ _ _
   | exact spec_PayFor.mono _ _ _ _ _ _ _
   | exact LeO.none _
   | refine LeO.ite ?_ ?_
   | refine LeO.bind ?_ (fun _ => ?_)
  ·intro y0 y1 y2 y3 y4 y5
   unfold spec_l1Cur_contract.j1
   repeat' first
   | (with_reducible exact ih0 _ _ _ _ _ _ _ _)
   | (with_reducible exact ih1 _ _ _ _ _ _)
   | (with_reducible exact spec_PayFor.mono _ _ _ _ _ _ _)
   | (with_reducible exact LeO.refl _)
   | (with_reducible exact LeO.none _)
   | (with_reducible refine LeO.ite ?_ ?_)
   | (with_reducible refine LeO.bind ?_ (fun _ => ?_))
   | exact ih0 _ _ _ _ _ _ _ _
   | exact ih1 _ _ _ _ _ _
   | exact spec_PayFor.mono _ _ _ _ _ _ _
   | exact LeO.none _
   | refine LeO.ite ?_ ?_
   | refine LeO.bind ?_ (fun _ => ?_)
theorem spec_l1Cur_contract.mono : ∀ a0 a1 a2 a3 a4 a5 a6 k, LeO (spec_l1Cur_contract.f k a0 a1 a2 a3 a4 a5 a6) (spec_l1Cur_contract.f (k + 1) a0 a1 a2 a3 a4 a5 a6) := by
 intro a0 a1 a2 a3 a4 a5 a6 k
 obtain ⟨ih0, ih1⟩ := spec_l1Cur_contract.mono_l k
 unfold spec_l1Cur_contract.f
 repeat' first
   | (with_reducible exact ih0 _ _ _ _ _ _ _ _)
   | (with_reducible exact ih1 _ _ _ _ _ _)
   | (with_reducible exact spec_PayFor.mono _ _ _ _ _ _ _)
   | (with_reducible exact LeO.refl _)
   | (with_reducible exact LeO.none _)
   | (with_reducible refine LeO.ite ?_ ?_)
   | (with_reducible refine LeO.bind ?_ (fun _ => ?_))
   | exact ih0 _ _ _ _ _ _ _ _
   | exact ih1 _ _ _ _ _ _
   | exact spec_PayFor.mono _ _ _ _ _ _ _
   | exact LeO.none _
   | refine LeO.ite ?_ ?_
   | refine LeO.bind ?_ (fun _ => ?_)
set_option maxHeartbeats 8000000 in
set_option maxRecDepth 100000 in
theorem spec_l1Cur_contract.calls (k : Nat) (g : Nat) (s0_0 : List Int) (s0_1 : Int) (s0_2 : Int) (A1_0 : Option Addr) (c1_0 : Nat) (l1_0 : List Int) (a1_1 : Int) (a1_2 : Int) (a1_3 : Int) (r1 : Int) (r2 : Int) (r3 : Int) (r4 : Int) (r5 : Int) (w0 w : World) (hI : IsS82 w0 w g s0_0 s0_1 s0_2) (hB : Below w0.heap.size w0 w) (hr1_0 : Kd.C (Kd.int .i64) w A1_0 l1_0.length l1_0) (hc1_0 : l1_0.length ≤ c1_0) (hf1_0 : ∀ ad, A1_0 = some ad → 0 < l1_0.length → ad.block ≠ g) (h : spec_l1Cur_contract.f k s0_0 s0_1 s0_2 l1_0 a1_1 a1_2 a1_3 = some (r1, r2, r3, r4, r5)) :
  Calls Try.prog 90 #[.pointer (some ⟨g, 0, none⟩), .agg #[.slice A1_0 l1_0.length c1_0, .int .i64 a1_1, .int .i64 a1_2, .int .i64 a1_3]] w fun e w' => e = .returned (.agg #[.int .i64 r1, .int .i64 r2, .int .i64 r3]) ∧ IsS82 w0 w' g s0_0 r4 r5 ∧ Below w0.heap.size w0 w' ∧ KeepBut w w' g none := by
 have hu30 := Try.underlying30
 have hu32 := Try.underlying32
 have HR1_0 := z10_A hr1_0
 have HC1_0 := z10_A hc1_0
 clear hr1_0 hc1_0
 have HI0 := z10_A hI
 have HK := z10_A (KeepBut.refl w g none)
 have HL := z10_A hB.size
 clear hI
 have HW0 := z10_A hB.size
 have HB := z10_A hB
 clear hB
 have H : ((spec_l1Most.f a1_1 0).bind fun t301 => ((spec_l1Cur_pick.f s0_0 s0_1 s0_2 (wrap64 (t301 + 2))).bind fun bt302 => ((spec_l1Cur_pick.f s0_0 bt302.2.1 bt302.2.2 6).bind fun bt305 => ((spec_l1Cur_among.f s0_0 bt305.2.1 bt305.2.2 (([100, 100, 80, 50, 0] : List Int))).bind fun bt311 => ((spec_PayFor.f k l1_0 a1_1 a1_2 a1_3 bt305.1 bt311.1).bind fun bt315 => (if bt315.2 = true then ((spec_l1Cur_one.f s0_0 bt311.2.1 bt311.2.2 2).bind fun bt317 => (spec_l1Cur_contract.j0 k bt315.1 bt317.1 s0_0 bt317.2.1 bt317.2.2 bt302.1 bt305.1 bt311.1)) else (spec_l1Cur_contract.j0 k bt315.1 false s0_0 bt311.2.1 bt311.2.2 bt302.1 bt305.1 bt311.1))))))) = some (r1, r2, r3, r4, r5) := h
 clear h
 replace H := Option.bind_eq_some_iff.mp H
 obtain ⟨t301, A30, H⟩ := H
 (try dsimp only at H)
 have A3 := z10_A A30
 clear A30
 replace H := Option.bind_eq_some_iff.mp H
 obtain ⟨⟨t302, t303, t304⟩, A40, H⟩ := H
 (try dsimp only at H)
 have A4 := z10_A A40
 clear A40
 replace H := Option.bind_eq_some_iff.mp H
 obtain ⟨⟨t305, t306, t307⟩, A50, H⟩ := H
 (try dsimp only at H)
 have A5 := z10_A A50
 clear A50
 obtain ⟨y308, hy308⟩ : ∃ y_ : List Int, y_ = (([100, 100, 80, 50, 0] : List Int)) := ⟨_, rfl⟩
 replace H : ((spec_l1Cur_among.f s0_0 t306 t307 y308).bind fun bt311 => ((spec_PayFor.f k l1_0 a1_1 a1_2 a1_3 t305 bt311.1).bind fun bt315 => (if bt315.2 = true then ((spec_l1Cur_one.f s0_0 bt311.2.1 bt311.2.2 2).bind fun bt317 => (spec_l1Cur_contract.j0 k bt315.1 bt317.1 s0_0 bt317.2.1 bt317.2.2 t302 t305 bt311.1)) else (spec_l1Cur_contract.j0 k bt315.1 false s0_0 bt311.2.1 bt311.2.2 t302 t305 bt311.1)))) = some (r1, r2, r3, r4, r5) := by first | (rw [hy308]; with_reducible exact H) | (have H2_ := (Option.bind_some _ _).symm.trans H; rw [hy308]; with_reducible exact H2_) | (have H2_ := (Option.bind_some _ _).symm.trans H; with_reducible exact H2_) | with_reducible exact H | (rw [hy308]; exact H) | exact H
 have Ny308 := z10_A hy308
 clear hy308
 replace H := Option.bind_eq_some_iff.mp H
 obtain ⟨⟨t311, t312, t313⟩, A60, H⟩ := H
 (try dsimp only at H)
 have A6 := z10_A A60
 clear A60
 replace H := Option.bind_eq_some_iff.mp H
 obtain ⟨⟨t315, t316⟩, A70, H⟩ := H
 (try dsimp only at H)
 have A7 := z10_A A70
 clear A70
 have HC8 := z10_A H
 clear H
 go_enter Try.func90, Try.ntmps90
 go_upto_region 3 with (first | ((with_reducible refine gate_dst (N := 3) rfl ?_); refine box_event ?hg (N := 3) ?hd (cs := #[.slice A1_0 l1_0.length c1_0, .int .i64 a1_1, .int .i64 a1_2, .int .i64 a1_3]) (t := 30) ?hr ?_; (case hd => rfl); (case hg => rfl); (case hr => first | (go_simp; done) | (go_simp; rfl)); intro gb299 hg w9 hbox hb; have n0_ := z10_A (IsS82.below z10_24 hb); have n1_ := z10_A (KeepBut.trans z10_12 (KeepBut.of_below hb g none) (.inl rfl)); have n2_ := z10_A (below_step z10_23 hb); have n3_ := z10_A (hbox); have n4_ := z10_A ((by rw [hg]; exact (keep_size (w := w) (g := g) (row := none) z10_12) : w.heap.size ≤ gb299)); have n5_ := z10_A ((Nat.le_trans HW0.out (by rw [hg]; exact (keep_size (w := w) (g := g) (row := none) z10_12) : w.heap.size ≤ gb299) : w0.heap.size ≤ gb299)); have n6_ := z10_A ((by rw [hg]; exact Nat.ne_of_lt (IsS82.lt (show IsS82 w0 _ g s0_0 s0_1 s0_2 from by repeat (first | (with_reducible first | exact HI0.out | apply IsS82.alloc | apply IsS82.drewN | apply IsS82.drew | apply IsS82.set_1 | apply IsS82.set_2) | exact HI0.out))) : g ≠ gb299)); have n7_ := z10_A ((by rw [hg]; exact Nat.ne_of_gt (IsS82.lt (show IsS82 w0 _ g s0_0 s0_1 s0_2 from by repeat (first | (with_reducible first | exact HI0.out | apply IsS82.alloc | apply IsS82.drewN | apply IsS82.drew | apply IsS82.set_1 | apply IsS82.set_2) | exact HI0.out))) : gb299 ≠ g)); clear HI0 HK HB; revert n0_ n1_ n2_ n3_ n4_ n5_ n6_ n7_; intro HI0 HK HB BK299 GW299 GE299 NB0_299 NB299_0; clear hb hbox hg) | ((with_reducible refine gate_dst (N := 4) rfl ?_); refine box_event ?hg (N := 4) ?hd (cs := #[.int .i64 0, .int .i64 0, .int .i64 0]) (t := 32) ?hr ?_; (case hd => rfl); (case hg => rfl); (case hr => first | (go_simp; done) | (go_simp; rfl)); intro gb300 hg w10 hbox hb; have n0_ := z10_A (IsS82.below (by repeat (first | (with_reducible first | exact HI0.out | apply IsS82.alloc | apply IsS82.drewN | apply IsS82.drew | apply IsS82.set_1 | apply IsS82.set_2 | refine IsS82.far ?_ NB0_299.out _) | exact HI0.out)) hb); have n1_ := z10_A (blk_below (g := gb299) (o := .cells #[.slice A1_0 l1_0.length c1_0, .int .i64 a1_1, .int .i64 a1_2, .int .i64 a1_3] 30 (0, 0)) z10_3 hb); have n2_ := z10_A (KeepBut.trans z10_17 (KeepBut.of_below hb g none) (.inl rfl)); have n3_ := z10_A (below_step (by repeat (first | (with_reducible first | exact HB.out | apply below_alloc | apply pw_below_drewN | apply below_drew1 | refine below_set ?_ (IsS82.ge HI0.out) | refine below_set ?_ GE299.out) | exact HB.out)) hb); have n4_ := z10_A (hbox); have n5_ := z10_A ((by rw [hg]; exact (keep_size (w := w) (g := g) (row := none) z10_17) : w.heap.size ≤ gb300)); have n6_ := z10_A ((Nat.le_trans HW0.out (by rw [hg]; exact (keep_size (w := w) (g := g) (row := none) z10_17) : w.heap.size ≤ gb300) : w0.heap.size ≤ gb300)); have n7_ := z10_A ((z10_26 : gb299 ≠ gb300)); have n8_ := z10_A ((z10_27 : gb300 ≠ gb299)); have n9_ := z10_A ((by rw [hg]; exact Nat.ne_of_lt (IsS82.lt (show IsS82 w0 _ g s0_0 s0_1 s0_2 from by repeat (first | (with_reducible first | exact HI0.out | apply IsS82.alloc | apply IsS82.drewN | apply IsS82.drew | apply IsS82.set_1 | apply IsS82.set_2 | refine IsS82.far ?_ NB0_299.out _) | exact HI0.out))) : g ≠ gb300)); have n10_ := z10_A ((by rw [hg]; exact Nat.ne_of_gt (IsS82.lt (show IsS82 w0 _ g s0_0 s0_1 s0_2 from by repeat (first | (with_reducible first | exact HI0.out | apply IsS82.alloc | apply IsS82.drewN | apply IsS82.drew | apply IsS82.set_1 | apply IsS82.set_2 | refine IsS82.far ?_ NB0_299.out _) | exact HI0.out))) : gb300 ≠ g)); clear HI0 BK299 HK HB; revert n0_ n1_ n2_ n3_ n4_ n5_ n6_ n7_ n8_ n9_ n10_; intro HI0 BK299 HK HB BK300 GW300 GE300 NB299_300 NB300_299 NB0_300 NB300_0; clear hb hbox hg; have hnb11 := NB299_300.out; have hnc11 := NB300_299.out; have hnb12 := NB299_0.out; have hnc12 := NB0_299.out; have hcz13_0 : w10.cell? ⟨gb299, 0, none⟩ = some (.slice A1_0 l1_0.length c1_0) := (blk_cell BK299.out 0).trans rfl; have hcz13_1 : w10.cell? ⟨gb299, 1, none⟩ = some (.int .i64 a1_1) := (blk_cell BK299.out 1).trans rfl; have hcz13_2 : w10.cell? ⟨gb299, 2, none⟩ = some (.int .i64 a1_2) := (blk_cell BK299.out 2).trans rfl; have hcz13_3 : w10.cell? ⟨gb299, 3, none⟩ = some (.int .i64 a1_3) := (blk_cell BK299.out 3).trans rfl; have hfz13_0 := blk_frozen BK299.out 0; have hfz13_1 := blk_frozen BK299.out 1; have hfz13_2 := blk_frozen BK299.out 2; have hfz13_3 := blk_frozen BK299.out 3) | ((with_reducible refine gate_callee (f := 108) rfl ?_); refine goesL_ (some 11) rfl rfl Try.func108 z10_19 rfl #[.int .i64 a1_1, .int .i64 0] rfl z10_5 ?_; (with_reducible refine (spec_l1Most.calls a1_1 0 t301 _ A3.out).mono ?_); rintro e w' ⟨rfl, ⟨nd, rfl⟩⟩; refine ⟨_, rfl, ?_⟩; (try (rw [drewN_self w10]; generalize hq_ : World.drewN w10 _ = w10; have n0_ : Aside0 (w10.heap[gb299]? = some (.cells #[.slice A1_0 l1_0.length c1_0, .int .i64 a1_1, .int .i64 a1_2, .int .i64 a1_3] 30 (0, 0))) := ⟨by rw [← hq_]; exact z10_3⟩; have n1_ : Aside0 (w10.heap[gb300]? = some (.cells #[.int .i64 0, .int .i64 0, .int .i64 0] 32 (0, 0))) := ⟨by rw [← hq_]; exact z10_6⟩; have n2_ : Aside0 (IsS82 w0 w10 g s0_0 s0_1 s0_2) := ⟨by rw [← hq_]; exact z10_13⟩; have n3_ : Aside0 (KeepBut w w10 g none) := ⟨by rw [← hq_]; exact z10_8⟩; have n4_ : Aside0 (Below w0.heap.size w0 w10) := ⟨by rw [← hq_]; exact z10_14⟩; clear BK299 BK300 HI0 HK HB hq_; revert n0_ n1_ n2_ n3_ n4_; intro BK299 BK300 HI0 HK HB))) | ((with_reducible refine gate_callee (f := 105) rfl ?_); refine goesL_ (some 13) rfl rfl Try.func105 z10_19 rfl #[.pointer (some ⟨g, 0, none⟩), .int .i64 (wrap64 (t301 + 2))] rfl z10_5 ?_; (with_reducible refine (spec_l1Cur_pick.calls g s0_0 s0_1 s0_2 (wrap64 (t301 + 2)) t302 t303 t304 w0 _ ?side1 ?side2 A4.out).mono ?_); (case side1 => repeat (first | (with_reducible first | exact HI0.out | apply IsS82.alloc | apply IsS82.drewN | apply IsS82.drew | apply IsS82.set_1 | apply IsS82.set_2 | refine IsS82.far ?_ NB0_299.out _ | refine IsS82.far ?_ NB0_300.out _) | exact HI0.out)); (case side2 => repeat (first | (with_reducible first | exact HB.out | apply below_alloc | apply pw_below_drewN | apply below_drew1 | refine below_set ?_ (IsS82.ge HI0.out) | refine below_set ?_ GE299.out | refine below_set ?_ GE300.out) | exact HB.out)); rintro e w14 ⟨rfl, hi, hb, hk⟩; refine ⟨_, rfl, ?_⟩; have n0_ := z10_A (KeepBut.blk hk (g' := gb299) (o := .cells #[.slice A1_0 l1_0.length c1_0, .int .i64 a1_1, .int .i64 a1_2, .int .i64 a1_3] 30 (0, 0)) z10_3 NB299_0.out z10_25); have n1_ := z10_A (KeepBut.blk hk (g' := gb300) (o := .cells #[.int .i64 0, .int .i64 0, .int .i64 0] 32 (0, 0)) z10_6 NB300_0.out z10_25); have n2_ := z10_A (KeepBut.trans z10_8 hk (.inl rfl)); have n3_ := z10_A (hb); have n4_ := z10_A (hi); clear BK299 BK300 HK HB HI0; revert n0_ n1_ n2_ n3_ n4_; intro BK299 BK300 HK HB HI0; (try clear hb); (try clear hb2); (try clear hk); (try clear hi)) | ((with_reducible refine gate_callee (f := 105) rfl ?_); refine goesL_ (some 15) rfl rfl Try.func105 z10_19 rfl #[.pointer (some ⟨g, 0, none⟩), .int .i64 6] rfl z10_5 ?_; (with_reducible refine (spec_l1Cur_pick.calls g s0_0 t303 t304 6 t305 t306 t307 w0 _ ?side1 ?side2 A5.out).mono ?_); (case side1 => repeat (first | (with_reducible first | exact HI0.out | apply IsS82.alloc | apply IsS82.drewN | apply IsS82.drew | apply IsS82.set_1 | apply IsS82.set_2 | refine IsS82.far ?_ NB0_299.out _ | refine IsS82.far ?_ NB0_300.out _) | exact HI0.out)); (case side2 => repeat (first | (with_reducible first | exact HB.out | apply below_alloc | apply pw_below_drewN | apply below_drew1 | refine below_set ?_ (IsS82.ge HI0.out) | refine below_set ?_ GE299.out | refine below_set ?_ GE300.out) | exact HB.out)); rintro e w15 ⟨rfl, hi, hb, hk⟩; refine ⟨_, rfl, ?_⟩; have n0_ := z10_A (KeepBut.blk hk (g' := gb299) (o := .cells #[.slice A1_0 l1_0.length c1_0, .int .i64 a1_1, .int .i64 a1_2, .int .i64 a1_3] 30 (0, 0)) z10_3 NB299_0.out z10_25); have n1_ := z10_A (KeepBut.blk hk (g' := gb300) (o := .cells #[.int .i64 0, .int .i64 0, .int .i64 0] 32 (0, 0)) z10_6 NB300_0.out z10_25); have n2_ := z10_A (KeepBut.trans z10_8 hk (.inl rfl)); have n3_ := z10_A (hb); have n4_ := z10_A (hi); clear BK299 BK300 HK HB HI0; revert n0_ n1_ n2_ n3_ n4_; intro BK299 BK300 HK HB HI0; (try clear hb); (try clear hb2); (try clear hk); (try clear hi)) | ((with_reducible refine gate_dst (N := 17) rfl ?_); refine Kd.R_lit (Kd.int .i64) _ 3 ?hg (N := 17) ?hd (xs := ([100, 100, 80, 50, 0] : List Int)) (inner := [.int .i64 100, .int .i64 100, .int .i64 80, .int .i64 50, .int .i64 0]) (ok := fun _ => True) (okp := fun _ => True) ?hr ?hp (fun _ hk => hk) trivial (Below.refl _ _) (Nat.le_refl _) z10_25 ?_; (case hd => rfl); (case hg => rfl); (case hr => first | (go_simp; done) | (go_simp; rfl)); (case hp => exact (Reps.one (show Kd.M (Kd.int .i64) _ _ _ 100 [.int .i64 100] from rfl) (Reps.one (show Kd.M (Kd.int .i64) _ _ _ 100 [.int .i64 100] from rfl) (Reps.one (show Kd.M (Kd.int .i64) _ _ _ 80 [.int .i64 80] from rfl) (Reps.one (show Kd.M (Kd.int .i64) _ _ _ 50 [.int .i64 50] from rfl) (Reps.one (show Kd.M (Kd.int .i64) _ _ _ 0 [.int .i64 0] from rfl) (Reps.none _ _))))))); intro v309 w16 ho17 hb hg_ hnew_; clear hg_ hnew_; (first | rw [← Ny308.out] at ho17 | (simp only [Int.reduceToNat] at ho17; rw [← Ny308.out] at ho17)); have n0_ := z10_A (Kd.R_lower ho17 (keep_size (w := w) (g := g) (row := none) z10_8)); have n1_ := z10_A (IsS82.below z10_13 hb); have n2_ := z10_A (blk_below (g := gb299) (o := .cells #[.slice A1_0 l1_0.length c1_0, .int .i64 a1_1, .int .i64 a1_2, .int .i64 a1_3] 30 (0, 0)) z10_3 hb); have n3_ := z10_A (blk_below (g := gb300) (o := .cells #[.int .i64 0, .int .i64 0, .int .i64 0] 32 (0, 0)) z10_6 hb); have n4_ := z10_A (KeepBut.trans z10_8 (KeepBut.of_below hb g none) (.inl rfl)); have n5_ := z10_A (below_step z10_14 hb); clear HI0 BK299 BK300 HK HB; revert n0_ n1_ n2_ n3_ n4_ n5_; intro HO310 HI0 BK299 BK300 HK HB; clear hb ho17; obtain ⟨Ao18, co18, eo18⟩ := Kd.R_slice HO310.out; subst eo18) | ((with_reducible refine gate_callee (f := 82) rfl ?_); refine goesL_ (some 18) rfl rfl Try.func82 z10_19 rfl #[.pointer (some ⟨g, 0, none⟩), .slice Ao18 y308.length co18] rfl z10_5 ?_; (with_reducible refine (spec_l1Cur_among.calls g s0_0 t306 t307 _ _ y308 t311 t312 t313 w0 _ ?side1 ?side2 ?side3 ?side4 ?side5 A6.out).mono ?_); (case side1 => repeat (first | (with_reducible first | exact HI0.out | apply IsS82.alloc | apply IsS82.drewN | apply IsS82.drew | apply IsS82.set_1 | apply IsS82.set_2 | refine IsS82.far ?_ NB0_299.out _ | refine IsS82.far ?_ NB0_300.out _) | exact HI0.out)); (case side2 => repeat (first | (with_reducible first | exact HB.out | apply below_alloc | apply pw_below_drewN | apply below_drew1 | refine below_set ?_ (IsS82.ge HI0.out) | refine below_set ?_ GE299.out | refine below_set ?_ GE300.out) | exact HB.out)); (case side3 => have zh := (Kd.R_reads' HO310.out).2.2; exact z10_C); (case side4 => exact (Kd.R_reads' HO310.out).2.1); (case side5 => exact far_slice (IsS82.own_ne HI0.out HO310.out (by decide))); rintro e w19 ⟨rfl, hi, hb, hk⟩; refine ⟨_, rfl, ?_⟩; have n0_ := z10_A (KeepBut.blk hk (g' := gb299) (o := .cells #[.slice A1_0 l1_0.length c1_0, .int .i64 a1_1, .int .i64 a1_2, .int .i64 a1_3] 30 (0, 0)) z10_3 NB299_0.out z10_25); have n1_ := z10_A (KeepBut.blk hk (g' := gb300) (o := .cells #[.int .i64 0, .int .i64 0, .int .i64 0] 32 (0, 0)) z10_6 NB300_0.out z10_25); have n2_ := z10_A (Kd.R_mono (Kd.R_keep (IsS82.apart (show IsS82 w0 _ g s0_0 t306 t307 from by repeat (first | (with_reducible first | exact HI0.out | apply IsS82.alloc | apply IsS82.drewN | apply IsS82.drew | apply IsS82.set_1 | apply IsS82.set_2 | refine IsS82.far ?_ NB0_299.out _ | refine IsS82.far ?_ NB0_300.out _) | exact HI0.out)) z10_20 (by decide)) hk (fun _ h => h.2)) (fun _ h => h.1)); have n3_ := z10_A (KeepBut.trans z10_8 hk (.inl rfl)); have n4_ := z10_A (hb); have n5_ := z10_A (hi); clear BK299 BK300 HO310 HK HB HI0; revert n0_ n1_ n2_ n3_ n4_ n5_; intro BK299 BK300 HO310 HK HB HI0; (try clear hb); (try clear hb2); (try clear hk); (try clear hi)) | ((with_reducible refine gate_dst (N := 5) rfl ?_); refine box_event ?hg (N := 5) ?hd (cs := #[.int .i64 0, .int .i64 0, .int .i64 0]) (t := 32) ?hr ?_; (case hd => rfl); (case hg => rfl); (case hr => first | (go_simp; done) | (go_simp; rfl)); intro gb314 hg w20 hbox hb; have n0_ := z10_A (Kd.R_below z10_20 hb); have n1_ := z10_A (IsS82.below z10_13 hb); have n2_ := z10_A (blk_below (g := gb299) (o := .cells #[.slice A1_0 l1_0.length c1_0, .int .i64 a1_1, .int .i64 a1_2, .int .i64 a1_3] 30 (0, 0)) z10_3 hb); have n3_ := z10_A (blk_below (g := gb300) (o := .cells #[.int .i64 0, .int .i64 0, .int .i64 0] 32 (0, 0)) z10_6 hb); have n4_ := z10_A (KeepBut.trans z10_8 (KeepBut.of_below hb g none) (.inl rfl)); have n5_ := z10_A (below_step z10_14 hb); have n6_ := z10_A (hbox); have n7_ := z10_A ((by rw [hg]; exact (keep_size (w := w) (g := g) (row := none) z10_8) : w.heap.size ≤ gb314)); have n8_ := z10_A ((Nat.le_trans HW0.out (by rw [hg]; exact (keep_size (w := w) (g := g) (row := none) z10_8) : w.heap.size ≤ gb314) : w0.heap.size ≤ gb314)); have n9_ := z10_A ((z10_26 : gb299 ≠ gb314)); have n10_ := z10_A ((z10_27 : gb314 ≠ gb299)); have n11_ := z10_A ((by rw [hg]; exact Nat.ne_of_lt (blk_lt (g := gb300) (o := .cells #[.int .i64 0, .int .i64 0, .int .i64 0] 32 (0, 0)) z10_6) : gb300 ≠ gb314)); have n12_ := z10_A ((by rw [hg]; exact Nat.ne_of_gt (blk_lt (g := gb300) (o := .cells #[.int .i64 0, .int .i64 0, .int .i64 0] 32 (0, 0)) z10_6) : gb314 ≠ gb300)); have n13_ := z10_A ((by rw [hg]; exact Nat.ne_of_lt (IsS82.lt (show IsS82 w0 _ g s0_0 t312 t313 from by repeat (first | (with_reducible first | exact HI0.out | apply IsS82.alloc | apply IsS82.drewN | apply IsS82.drew | apply IsS82.set_1 | apply IsS82.set_2 | refine IsS82.far ?_ NB0_299.out _ | refine IsS82.far ?_ NB0_300.out _) | exact HI0.out))) : g ≠ gb314)); have n14_ := z10_A ((by rw [hg]; exact Nat.ne_of_gt (IsS82.lt (show IsS82 w0 _ g s0_0 t312 t313 from by repeat (first | (with_reducible first | exact HI0.out | apply IsS82.alloc | apply IsS82.drewN | apply IsS82.drew | apply IsS82.set_1 | apply IsS82.set_2 | refine IsS82.far ?_ NB0_299.out _ | refine IsS82.far ?_ NB0_300.out _) | exact HI0.out))) : gb314 ≠ g)); clear HO310 HI0 BK299 BK300 HK HB; revert n0_ n1_ n2_ n3_ n4_ n5_ n6_ n7_ n8_ n9_ n10_ n11_ n12_ n13_ n14_; intro HO310 HI0 BK299 BK300 HK HB BK314 GW314 GE314 NB299_314 NB314_299 NB300_314 NB314_300 NB0_314 NB314_0; clear hb hbox hg; have hnb21 := NB314_299.out; have hnc21 := NB299_314.out; have hnb22 := NB314_300.out; have hnc22 := NB300_314.out; have hnb23 := NB314_0.out; have hnc23 := NB0_314.out; have hcz24_0 : w20.cell? ⟨gb314, 0, none⟩ = some (.int .i64 0) := (blk_cell BK314.out 0).trans rfl; have hcz24_1 : w20.cell? ⟨gb314, 1, none⟩ = some (.int .i64 0) := (blk_cell BK314.out 1).trans rfl; have hcz24_2 : w20.cell? ⟨gb314, 2, none⟩ = some (.int .i64 0) := (blk_cell BK314.out 2).trans rfl; have hfz24_0 := blk_frozen BK314.out 0; have hfz24_1 := blk_frozen BK314.out 1; have hfz24_2 := blk_frozen BK314.out 2; have hcz25_0 : w20.cell? ⟨gb299, 0, none⟩ = some (.slice A1_0 l1_0.length c1_0) := (blk_cell BK299.out 0).trans rfl; have hcz25_1 : w20.cell? ⟨gb299, 1, none⟩ = some (.int .i64 a1_1) := (blk_cell BK299.out 1).trans rfl; have hcz25_2 : w20.cell? ⟨gb299, 2, none⟩ = some (.int .i64 a1_2) := (blk_cell BK299.out 2).trans rfl; have hcz25_3 : w20.cell? ⟨gb299, 3, none⟩ = some (.int .i64 a1_3) := (blk_cell BK299.out 3).trans rfl; have hfz25_0 := blk_frozen BK299.out 0; have hfz25_1 := blk_frozen BK299.out 1; have hfz25_2 := blk_frozen BK299.out 2; have hfz25_3 := blk_frozen BK299.out 3) | ((with_reducible refine gate_callee (f := 41) rfl ?_); refine goesL_ (some 26) rfl rfl Try.func41 z10_19 rfl #[.agg #[.slice A1_0 l1_0.length c1_0, .int .i64 a1_1, .int .i64 a1_2, .int .i64 a1_3], .int .i64 t305, .int .i64 t311] rfl z10_5 ?_; (with_reducible refine (spec_PayFor.calls k _ _ l1_0 a1_1 a1_2 a1_3 t305 t311 t315 t316 _ ?side1 ?side2 A7.out).mono ?_); (case side1 => exact Kd.C_keep 0 HR1_0.out z10_1 hf1_0); (case side2 => exact HC1_0.out); rintro e w26 ⟨rfl, hb⟩; refine ⟨_, rfl, ?_⟩; have n0_ := z10_A (Kd.R_below (by (with_reducible repeat (first | apply Kd.R_alloc | apply Kd.R_drewN | apply Kd.R_drew)); exact (Kd.R_mono (Kd.R_far (p := ⟨gb314, 2, none⟩) (Kd.R_far (p := ⟨gb314, 1, none⟩) (Kd.R_far (p := ⟨gb314, 0, none⟩) (Kd.R_types HO310.out BK314.out (by decide)) (fun _ hk => hk.2) (.int .i64 t302)) (fun _ hk => hk.2) (.int .i64 t305)) (fun _ hk => hk.2) (.int .i64 t311)) (fun _ h_ => h_.1))) hb); have n1_ := z10_A (IsS82.below (show IsS82 w0 (((w20.setCell ⟨gb314, 0, none⟩ (.int .i64 t302)).setCell ⟨gb314, 1, none⟩ (.int .i64 t305)).setCell ⟨gb314, 2, none⟩ (.int .i64 t311)) g s0_0 t312 t313 from by repeat (first | (with_reducible first | exact HI0.out | apply IsS82.alloc | apply IsS82.drewN | apply IsS82.drew | apply IsS82.set_1 | apply IsS82.set_2 | refine IsS82.far ?_ NB0_299.out _ | refine IsS82.far ?_ NB0_300.out _ | refine IsS82.far ?_ NB0_314.out _) | exact HI0.out)) hb); have n2_ := z10_A (blk_below (g := gb299) (o := .cells #[.slice A1_0 l1_0.length c1_0, .int .i64 a1_1, .int .i64 a1_2, .int .i64 a1_3] 30 (0, 0)) (by (with_reducible repeat (first | refine blk_drewN ?_ _ | refine blk_drew ?_ | refine blk_alloc ?_ _)); refine blk_far ?_ NB299_314.out _; (with_reducible repeat (first | refine blk_drewN ?_ _ | refine blk_drew ?_ | refine blk_alloc ?_ _)); refine blk_far ?_ NB299_314.out _; (with_reducible repeat (first | refine blk_drewN ?_ _ | refine blk_drew ?_ | refine blk_alloc ?_ _)); refine blk_far ?_ NB299_314.out _; (with_reducible repeat (first | refine blk_drewN ?_ _ | refine blk_drew ?_ | refine blk_alloc ?_ _)); exact BK299.out) hb); have n3_ := z10_A (blk_below (g := gb300) (o := .cells #[.int .i64 0, .int .i64 0, .int .i64 0] 32 (0, 0)) (by (with_reducible repeat (first | refine blk_drewN ?_ _ | refine blk_drew ?_ | refine blk_alloc ?_ _)); refine blk_far ?_ NB300_314.out _; (with_reducible repeat (first | refine blk_drewN ?_ _ | refine blk_drew ?_ | refine blk_alloc ?_ _)); refine blk_far ?_ NB300_314.out _; (with_reducible repeat (first | refine blk_drewN ?_ _ | refine blk_drew ?_ | refine blk_alloc ?_ _)); refine blk_far ?_ NB300_314.out _; (with_reducible repeat (first | refine blk_drewN ?_ _ | refine blk_drew ?_ | refine blk_alloc ?_ _)); exact BK300.out) hb); have n4_ := z10_A (blk_below (g := gb314) (o := .cells #[.int .i64 t302, .int .i64 t305, .int .i64 t311] 32 (0, 0)) (by (with_reducible repeat (first | refine blk_drewN ?_ _ | refine blk_drew ?_ | refine blk_alloc ?_ _)); refine blk_put (cs := #[.int .i64 t302, .int .i64 t305, .int .i64 0]) ?_ 2 _ rfl; (with_reducible repeat (first | refine blk_drewN ?_ _ | refine blk_drew ?_ | refine blk_alloc ?_ _)); refine blk_put (cs := #[.int .i64 t302, .int .i64 0, .int .i64 0]) ?_ 1 _ rfl; (with_reducible repeat (first | refine blk_drewN ?_ _ | refine blk_drew ?_ | refine blk_alloc ?_ _)); refine blk_put (cs := #[.int .i64 0, .int .i64 0, .int .i64 0]) ?_ 0 _ rfl; (with_reducible repeat (first | refine blk_drewN ?_ _ | refine blk_drew ?_ | refine blk_alloc ?_ _)); exact BK314.out) hb); have n5_ := z10_A (KeepBut.trans z10_1 (KeepBut.of_below hb g none) (.inl rfl)); have n6_ := z10_A (below_step z10_2 hb); clear HO310 HI0 BK299 BK300 BK314 HK HB; revert n0_ n1_ n2_ n3_ n4_ n5_ n6_; intro HO310 HI0 BK299 BK300 BK314 HK HB; (try clear hb); (try clear hb2); (try clear hk); (try clear hi)))
 (try simp only [Act.put, List.setIfInBounds_toArray, List.set_cons_zero, List.set_cons_succ])
 go_cut [33] (fun v33 wc => ∃ (kq : Nat) (x33_7 : Bool) (x1001_7 : Int) (x1002_7 : Int), v33 = .bool x33_7 ∧ Aside0 (spec_l1Cur_contract.j0 kq t315 x33_7 s0_0 x1001_7 x1002_7 t302 t305 t311 = some (r1, r2, r3, r4, r5)) ∧ Aside0 (kq ≤ k) ∧ Aside0 (wc.heap[gb299]? = some (.cells #[(.slice A1_0 l1_0.length c1_0), .int .i64 a1_1, .int .i64 a1_2, .int .i64 a1_3] 30 (0, 0))) ∧ Aside0 (wc.heap[gb300]? = some (.cells #[.int .i64 0, .int .i64 0, .int .i64 0] 32 (0, 0))) ∧ Aside0 (wc.heap[gb314]? = some (.cells #[.int .i64 t302, .int .i64 t305, .int .i64 t311] 32 (0, 0))) ∧ Aside0 (IsS82 w0 wc g s0_0 x1001_7 x1002_7) ∧ Aside0 (KeepBut w wc g none) ∧ Aside0 (Below w0.heap.size w0 wc))
 case first =>
  have H := HC8.out
  clear HC8
  by_cases c27 : t316 = true
  ·subst c27
   have H1 : ((spec_l1Cur_one.f s0_0 t312 t313 2).bind fun bt317 => (spec_l1Cur_contract.j0 k t315 bt317.1 s0_0 bt317.2.1 bt317.2.2 t302 t305 t311)) = some (r1, r2, r3, r4, r5) := z10_21
   clear H
   have H := H1
   clear H1
   replace H := Option.bind_eq_some_iff.mp H
   obtain ⟨⟨t317, t318, t319⟩, A280, H⟩ := H
   (try dsimp only at H)
   have A28 := z10_A A280
   clear A280
   have H' := z10_A H
   clear H
   go_wp2_with (first | (go_at_call 109; (with_reducible refine (spec_l1Cur_one.calls g s0_0 t312 t313 2 t317 t318 t319 w0 _ ?side1 ?side2 A28.out).mono ?_); (case side1 => repeat (first | (with_reducible first | exact HI0.out | apply IsS82.alloc | apply IsS82.drewN | apply IsS82.drew | apply IsS82.set_1 | apply IsS82.set_2 | refine IsS82.far ?_ NB0_299.out _ | refine IsS82.far ?_ NB0_300.out _ | refine IsS82.far ?_ NB0_314.out _) | exact HI0.out)); (case side2 => repeat (first | (with_reducible first | exact HB.out | apply below_alloc | apply pw_below_drewN | apply below_drew1 | refine below_set ?_ (IsS82.ge HI0.out) | refine below_set ?_ GE299.out | refine below_set ?_ GE300.out | refine below_set ?_ GE314.out) | exact HB.out)); rintro e w29 ⟨rfl, hi, hb, hk⟩; have n0_ := z10_A (KeepBut.blk hk (g' := gb299) (o := .cells #[.slice A1_0 l1_0.length c1_0, .int .i64 a1_1, .int .i64 a1_2, .int .i64 a1_3] 30 (0, 0)) z10_3 NB299_0.out z10_25); have n1_ := z10_A (KeepBut.blk hk (g' := gb300) (o := .cells #[.int .i64 0, .int .i64 0, .int .i64 0] 32 (0, 0)) z10_6 NB300_0.out z10_25); have n2_ := z10_A (Kd.R_mono (Kd.R_keep (IsS82.apart (show IsS82 w0 _ g s0_0 t312 t313 from by repeat (first | (with_reducible first | exact HI0.out | apply IsS82.alloc | apply IsS82.drewN | apply IsS82.drew | apply IsS82.set_1 | apply IsS82.set_2 | refine IsS82.far ?_ NB0_299.out _ | refine IsS82.far ?_ NB0_300.out _ | refine IsS82.far ?_ NB0_314.out _) | exact HI0.out)) z10_20 (by decide)) hk (fun _ h => h.2)) (fun _ h => h.1)); have n3_ := z10_A (KeepBut.blk hk (g' := gb314) (o := .cells #[.int .i64 t302, .int .i64 t305, .int .i64 t311] 32 (0, 0)) z10_9 NB314_0.out z10_25); have n4_ := z10_A (KeepBut.trans z10_1 hk (.inl rfl)); have n5_ := z10_A (hb); have n6_ := z10_A (hi); clear BK299 BK300 HO310 BK314 HK HB HI0; revert n0_ n1_ n2_ n3_ n4_ n5_ n6_; intro BK299 BK300 HO310 BK314 HK HB HI0; (try clear hb); (try clear hb2); (try clear hk); (try clear hi)))
   go_meet
   case rel => exact ⟨_, (t317), (t318), (t319), z10_15, H', ⟨z10_22⟩, ⟨z10_3⟩, ⟨z10_6⟩, ⟨z10_9⟩, ⟨z10_4⟩, ⟨z10_1⟩, ⟨z10_2⟩⟩
  ·replace c27 := Bool.eq_false_iff.mpr c27
   subst c27
   have H1 : (spec_l1Cur_contract.j0 k t315 false s0_0 t312 t313 t302 t305 t311) = some (r1, r2, r3, r4, r5) := z10_16
   clear H
   have H := H1
   clear H1
   have H' := z10_A H
   clear H
   go_wp2
   go_meet
   case rel => exact ⟨_, (false), (t312), (t313), z10_15, H', ⟨z10_22⟩, ⟨z10_3⟩, ⟨z10_6⟩, ⟨z10_9⟩, ⟨z10_4⟩, ⟨z10_1⟩, ⟨z10_2⟩⟩
 case rest =>
  clear HC8
  (try clear hcz13_0); (try clear hcz13_1); (try clear hcz13_2); (try clear hcz13_3); (try clear hcz24_0); (try clear hcz24_1); (try clear hcz24_2); (try clear hcz25_0); (try clear hcz25_1); (try clear hcz25_2); (try clear hcz25_3); (try clear hfz13_0); (try clear hfz13_1); (try clear hfz13_2); (try clear hfz13_3); (try clear hfz24_0); (try clear hfz24_1); (try clear hfz24_2); (try clear hfz25_0); (try clear hfz25_1); (try clear hfz25_2); (try clear hfz25_3)
  obtain ⟨kq, x33_7, x1001_7, x1002_7, rfl, HA, HJ7, BK299, BK300, BK314, HI0, HK, HB⟩ := hcut
  cases kq with
  | zero => exact absurd HA.out (by simp [spec_l1Cur_contract.j0])
  | succ kj7 =>
   have H := HA.out
   clear HA
   simp only [spec_l1Cur_contract.j0] at H
   have HC30 := z10_A H
   clear H
   go_upto_if 33 with (fail)
   go_cut [] (fun wc => ∃ (kq : Nat) (x315000_29 : Int), Aside0 (spec_l1Cur_contract.j1 kq s0_0 x1001_7 x1002_7 x315000_29 t305 t311 = some (r1, r2, r3, r4, r5)) ∧ Aside0 (kq ≤ kj7) ∧ Aside0 (wc.heap[gb299]? = some (.cells #[(.slice A1_0 l1_0.length c1_0), .int .i64 a1_1, .int .i64 a1_2, .int .i64 a1_3] 30 (0, 0))) ∧ Aside0 (wc.heap[gb300]? = some (.cells #[.int .i64 0, .int .i64 0, .int .i64 0] 32 (0, 0))) ∧ Aside0 (wc.heap[gb314]? = some (.cells #[.int .i64 x315000_29, .int .i64 t305, .int .i64 t311] 32 (0, 0))) ∧ Aside0 (IsS82 w0 wc g s0_0 x1001_7 x1002_7) ∧ Aside0 (KeepBut w wc g none) ∧ Aside0 (Below w0.heap.size w0 wc))
   case first =>
    have H := HC30.out
    clear HC30
    by_cases c31 : x33_7 = true
    ·subst c31
     have H1 : (spec_l1Cur_contract.j1 kj7 s0_0 x1001_7 x1002_7 t315 t305 t311) = some (r1, r2, r3, r4, r5) := z10_21
     clear H
     have H := H1
     clear H1
     have H' := z10_A H
     clear H
     have hnb32 := NB314_299.out
     have hnc32 := NB299_314.out
     have hnb33 := NB314_300.out
     have hnc33 := NB300_314.out
     have hnb34 := NB314_0.out
     have hnc34 := NB0_314.out
     have hcz35_0 : wc.cell? ⟨gb314, 0, none⟩ = some (.int .i64 t302) := (blk_cell BK314.out 0).trans rfl
     have hcz35_1 : wc.cell? ⟨gb314, 1, none⟩ = some (.int .i64 t305) := (blk_cell BK314.out 1).trans rfl
     have hcz35_2 : wc.cell? ⟨gb314, 2, none⟩ = some (.int .i64 t311) := (blk_cell BK314.out 2).trans rfl
     have hfz35_0 := blk_frozen BK314.out 0
     have hfz35_1 := blk_frozen BK314.out 1
     have hfz35_2 := blk_frozen BK314.out 2
     go_wp2
     go_meet
     case rel => exact ⟨_, (t315), H', ⟨by have := HJ7.out; first | omega | exact Nat.le_refl _⟩, ⟨by (with_reducible repeat (first | refine blk_drewN ?_ _ | refine blk_drew ?_ | refine blk_alloc ?_ _)); refine blk_far ?_ NB299_314.out _; (with_reducible repeat (first | refine blk_drewN ?_ _ | refine blk_drew ?_ | refine blk_alloc ?_ _)); exact BK299.out⟩, ⟨by (with_reducible repeat (first | refine blk_drewN ?_ _ | refine blk_drew ?_ | refine blk_alloc ?_ _)); refine blk_far ?_ NB300_314.out _; (with_reducible repeat (first | refine blk_drewN ?_ _ | refine blk_drew ?_ | refine blk_alloc ?_ _)); exact BK300.out⟩, ⟨by (with_reducible repeat (first | refine blk_drewN ?_ _ | refine blk_drew ?_ | refine blk_alloc ?_ _)); refine blk_put (cs := #[.int .i64 t302, .int .i64 t305, .int .i64 t311]) ?_ 0 _ rfl; (with_reducible repeat (first | refine blk_drewN ?_ _ | refine blk_drew ?_ | refine blk_alloc ?_ _)); exact BK314.out⟩, ⟨z10_4⟩, ⟨z10_1⟩, ⟨z10_2⟩⟩
    ·replace c31 := Bool.eq_false_iff.mpr c31
     subst c31
     have H1 : (spec_l1Cur_contract.j1 kj7 s0_0 x1001_7 x1002_7 t302 t305 t311) = some (r1, r2, r3, r4, r5) := z10_16
     clear H
     have H := H1
     clear H1
     have H' := z10_A H
     clear H
     go_wp2
     go_meet
     case rel => exact ⟨_, (t302), H', ⟨by have := HJ7.out; first | omega | exact Nat.le_refl _⟩, ⟨z10_3⟩, ⟨z10_6⟩, ⟨z10_9⟩, ⟨z10_4⟩, ⟨z10_1⟩, ⟨z10_2⟩⟩
   case rest =>
    clear HC30
    (try clear c3); (try clear c31); (try clear c32); (try clear c33); (try clear c34); (try clear hcz35_0); (try clear hcz35_1); (try clear hcz35_2); (try clear hfz35_0); (try clear hfz35_1); (try clear hfz35_2)
    obtain ⟨kq, x315000_29, HA, HJ29, BK299, BK300, BK314, HI0, HK, HB⟩ := hcut
    cases kq with
    | zero => exact absurd HA.out (by simp [spec_l1Cur_contract.j1])
    | succ kj29 =>
     have H := HA.out
     clear HA
     simp only [spec_l1Cur_contract.j1] at H
     replace H := Option.bind_eq_some_iff.mp H
     obtain ⟨⟨t320, t321, t322⟩, A360, H⟩ := H
     (try dsimp only at H)
     have A36 := z10_A A360
     clear A360
     by_cases c37 : t320 = 0
     ·rw [if_pos c37] at H
      have c37b0 : (t320 == 0) = true := beq_iff_eq.mpr c37
      have c37b1 : (t320 != 0) = false := bne_eq_false_iff_eq.mpr c37
      clear c37
      obtain ⟨y323, hy323⟩ : ∃ y_ : List Int, y_ = (([(-1), 99, 100] : List Int)) := ⟨_, rfl⟩
      replace H : ((spec_l1Cur_among.f s0_0 t321 t322 y323).bind fun bt326 => (some (bt326.1, t305, t311, bt326.2.1, bt326.2.2))) = some (r1, r2, r3, r4, r5) := by first | (rw [hy323]; with_reducible exact H) | (have H2_ := (Option.bind_some _ _).symm.trans H; rw [hy323]; with_reducible exact H2_) | (have H2_ := (Option.bind_some _ _).symm.trans H; with_reducible exact H2_) | with_reducible exact H | (rw [hy323]; exact H) | exact H
      have Ny323 := z10_A hy323
      clear hy323
      replace H := Option.bind_eq_some_iff.mp H
      obtain ⟨⟨t326, t327, t328⟩, A380, H⟩ := H
      (try dsimp only at H)
      have A38 := z10_A A380
      clear A380
      simp only [Option.some.injEq, Prod.mk.injEq] at H
      obtain ⟨rfl, rfl, rfl, rfl, rfl⟩ := H
      go_wp2_with (first | ((with_reducible refine gate_callee (f := 105) rfl ?_); refine goesL_ (some 37) rfl rfl Try.func105 z10_19 rfl #[.pointer (some ⟨g, 0, none⟩), .int .i64 40] rfl z10_5 ?_; (with_reducible refine (spec_l1Cur_pick.calls g s0_0 x1001_7 x1002_7 40 t320 t321 t322 w0 _ ?side1 ?side2 A36.out).mono ?_); (case side1 => repeat (first | (with_reducible first | exact HI0.out | apply IsS82.alloc | apply IsS82.drewN | apply IsS82.drew | apply IsS82.set_1 | apply IsS82.set_2 | refine IsS82.far ?_ NB0_299.out _ | refine IsS82.far ?_ NB0_300.out _ | refine IsS82.far ?_ NB0_314.out _) | exact HI0.out)); (case side2 => repeat (first | (with_reducible first | exact HB.out | apply below_alloc | apply pw_below_drewN | apply below_drew1 | refine below_set ?_ (IsS82.ge HI0.out) | refine below_set ?_ GE299.out | refine below_set ?_ GE300.out | refine below_set ?_ GE314.out) | exact HB.out)); rintro e w39 ⟨rfl, hi, hb, hk⟩; refine ⟨_, rfl, ?_⟩; have n0_ := z10_A (KeepBut.blk hk (g' := gb299) (o := .cells #[.slice A1_0 l1_0.length c1_0, .int .i64 a1_1, .int .i64 a1_2, .int .i64 a1_3] 30 (0, 0)) z10_3 NB299_0.out z10_25); have n1_ := z10_A (KeepBut.blk hk (g' := gb300) (o := .cells #[.int .i64 0, .int .i64 0, .int .i64 0] 32 (0, 0)) z10_6 NB300_0.out z10_25); have n2_ := z10_A (KeepBut.blk hk (g' := gb314) (o := .cells #[.int .i64 x315000_29, .int .i64 t305, .int .i64 t311] 32 (0, 0)) z10_9 NB314_0.out z10_25); have n3_ := z10_A (KeepBut.trans z10_1 hk (.inl rfl)); have n4_ := z10_A (hb); have n5_ := z10_A (hi); clear BK299 BK300 BK314 HK HB HI0; revert n0_ n1_ n2_ n3_ n4_ n5_; intro BK299 BK300 BK314 HK HB HI0; (try clear hb); (try clear hb2); (try clear hk); (try clear hi)) | ((with_reducible refine gate_dst (N := 41) rfl ?_); refine Kd.R_lit (Kd.int .i64) _ 3 ?hg (N := 41) ?hd (xs := ([(-1), 99, 100] : List Int)) (inner := [.int .i64 (-1), .int .i64 99, .int .i64 100]) (ok := fun _ => True) (okp := fun _ => True) ?hr ?hp (fun _ hk => hk) trivial (Below.refl _ _) (Nat.le_refl _) z10_25 ?_; (case hd => rfl); (case hg => rfl); (case hr => first | (go_simp; done) | (go_simp; rfl)); (case hp => exact (Reps.one (show Kd.M (Kd.int .i64) _ _ _ (-1) [.int .i64 (-1)] from rfl) (Reps.one (show Kd.M (Kd.int .i64) _ _ _ 99 [.int .i64 99] from rfl) (Reps.one (show Kd.M (Kd.int .i64) _ _ _ 100 [.int .i64 100] from rfl) (Reps.none _ _))))); intro v324 w40 ho41 hb hg_ hnew_; clear hg_ hnew_; (first | rw [← Ny323.out] at ho41 | (simp only [Int.reduceToNat] at ho41; rw [← Ny323.out] at ho41)); have n0_ := z10_A (Kd.R_lower ho41 (keep_size (w := w) (g := g) (row := none) z10_1)); have n1_ := z10_A (blk_below (g := gb299) (o := .cells #[.slice A1_0 l1_0.length c1_0, .int .i64 a1_1, .int .i64 a1_2, .int .i64 a1_3] 30 (0, 0)) z10_3 hb); have n2_ := z10_A (blk_below (g := gb300) (o := .cells #[.int .i64 0, .int .i64 0, .int .i64 0] 32 (0, 0)) z10_6 hb); have n3_ := z10_A (blk_below (g := gb314) (o := .cells #[.int .i64 x315000_29, .int .i64 t305, .int .i64 t311] 32 (0, 0)) z10_9 hb); have n4_ := z10_A (IsS82.below z10_4 hb); have n5_ := z10_A (KeepBut.trans z10_1 (KeepBut.of_below hb g none) (.inl rfl)); have n6_ := z10_A (below_step z10_2 hb); clear BK299 BK300 BK314 HI0 HK HB; revert n0_ n1_ n2_ n3_ n4_ n5_ n6_; intro HO325 BK299 BK300 BK314 HI0 HK HB; clear hb ho41; obtain ⟨Ao42, co42, eo42⟩ := Kd.R_slice HO325.out; subst eo42) | ((with_reducible refine gate_callee (f := 82) rfl ?_); refine goesL_ (some 42) rfl rfl Try.func82 z10_19 rfl #[.pointer (some ⟨g, 0, none⟩), .slice Ao42 y323.length co42] rfl z10_5 ?_; (with_reducible refine (spec_l1Cur_among.calls g s0_0 t321 t322 _ _ y323 t326 t327 t328 w0 _ ?side1 ?side2 ?side3 ?side4 ?side5 A38.out).mono ?_); (case side1 => repeat (first | (with_reducible first | exact HI0.out | apply IsS82.alloc | apply IsS82.drewN | apply IsS82.drew | apply IsS82.set_1 | apply IsS82.set_2 | refine IsS82.far ?_ NB0_299.out _ | refine IsS82.far ?_ NB0_300.out _ | refine IsS82.far ?_ NB0_314.out _) | exact HI0.out)); (case side2 => repeat (first | (with_reducible first | exact HB.out | apply below_alloc | apply pw_below_drewN | apply below_drew1 | refine below_set ?_ (IsS82.ge HI0.out) | refine below_set ?_ GE299.out | refine below_set ?_ GE300.out | refine below_set ?_ GE314.out) | exact HB.out)); (case side3 => have zh := (Kd.R_reads' HO325.out).2.2; exact z10_C); (case side4 => exact (Kd.R_reads' HO325.out).2.1); (case side5 => exact far_slice (IsS82.own_ne HI0.out HO325.out (by decide))); rintro e w43 ⟨rfl, hi, hb, hk⟩; refine ⟨_, rfl, ?_⟩; have n0_ := z10_A (KeepBut.blk hk (g' := gb299) (o := .cells #[.slice A1_0 l1_0.length c1_0, .int .i64 a1_1, .int .i64 a1_2, .int .i64 a1_3] 30 (0, 0)) z10_3 NB299_0.out z10_25); have n1_ := z10_A (KeepBut.blk hk (g' := gb300) (o := .cells #[.int .i64 0, .int .i64 0, .int .i64 0] 32 (0, 0)) z10_6 NB300_0.out z10_25); have n2_ := z10_A (KeepBut.blk hk (g' := gb314) (o := .cells #[.int .i64 x315000_29, .int .i64 t305, .int .i64 t311] 32 (0, 0)) z10_9 NB314_0.out z10_25); have n3_ := z10_A (Kd.R_mono (Kd.R_keep (IsS82.apart (show IsS82 w0 _ g s0_0 t321 t322 from by repeat (first | (with_reducible first | exact HI0.out | apply IsS82.alloc | apply IsS82.drewN | apply IsS82.drew | apply IsS82.set_1 | apply IsS82.set_2 | refine IsS82.far ?_ NB0_299.out _ | refine IsS82.far ?_ NB0_300.out _ | refine IsS82.far ?_ NB0_314.out _) | exact HI0.out)) (by (with_reducible repeat (first | apply Kd.R_alloc | apply Kd.R_drewN | apply Kd.R_drew)); exact HO325.out) (by decide)) hk (fun _ h => h.2)) (fun _ h => h.1)); have n4_ := z10_A (KeepBut.trans z10_1 hk (.inl rfl)); have n5_ := z10_A (hb); have n6_ := z10_A (hi); clear BK299 BK300 BK314 HO325 HK HB HI0; revert n0_ n1_ n2_ n3_ n4_ n5_ n6_; intro BK299 BK300 BK314 HO325 HK HB HI0; (try clear hb); (try clear hb2); (try clear hk); (try clear hi); have hnb44 := NB314_299.out; have hnc44 := NB299_314.out; have hnb45 := NB314_300.out; have hnc45 := NB300_314.out; have hnb46 := NB314_0.out; have hnc46 := NB0_314.out; have hcz47_0 : w43.cell? ⟨gb314, 0, none⟩ = some (.int .i64 x315000_29) := (blk_cell BK314.out 0).trans rfl; have hcz47_1 : w43.cell? ⟨gb314, 1, none⟩ = some (.int .i64 t305) := (blk_cell BK314.out 1).trans rfl; have hcz47_2 : w43.cell? ⟨gb314, 2, none⟩ = some (.int .i64 t311) := (blk_cell BK314.out 2).trans rfl; have hfz47_0 := blk_frozen BK314.out 0; have hfz47_1 := blk_frozen BK314.out 1; have hfz47_2 := blk_frozen BK314.out 2; have hnb48 := NB300_299.out; have hnc48 := NB299_300.out; have hnb49 := NB300_0.out; have hnc49 := NB0_300.out; have hcz50_0 : w43.cell? ⟨gb300, 0, none⟩ = some (.int .i64 0) := (blk_cell BK300.out 0).trans rfl; have hcz50_1 : w43.cell? ⟨gb300, 1, none⟩ = some (.int .i64 0) := (blk_cell BK300.out 1).trans rfl; have hcz50_2 : w43.cell? ⟨gb300, 2, none⟩ = some (.int .i64 0) := (blk_cell BK300.out 2).trans rfl; have hfz50_0 := blk_frozen BK300.out 0; have hfz50_1 := blk_frozen BK300.out 1; have hfz50_2 := blk_frozen BK300.out 2))
      refine bodyPost_ret (results_cell_row rfl _ _ gb300 32 #[.int .i64 t326, .int .i64 t305, .int .i64 t311] (0, 0) _ rfl (by (with_reducible repeat (first | refine blk_drewN ?_ _ | refine blk_drew ?_ | refine blk_alloc ?_ _)); refine blk_put (cs := #[.int .i64 t326, .int .i64 t305, .int .i64 0]) ?_ 2 _ rfl; (with_reducible repeat (first | refine blk_drewN ?_ _ | refine blk_drew ?_ | refine blk_alloc ?_ _)); refine blk_put (cs := #[.int .i64 t326, .int .i64 0, .int .i64 0]) ?_ 1 _ rfl; (with_reducible repeat (first | refine blk_drewN ?_ _ | refine blk_drew ?_ | refine blk_alloc ?_ _)); refine blk_put (cs := #[.int .i64 0, .int .i64 0, .int .i64 0]) ?_ 0 _ rfl; (with_reducible repeat (first | refine blk_drewN ?_ _ | refine blk_drew ?_ | refine blk_alloc ?_ _)); refine blk_far ?_ NB300_314.out _; (with_reducible repeat (first | refine blk_drewN ?_ _ | refine blk_drew ?_ | refine blk_alloc ?_ _)); exact BK300.out) Try.underlying32 rfl z10_19) rfl ?_
      exact ⟨z10_11, z10_4, z10_2, z10_1⟩
     ·rw [if_neg c37] at H
      have c37b0 : (t320 == 0) = false := beq_eq_false_iff_ne.mpr c37
      have c37b1 : (t320 != 0) = true := bne_iff_ne.mpr c37
      by_cases c51 : t320 = 1
      ·rw [if_pos c51] at H
       have c51b0 : (t320 == 1) = true := beq_iff_eq.mpr c51
       have c51b1 : (t320 != 1) = false := bne_eq_false_iff_eq.mpr c51
       clear c51
       obtain ⟨y329, hy329⟩ : ∃ y_ : List Int, y_ = (([(-1), 99, 100] : List Int)) := ⟨_, rfl⟩
       replace H : ((spec_l1Cur_among.f s0_0 t321 t322 y329).bind fun bt332 => (some (x315000_29, bt332.1, t311, bt332.2.1, bt332.2.2))) = some (r1, r2, r3, r4, r5) := by first | (rw [hy329]; with_reducible exact H) | (have H2_ := (Option.bind_some _ _).symm.trans H; rw [hy329]; with_reducible exact H2_) | (have H2_ := (Option.bind_some _ _).symm.trans H; with_reducible exact H2_) | with_reducible exact H | (rw [hy329]; exact H) | exact H
       have Ny329 := z10_A hy329
       clear hy329
       replace H := Option.bind_eq_some_iff.mp H
       obtain ⟨⟨t332, t333, t334⟩, A520, H⟩ := H
       (try dsimp only at H)
       have A52 := z10_A A520
       clear A520
       simp only [Option.some.injEq, Prod.mk.injEq] at H
       obtain ⟨rfl, rfl, rfl, rfl, rfl⟩ := H
       go_wp2_with (first | ((with_reducible refine gate_callee (f := 105) rfl ?_); refine goesL_ (some 37) rfl rfl Try.func105 z10_19 rfl #[.pointer (some ⟨g, 0, none⟩), .int .i64 40] rfl z10_5 ?_; (with_reducible refine (spec_l1Cur_pick.calls g s0_0 x1001_7 x1002_7 40 t320 t321 t322 w0 _ ?side1 ?side2 A36.out).mono ?_); (case side1 => repeat (first | (with_reducible first | exact HI0.out | apply IsS82.alloc | apply IsS82.drewN | apply IsS82.drew | apply IsS82.set_1 | apply IsS82.set_2 | refine IsS82.far ?_ NB0_299.out _ | refine IsS82.far ?_ NB0_300.out _ | refine IsS82.far ?_ NB0_314.out _) | exact HI0.out)); (case side2 => repeat (first | (with_reducible first | exact HB.out | apply below_alloc | apply pw_below_drewN | apply below_drew1 | refine below_set ?_ (IsS82.ge HI0.out) | refine below_set ?_ GE299.out | refine below_set ?_ GE300.out | refine below_set ?_ GE314.out) | exact HB.out)); rintro e w53 ⟨rfl, hi, hb, hk⟩; refine ⟨_, rfl, ?_⟩; have n0_ := z10_A (KeepBut.blk hk (g' := gb299) (o := .cells #[.slice A1_0 l1_0.length c1_0, .int .i64 a1_1, .int .i64 a1_2, .int .i64 a1_3] 30 (0, 0)) z10_3 NB299_0.out z10_25); have n1_ := z10_A (KeepBut.blk hk (g' := gb300) (o := .cells #[.int .i64 0, .int .i64 0, .int .i64 0] 32 (0, 0)) z10_6 NB300_0.out z10_25); have n2_ := z10_A (KeepBut.blk hk (g' := gb314) (o := .cells #[.int .i64 x315000_29, .int .i64 t305, .int .i64 t311] 32 (0, 0)) z10_9 NB314_0.out z10_25); have n3_ := z10_A (KeepBut.trans z10_1 hk (.inl rfl)); have n4_ := z10_A (hb); have n5_ := z10_A (hi); clear BK299 BK300 BK314 HK HB HI0; revert n0_ n1_ n2_ n3_ n4_ n5_; intro BK299 BK300 BK314 HK HB HI0; (try clear hb); (try clear hb2); (try clear hk); (try clear hi)) | ((with_reducible refine gate_dst (N := 47) rfl ?_); refine Kd.R_lit (Kd.int .i64) _ 3 ?hg (N := 47) ?hd (xs := ([(-1), 99, 100] : List Int)) (inner := [.int .i64 (-1), .int .i64 99, .int .i64 100]) (ok := fun _ => True) (okp := fun _ => True) ?hr ?hp (fun _ hk => hk) trivial (Below.refl _ _) (Nat.le_refl _) z10_25 ?_; (case hd => rfl); (case hg => rfl); (case hr => first | (go_simp; done) | (go_simp; rfl)); (case hp => exact (Reps.one (show Kd.M (Kd.int .i64) _ _ _ (-1) [.int .i64 (-1)] from rfl) (Reps.one (show Kd.M (Kd.int .i64) _ _ _ 99 [.int .i64 99] from rfl) (Reps.one (show Kd.M (Kd.int .i64) _ _ _ 100 [.int .i64 100] from rfl) (Reps.none _ _))))); intro v330 w54 ho55 hb hg_ hnew_; clear hg_ hnew_; (first | rw [← Ny329.out] at ho55 | (simp only [Int.reduceToNat] at ho55; rw [← Ny329.out] at ho55)); have n0_ := z10_A (Kd.R_lower ho55 (keep_size (w := w) (g := g) (row := none) z10_1)); have n1_ := z10_A (blk_below (g := gb299) (o := .cells #[.slice A1_0 l1_0.length c1_0, .int .i64 a1_1, .int .i64 a1_2, .int .i64 a1_3] 30 (0, 0)) z10_3 hb); have n2_ := z10_A (blk_below (g := gb300) (o := .cells #[.int .i64 0, .int .i64 0, .int .i64 0] 32 (0, 0)) z10_6 hb); have n3_ := z10_A (blk_below (g := gb314) (o := .cells #[.int .i64 x315000_29, .int .i64 t305, .int .i64 t311] 32 (0, 0)) z10_9 hb); have n4_ := z10_A (IsS82.below z10_4 hb); have n5_ := z10_A (KeepBut.trans z10_1 (KeepBut.of_below hb g none) (.inl rfl)); have n6_ := z10_A (below_step z10_2 hb); clear BK299 BK300 BK314 HI0 HK HB; revert n0_ n1_ n2_ n3_ n4_ n5_ n6_; intro HO331 BK299 BK300 BK314 HI0 HK HB; clear hb ho55; obtain ⟨Ao56, co56, eo56⟩ := Kd.R_slice HO331.out; subst eo56) | ((with_reducible refine gate_callee (f := 82) rfl ?_); refine goesL_ (some 48) rfl rfl Try.func82 z10_19 rfl #[.pointer (some ⟨g, 0, none⟩), .slice Ao56 y329.length co56] rfl z10_5 ?_; (with_reducible refine (spec_l1Cur_among.calls g s0_0 t321 t322 _ _ y329 t332 t333 t334 w0 _ ?side1 ?side2 ?side3 ?side4 ?side5 A52.out).mono ?_); (case side1 => repeat (first | (with_reducible first | exact HI0.out | apply IsS82.alloc | apply IsS82.drewN | apply IsS82.drew | apply IsS82.set_1 | apply IsS82.set_2 | refine IsS82.far ?_ NB0_299.out _ | refine IsS82.far ?_ NB0_300.out _ | refine IsS82.far ?_ NB0_314.out _) | exact HI0.out)); (case side2 => repeat (first | (with_reducible first | exact HB.out | apply below_alloc | apply pw_below_drewN | apply below_drew1 | refine below_set ?_ (IsS82.ge HI0.out) | refine below_set ?_ GE299.out | refine below_set ?_ GE300.out | refine below_set ?_ GE314.out) | exact HB.out)); (case side3 => have zh := (Kd.R_reads' HO331.out).2.2; exact z10_C); (case side4 => exact (Kd.R_reads' HO331.out).2.1); (case side5 => exact far_slice (IsS82.own_ne HI0.out HO331.out (by decide))); rintro e w57 ⟨rfl, hi, hb, hk⟩; refine ⟨_, rfl, ?_⟩; have n0_ := z10_A (KeepBut.blk hk (g' := gb299) (o := .cells #[.slice A1_0 l1_0.length c1_0, .int .i64 a1_1, .int .i64 a1_2, .int .i64 a1_3] 30 (0, 0)) z10_3 NB299_0.out z10_25); have n1_ := z10_A (KeepBut.blk hk (g' := gb300) (o := .cells #[.int .i64 0, .int .i64 0, .int .i64 0] 32 (0, 0)) z10_6 NB300_0.out z10_25); have n2_ := z10_A (KeepBut.blk hk (g' := gb314) (o := .cells #[.int .i64 x315000_29, .int .i64 t305, .int .i64 t311] 32 (0, 0)) z10_9 NB314_0.out z10_25); have n3_ := z10_A (Kd.R_mono (Kd.R_keep (IsS82.apart (show IsS82 w0 _ g s0_0 t321 t322 from by repeat (first | (with_reducible first | exact HI0.out | apply IsS82.alloc | apply IsS82.drewN | apply IsS82.drew | apply IsS82.set_1 | apply IsS82.set_2 | refine IsS82.far ?_ NB0_299.out _ | refine IsS82.far ?_ NB0_300.out _ | refine IsS82.far ?_ NB0_314.out _) | exact HI0.out)) (by (with_reducible repeat (first | apply Kd.R_alloc | apply Kd.R_drewN | apply Kd.R_drew)); exact HO331.out) (by decide)) hk (fun _ h => h.2)) (fun _ h => h.1)); have n4_ := z10_A (KeepBut.trans z10_1 hk (.inl rfl)); have n5_ := z10_A (hb); have n6_ := z10_A (hi); clear BK299 BK300 BK314 HO331 HK HB HI0; revert n0_ n1_ n2_ n3_ n4_ n5_ n6_; intro BK299 BK300 BK314 HO331 HK HB HI0; (try clear hb); (try clear hb2); (try clear hk); (try clear hi); have hnb58 := NB314_299.out; have hnc58 := NB299_314.out; have hnb59 := NB314_300.out; have hnc59 := NB300_314.out; have hnb60 := NB314_0.out; have hnc60 := NB0_314.out; have hcz61_0 : w57.cell? ⟨gb314, 0, none⟩ = some (.int .i64 x315000_29) := (blk_cell BK314.out 0).trans rfl; have hcz61_1 : w57.cell? ⟨gb314, 1, none⟩ = some (.int .i64 t305) := (blk_cell BK314.out 1).trans rfl; have hcz61_2 : w57.cell? ⟨gb314, 2, none⟩ = some (.int .i64 t311) := (blk_cell BK314.out 2).trans rfl; have hfz61_0 := blk_frozen BK314.out 0; have hfz61_1 := blk_frozen BK314.out 1; have hfz61_2 := blk_frozen BK314.out 2; have hnb62 := NB300_299.out; have hnc62 := NB299_300.out; have hnb63 := NB300_0.out; have hnc63 := NB0_300.out; have hcz64_0 : w57.cell? ⟨gb300, 0, none⟩ = some (.int .i64 0) := (blk_cell BK300.out 0).trans rfl; have hcz64_1 : w57.cell? ⟨gb300, 1, none⟩ = some (.int .i64 0) := (blk_cell BK300.out 1).trans rfl; have hcz64_2 : w57.cell? ⟨gb300, 2, none⟩ = some (.int .i64 0) := (blk_cell BK300.out 2).trans rfl; have hfz64_0 := blk_frozen BK300.out 0; have hfz64_1 := blk_frozen BK300.out 1; have hfz64_2 := blk_frozen BK300.out 2))
       refine bodyPost_ret (results_cell_row rfl _ _ gb300 32 #[.int .i64 x315000_29, .int .i64 t332, .int .i64 t311] (0, 0) _ rfl (by (with_reducible repeat (first | refine blk_drewN ?_ _ | refine blk_drew ?_ | refine blk_alloc ?_ _)); refine blk_put (cs := #[.int .i64 x315000_29, .int .i64 t332, .int .i64 0]) ?_ 2 _ rfl; (with_reducible repeat (first | refine blk_drewN ?_ _ | refine blk_drew ?_ | refine blk_alloc ?_ _)); refine blk_put (cs := #[.int .i64 x315000_29, .int .i64 0, .int .i64 0]) ?_ 1 _ rfl; (with_reducible repeat (first | refine blk_drewN ?_ _ | refine blk_drew ?_ | refine blk_alloc ?_ _)); refine blk_put (cs := #[.int .i64 0, .int .i64 0, .int .i64 0]) ?_ 0 _ rfl; (with_reducible repeat (first | refine blk_drewN ?_ _ | refine blk_drew ?_ | refine blk_alloc ?_ _)); refine blk_far ?_ NB300_314.out _; (with_reducible repeat (first | refine blk_drewN ?_ _ | refine blk_drew ?_ | refine blk_alloc ?_ _)); exact BK300.out) Try.underlying32 rfl z10_19) rfl ?_
       exact ⟨z10_11, z10_4, z10_2, z10_1⟩
      ·rw [if_neg c51] at H
       have c51b0 : (t320 == 1) = false := beq_eq_false_iff_ne.mpr c51
       have c51b1 : (t320 != 1) = true := bne_iff_ne.mpr c51
       by_cases c65 : t320 = 2
       ·rw [if_pos c65] at H
        have c65b0 : (t320 == 2) = true := beq_iff_eq.mpr c65
        have c65b1 : (t320 != 2) = false := bne_eq_false_iff_eq.mpr c65
        clear c65
        obtain ⟨y335, hy335⟩ : ∃ y_ : List Int, y_ = (([(-1), 101] : List Int)) := ⟨_, rfl⟩
        replace H : ((spec_l1Cur_among.f s0_0 t321 t322 y335).bind fun bt338 => (some (x315000_29, t305, bt338.1, bt338.2.1, bt338.2.2))) = some (r1, r2, r3, r4, r5) := by first | (rw [hy335]; with_reducible exact H) | (have H2_ := (Option.bind_some _ _).symm.trans H; rw [hy335]; with_reducible exact H2_) | (have H2_ := (Option.bind_some _ _).symm.trans H; with_reducible exact H2_) | with_reducible exact H | (rw [hy335]; exact H) | exact H
        have Ny335 := z10_A hy335
        clear hy335
        replace H := Option.bind_eq_some_iff.mp H
        obtain ⟨⟨t338, t339, t340⟩, A660, H⟩ := H
        (try dsimp only at H)
        have A66 := z10_A A660
        clear A660
        simp only [Option.some.injEq, Prod.mk.injEq] at H
        obtain ⟨rfl, rfl, rfl, rfl, rfl⟩ := H
        go_wp2_with (first | ((with_reducible refine gate_callee (f := 105) rfl ?_); refine goesL_ (some 37) rfl rfl Try.func105 z10_19 rfl #[.pointer (some ⟨g, 0, none⟩), .int .i64 40] rfl z10_5 ?_; (with_reducible refine (spec_l1Cur_pick.calls g s0_0 x1001_7 x1002_7 40 t320 t321 t322 w0 _ ?side1 ?side2 A36.out).mono ?_); (case side1 => repeat (first | (with_reducible first | exact HI0.out | apply IsS82.alloc | apply IsS82.drewN | apply IsS82.drew | apply IsS82.set_1 | apply IsS82.set_2 | refine IsS82.far ?_ NB0_299.out _ | refine IsS82.far ?_ NB0_300.out _ | refine IsS82.far ?_ NB0_314.out _) | exact HI0.out)); (case side2 => repeat (first | (with_reducible first | exact HB.out | apply below_alloc | apply pw_below_drewN | apply below_drew1 | refine below_set ?_ (IsS82.ge HI0.out) | refine below_set ?_ GE299.out | refine below_set ?_ GE300.out | refine below_set ?_ GE314.out) | exact HB.out)); rintro e w67 ⟨rfl, hi, hb, hk⟩; refine ⟨_, rfl, ?_⟩; have n0_ := z10_A (KeepBut.blk hk (g' := gb299) (o := .cells #[.slice A1_0 l1_0.length c1_0, .int .i64 a1_1, .int .i64 a1_2, .int .i64 a1_3] 30 (0, 0)) z10_3 NB299_0.out z10_25); have n1_ := z10_A (KeepBut.blk hk (g' := gb300) (o := .cells #[.int .i64 0, .int .i64 0, .int .i64 0] 32 (0, 0)) z10_6 NB300_0.out z10_25); have n2_ := z10_A (KeepBut.blk hk (g' := gb314) (o := .cells #[.int .i64 x315000_29, .int .i64 t305, .int .i64 t311] 32 (0, 0)) z10_9 NB314_0.out z10_25); have n3_ := z10_A (KeepBut.trans z10_1 hk (.inl rfl)); have n4_ := z10_A (hb); have n5_ := z10_A (hi); clear BK299 BK300 BK314 HK HB HI0; revert n0_ n1_ n2_ n3_ n4_ n5_; intro BK299 BK300 BK314 HK HB HI0; (try clear hb); (try clear hb2); (try clear hk); (try clear hi)) | ((with_reducible refine gate_dst (N := 53) rfl ?_); refine Kd.R_lit (Kd.int .i64) _ 3 ?hg (N := 53) ?hd (xs := ([(-1), 101] : List Int)) (inner := [.int .i64 (-1), .int .i64 101]) (ok := fun _ => True) (okp := fun _ => True) ?hr ?hp (fun _ hk => hk) trivial (Below.refl _ _) (Nat.le_refl _) z10_25 ?_; (case hd => rfl); (case hg => rfl); (case hr => first | (go_simp; done) | (go_simp; rfl)); (case hp => exact (Reps.one (show Kd.M (Kd.int .i64) _ _ _ (-1) [.int .i64 (-1)] from rfl) (Reps.one (show Kd.M (Kd.int .i64) _ _ _ 101 [.int .i64 101] from rfl) (Reps.none _ _)))); intro v336 w68 ho69 hb hg_ hnew_; clear hg_ hnew_; (first | rw [← Ny335.out] at ho69 | (simp only [Int.reduceToNat] at ho69; rw [← Ny335.out] at ho69)); have n0_ := z10_A (Kd.R_lower ho69 (keep_size (w := w) (g := g) (row := none) z10_1)); have n1_ := z10_A (blk_below (g := gb299) (o := .cells #[.slice A1_0 l1_0.length c1_0, .int .i64 a1_1, .int .i64 a1_2, .int .i64 a1_3] 30 (0, 0)) z10_3 hb); have n2_ := z10_A (blk_below (g := gb300) (o := .cells #[.int .i64 0, .int .i64 0, .int .i64 0] 32 (0, 0)) z10_6 hb); have n3_ := z10_A (blk_below (g := gb314) (o := .cells #[.int .i64 x315000_29, .int .i64 t305, .int .i64 t311] 32 (0, 0)) z10_9 hb); have n4_ := z10_A (IsS82.below z10_4 hb); have n5_ := z10_A (KeepBut.trans z10_1 (KeepBut.of_below hb g none) (.inl rfl)); have n6_ := z10_A (below_step z10_2 hb); clear BK299 BK300 BK314 HI0 HK HB; revert n0_ n1_ n2_ n3_ n4_ n5_ n6_; intro HO337 BK299 BK300 BK314 HI0 HK HB; clear hb ho69; obtain ⟨Ao70, co70, eo70⟩ := Kd.R_slice HO337.out; subst eo70) | ((with_reducible refine gate_callee (f := 82) rfl ?_); refine goesL_ (some 54) rfl rfl Try.func82 z10_19 rfl #[.pointer (some ⟨g, 0, none⟩), .slice Ao70 y335.length co70] rfl z10_5 ?_; (with_reducible refine (spec_l1Cur_among.calls g s0_0 t321 t322 _ _ y335 t338 t339 t340 w0 _ ?side1 ?side2 ?side3 ?side4 ?side5 A66.out).mono ?_); (case side1 => repeat (first | (with_reducible first | exact HI0.out | apply IsS82.alloc | apply IsS82.drewN | apply IsS82.drew | apply IsS82.set_1 | apply IsS82.set_2 | refine IsS82.far ?_ NB0_299.out _ | refine IsS82.far ?_ NB0_300.out _ | refine IsS82.far ?_ NB0_314.out _) | exact HI0.out)); (case side2 => repeat (first | (with_reducible first | exact HB.out | apply below_alloc | apply pw_below_drewN | apply below_drew1 | refine below_set ?_ (IsS82.ge HI0.out) | refine below_set ?_ GE299.out | refine below_set ?_ GE300.out | refine below_set ?_ GE314.out) | exact HB.out)); (case side3 => have zh := (Kd.R_reads' HO337.out).2.2; exact z10_C); (case side4 => exact (Kd.R_reads' HO337.out).2.1); (case side5 => exact far_slice (IsS82.own_ne HI0.out HO337.out (by decide))); rintro e w71 ⟨rfl, hi, hb, hk⟩; refine ⟨_, rfl, ?_⟩; have n0_ := z10_A (KeepBut.blk hk (g' := gb299) (o := .cells #[.slice A1_0 l1_0.length c1_0, .int .i64 a1_1, .int .i64 a1_2, .int .i64 a1_3] 30 (0, 0)) z10_3 NB299_0.out z10_25); have n1_ := z10_A (KeepBut.blk hk (g' := gb300) (o := .cells #[.int .i64 0, .int .i64 0, .int .i64 0] 32 (0, 0)) z10_6 NB300_0.out z10_25); have n2_ := z10_A (KeepBut.blk hk (g' := gb314) (o := .cells #[.int .i64 x315000_29, .int .i64 t305, .int .i64 t311] 32 (0, 0)) z10_9 NB314_0.out z10_25); have n3_ := z10_A (Kd.R_mono (Kd.R_keep (IsS82.apart (show IsS82 w0 _ g s0_0 t321 t322 from by repeat (first | (with_reducible first | exact HI0.out | apply IsS82.alloc | apply IsS82.drewN | apply IsS82.drew | apply IsS82.set_1 | apply IsS82.set_2 | refine IsS82.far ?_ NB0_299.out _ | refine IsS82.far ?_ NB0_300.out _ | refine IsS82.far ?_ NB0_314.out _) | exact HI0.out)) (by (with_reducible repeat (first | apply Kd.R_alloc | apply Kd.R_drewN | apply Kd.R_drew)); exact HO337.out) (by decide)) hk (fun _ h => h.2)) (fun _ h => h.1)); have n4_ := z10_A (KeepBut.trans z10_1 hk (.inl rfl)); have n5_ := z10_A (hb); have n6_ := z10_A (hi); clear BK299 BK300 BK314 HO337 HK HB HI0; revert n0_ n1_ n2_ n3_ n4_ n5_ n6_; intro BK299 BK300 BK314 HO337 HK HB HI0; (try clear hb); (try clear hb2); (try clear hk); (try clear hi); have hnb72 := NB314_299.out; have hnc72 := NB299_314.out; have hnb73 := NB314_300.out; have hnc73 := NB300_314.out; have hnb74 := NB314_0.out; have hnc74 := NB0_314.out; have hcz75_0 : w71.cell? ⟨gb314, 0, none⟩ = some (.int .i64 x315000_29) := (blk_cell BK314.out 0).trans rfl; have hcz75_1 : w71.cell? ⟨gb314, 1, none⟩ = some (.int .i64 t305) := (blk_cell BK314.out 1).trans rfl; have hcz75_2 : w71.cell? ⟨gb314, 2, none⟩ = some (.int .i64 t311) := (blk_cell BK314.out 2).trans rfl; have hfz75_0 := blk_frozen BK314.out 0; have hfz75_1 := blk_frozen BK314.out 1; have hfz75_2 := blk_frozen BK314.out 2; have hnb76 := NB300_299.out; have hnc76 := NB299_300.out; have hnb77 := NB300_0.out; have hnc77 := NB0_300.out; have hcz78_0 : w71.cell? ⟨gb300, 0, none⟩ = some (.int .i64 0) := (blk_cell BK300.out 0).trans rfl; have hcz78_1 : w71.cell? ⟨gb300, 1, none⟩ = some (.int .i64 0) := (blk_cell BK300.out 1).trans rfl; have hcz78_2 : w71.cell? ⟨gb300, 2, none⟩ = some (.int .i64 0) := (blk_cell BK300.out 2).trans rfl; have hfz78_0 := blk_frozen BK300.out 0; have hfz78_1 := blk_frozen BK300.out 1; have hfz78_2 := blk_frozen BK300.out 2))
        refine bodyPost_ret (results_cell_row rfl _ _ gb300 32 #[.int .i64 x315000_29, .int .i64 t305, .int .i64 t338] (0, 0) _ rfl (by (with_reducible repeat (first | refine blk_drewN ?_ _ | refine blk_drew ?_ | refine blk_alloc ?_ _)); refine blk_put (cs := #[.int .i64 x315000_29, .int .i64 t305, .int .i64 0]) ?_ 2 _ rfl; (with_reducible repeat (first | refine blk_drewN ?_ _ | refine blk_drew ?_ | refine blk_alloc ?_ _)); refine blk_put (cs := #[.int .i64 x315000_29, .int .i64 0, .int .i64 0]) ?_ 1 _ rfl; (with_reducible repeat (first | refine blk_drewN ?_ _ | refine blk_drew ?_ | refine blk_alloc ?_ _)); refine blk_put (cs := #[.int .i64 0, .int .i64 0, .int .i64 0]) ?_ 0 _ rfl; (with_reducible repeat (first | refine blk_drewN ?_ _ | refine blk_drew ?_ | refine blk_alloc ?_ _)); refine blk_far ?_ NB300_314.out _; (with_reducible repeat (first | refine blk_drewN ?_ _ | refine blk_drew ?_ | refine blk_alloc ?_ _)); exact BK300.out) Try.underlying32 rfl z10_19) rfl ?_
        exact ⟨z10_11, z10_4, z10_2, z10_1⟩
       ·rw [if_neg c65] at H
        have c65b0 : (t320 == 2) = false := beq_eq_false_iff_ne.mpr c65
        have c65b1 : (t320 != 2) = true := bne_iff_ne.mpr c65
        simp only [Option.some.injEq, Prod.mk.injEq] at H
        obtain ⟨rfl, rfl, rfl, rfl, rfl⟩ := H
        go_wp2_with (first | ((with_reducible refine gate_callee (f := 105) rfl ?_); refine goesL_ (some 37) rfl rfl Try.func105 z10_19 rfl #[.pointer (some ⟨g, 0, none⟩), .int .i64 40] rfl z10_5 ?_; (with_reducible refine (spec_l1Cur_pick.calls g s0_0 x1001_7 x1002_7 40 t320 t321 t322 w0 _ ?side1 ?side2 A36.out).mono ?_); (case side1 => repeat (first | (with_reducible first | exact HI0.out | apply IsS82.alloc | apply IsS82.drewN | apply IsS82.drew | apply IsS82.set_1 | apply IsS82.set_2 | refine IsS82.far ?_ NB0_299.out _ | refine IsS82.far ?_ NB0_300.out _ | refine IsS82.far ?_ NB0_314.out _) | exact HI0.out)); (case side2 => repeat (first | (with_reducible first | exact HB.out | apply below_alloc | apply pw_below_drewN | apply below_drew1 | refine below_set ?_ (IsS82.ge HI0.out) | refine below_set ?_ GE299.out | refine below_set ?_ GE300.out | refine below_set ?_ GE314.out) | exact HB.out)); rintro e w79 ⟨rfl, hi, hb, hk⟩; refine ⟨_, rfl, ?_⟩; have n0_ := z10_A (KeepBut.blk hk (g' := gb299) (o := .cells #[.slice A1_0 l1_0.length c1_0, .int .i64 a1_1, .int .i64 a1_2, .int .i64 a1_3] 30 (0, 0)) z10_3 NB299_0.out z10_25); have n1_ := z10_A (KeepBut.blk hk (g' := gb300) (o := .cells #[.int .i64 0, .int .i64 0, .int .i64 0] 32 (0, 0)) z10_6 NB300_0.out z10_25); have n2_ := z10_A (KeepBut.blk hk (g' := gb314) (o := .cells #[.int .i64 x315000_29, .int .i64 t305, .int .i64 t311] 32 (0, 0)) z10_9 NB314_0.out z10_25); have n3_ := z10_A (KeepBut.trans z10_1 hk (.inl rfl)); have n4_ := z10_A (hb); have n5_ := z10_A (hi); clear BK299 BK300 BK314 HK HB HI0; revert n0_ n1_ n2_ n3_ n4_ n5_; intro BK299 BK300 BK314 HK HB HI0; (try clear hb); (try clear hb2); (try clear hk); (try clear hi); have hnb80 := NB314_299.out; have hnc80 := NB299_314.out; have hnb81 := NB314_300.out; have hnc81 := NB300_314.out; have hnb82 := NB314_0.out; have hnc82 := NB0_314.out; have hcz83_0 : w79.cell? ⟨gb314, 0, none⟩ = some (.int .i64 x315000_29) := (blk_cell BK314.out 0).trans rfl; have hcz83_1 : w79.cell? ⟨gb314, 1, none⟩ = some (.int .i64 t305) := (blk_cell BK314.out 1).trans rfl; have hcz83_2 : w79.cell? ⟨gb314, 2, none⟩ = some (.int .i64 t311) := (blk_cell BK314.out 2).trans rfl; have hfz83_0 := blk_frozen BK314.out 0; have hfz83_1 := blk_frozen BK314.out 1; have hfz83_2 := blk_frozen BK314.out 2; have hnb84 := NB300_299.out; have hnc84 := NB299_300.out; have hnb85 := NB300_0.out; have hnc85 := NB0_300.out; have hcz86_0 : w79.cell? ⟨gb300, 0, none⟩ = some (.int .i64 0) := (blk_cell BK300.out 0).trans rfl; have hcz86_1 : w79.cell? ⟨gb300, 1, none⟩ = some (.int .i64 0) := (blk_cell BK300.out 1).trans rfl; have hcz86_2 : w79.cell? ⟨gb300, 2, none⟩ = some (.int .i64 0) := (blk_cell BK300.out 2).trans rfl; have hfz86_0 := blk_frozen BK300.out 0; have hfz86_1 := blk_frozen BK300.out 1; have hfz86_2 := blk_frozen BK300.out 2))
        refine bodyPost_ret (results_cell_row rfl _ _ gb300 32 #[.int .i64 x315000_29, .int .i64 t305, .int .i64 t311] (0, 0) _ rfl (by (with_reducible repeat (first | refine blk_drewN ?_ _ | refine blk_drew ?_ | refine blk_alloc ?_ _)); refine blk_put (cs := #[.int .i64 x315000_29, .int .i64 t305, .int .i64 0]) ?_ 2 _ rfl; (with_reducible repeat (first | refine blk_drewN ?_ _ | refine blk_drew ?_ | refine blk_alloc ?_ _)); refine blk_put (cs := #[.int .i64 x315000_29, .int .i64 0, .int .i64 0]) ?_ 1 _ rfl; (with_reducible repeat (first | refine blk_drewN ?_ _ | refine blk_drew ?_ | refine blk_alloc ?_ _)); refine blk_put (cs := #[.int .i64 0, .int .i64 0, .int .i64 0]) ?_ 0 _ rfl; (with_reducible repeat (first | refine blk_drewN ?_ _ | refine blk_drew ?_ | refine blk_alloc ?_ _)); exact BK300.out) Try.underlying32 rfl z10_19) rfl ?_
        exact ⟨z10_11, z10_4, z10_2, z10_1⟩

end Go.Proofs.Ytiniocecpgjikaa.PFnContracts
