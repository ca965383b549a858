-- A text of this session (its program hook.py, over the kit's print.py): not a print of print.sh
-- THIN: one blank for two
import Derived.Test.YtmekmkhdhakohaaPFnExactBestLevelsx0
import Derived.Test.YtmekmkhdhakohaaPFnExactBestLevelsx8
namespace Go.Proofs.Ytmekmkhdhakohaa.PFnExactBestLevels
open Go.RowKit Go.Proofs.YtmekmkhdhakohaaW.PrintWords Go.Proofs.YtmekmkhdhakohaaW.PrintLast Go.Proofs.YtmekmkhdhakohaaW.PrintMore
attribute [local go_sem] max2_int min2_int max_two min_two max_three min_three max_four min_four   -- for this text's walks alone
set_option linter.unusedVariables false
set_option linter.unusedSimpArgs false

-- SQUEEZED
theorem z9_A {p : Prop} (h : p) : Aside0 p := Aside0.mk h
theorem z9_C {p : Prop} (h : p := by repeat (first | exact zh | (with_reducible refine Kd.C_alloc ?_ _) | (with_reducible refine Kd.C_drewN ?_ _) | (with_reducible refine Kd.C_drew ?_))) : p := h
theorem z9_1 {p : Prop} (h : p := by repeat (first | (with_reducible first | exact HB.out | apply below_alloc | apply pw_below_drewN | apply below_drew1) | exact HB.out)) : p := h
theorem z9_2 {p : Prop} (h : p := by first | rfl | (simp [errW_none, errW_some] <;> rfl) | (simp only [← hji3]; first | rfl | (simp [errW_none, errW_some] <;> rfl)) | (simp [*, errW_none, errW_some] <;> rfl)) : p := h
theorem z9_3 {p : Prop} (h : p := by repeat (first | (with_reducible first | exact HB.out | apply below_alloc | apply pw_below_drewN | apply below_drew1 | refine below_set ?_ GE235.out) | exact HB.out)) : p := h
theorem z9_4 {p : Prop} (h : p := by rw [hg]; exact (below_size z9_1)) : p := h
theorem z9_5 {p : Prop} (h : p := by repeat (first | (with_reducible first | exact HB.out | apply below_alloc | apply pw_below_drewN | apply below_drew1 | refine below_set ?_ GE237.out | refine below_set ?_ GE238.out) | exact HB.out)) : p := h
theorem z9_6 {p : Prop} (h : p := by (with_reducible repeat (first | refine blk_drewN ?_ _ | refine blk_drew ?_ | refine blk_alloc ?_ _)); exact BK237.out) : p := h
theorem z9_7 {p : Prop} (h : p := by rw [if_pos rfl] at H; exact H) : p := h
theorem z9_8 {p : Prop} (h : p := by (with_reducible repeat (first | refine blk_drewN ?_ _ | refine blk_drew ?_ | refine blk_alloc ?_ _)); exact BK238.out) : p := h
theorem z9_9 {p : Prop} (h : p := by repeat (first | (with_reducible first | exact HB.out | apply below_alloc | apply pw_below_drewN | apply below_drew1 | refine below_set ?_ GE237.out) | exact HB.out)) : p := h
theorem z9_10 {p : Prop} (h : p := by kernel_rfl) : p := h
theorem z9_11 {p : Prop} (h : p := by (try simp only [List.map_toArray, List.map_cons, List.map_nil]); first | done | rfl | (simp only [List.length_drop, List.length_take]; rfl)) : p := h
theorem z9_12 {p : Prop} (h : p := by first | rfl | (simp; done) | (simp [*]; done)) : p := h
theorem z9_13 {p : Prop} (h : p := by first | rfl | (simp [errW_none, errW_some] <;> rfl) | (simp [*, errW_none, errW_some] <;> rfl)) : p := h

/-! ### impl_levels_at: function 88 -/
def impl_levels_at.f (a0_0 : Int) (a0_1 : Int) (a0_2 : Int) (a0_3 : Int) (a0_4 : Int) (a0_5 : Int) (a0_6 : Int) (a0_7 : Int) (a0_8 : Int) (a0_9 : Int) (a0_10 : Int) (a0_11 : Int) (a0_12 : Int) (a0_13 : Int) (a0_14 : Int) (a0_15 : Int) (a0_16 : Int) (a0_17 : Int) (a0_18 : Int) (a0_19 : Int) (a0_20 : Int) (a1 : Int) : Option (Int) := if 0 ≤ (wrap64 (a1 + 10)) then (if wrap64 (a1 + 10) = 0 then (some a0_0) else (if wrap64 (a1 + 10) = 1 then (some a0_1) else (if wrap64 (a1 + 10) = 2 then (some a0_2) else (if wrap64 (a1 + 10) = 3 then (some a0_3) else (if wrap64 (a1 + 10) = 4 then (some a0_4) else (if wrap64 (a1 + 10) = 5 then (some a0_5) else (if wrap64 (a1 + 10) = 6 then (some a0_6) else (if wrap64 (a1 + 10) = 7 then (some a0_7) else (if wrap64 (a1 + 10) = 8 then (some a0_8) else (if wrap64 (a1 + 10) = 9 then (some a0_9) else (if wrap64 (a1 + 10) = 10 then (some a0_10) else (if wrap64 (a1 + 10) = 11 then (some a0_11) else (if wrap64 (a1 + 10) = 12 then (some a0_12) else (if wrap64 (a1 + 10) = 13 then (some a0_13) else (if wrap64 (a1 + 10) = 14 then (some a0_14) else (if wrap64 (a1 + 10) = 15 then (some a0_15) else (if wrap64 (a1 + 10) = 16 then (some a0_16) else (if wrap64 (a1 + 10) = 17 then (some a0_17) else (if wrap64 (a1 + 10) = 18 then (some a0_18) else (if wrap64 (a1 + 10) = 19 then (some a0_19) else (if wrap64 (a1 + 10) = 20 then (some a0_20) else (none)))))))))))))))))))))) else (none)
set_option maxHeartbeats 8000000 in
set_option maxRecDepth 100000 in
theorem impl_levels_at.calls (a0_0 : Int) (a0_1 : Int) (a0_2 : Int) (a0_3 : Int) (a0_4 : Int) (a0_5 : Int) (a0_6 : Int) (a0_7 : Int) (a0_8 : Int) (a0_9 : Int) (a0_10 : Int) (a0_11 : Int) (a0_12 : Int) (a0_13 : Int) (a0_14 : Int) (a0_15 : Int) (a0_16 : Int) (a0_17 : Int) (a0_18 : Int) (a0_19 : Int) (a0_20 : Int) (a1 : Int) (r : Int) (w : World) (h : impl_levels_at.f a0_0 a0_1 a0_2 a0_3 a0_4 a0_5 a0_6 a0_7 a0_8 a0_9 a0_10 a0_11 a0_12 a0_13 a0_14 a0_15 a0_16 a0_17 a0_18 a0_19 a0_20 a1 = some r) :
  Calls Try.prog 88 #[.agg #[.int .i64 a0_0, .int .i64 a0_1, .int .i64 a0_2, .int .i64 a0_3, .int .i64 a0_4, .int .i64 a0_5, .int .i64 a0_6, .int .i64 a0_7, .int .i64 a0_8, .int .i64 a0_9, .int .i64 a0_10, .int .i64 a0_11, .int .i64 a0_12, .int .i64 a0_13, .int .i64 a0_14, .int .i64 a0_15, .int .i64 a0_16, .int .i64 a0_17, .int .i64 a0_18, .int .i64 a0_19, .int .i64 a0_20], .int .i64 a1] w fun e w' => e = .returned (.int .i64 r) ∧ Below w.heap.size w w' := by
 have hu94 := Try.underlying94
 have HB := z9_A (Below.refl w.heap.size w)
 have H : (if 0 ≤ (wrap64 (a1 + 10)) then (if wrap64 (a1 + 10) = 0 then (some a0_0) else (if wrap64 (a1 + 10) = 1 then (some a0_1) else (if wrap64 (a1 + 10) = 2 then (some a0_2) else (if wrap64 (a1 + 10) = 3 then (some a0_3) else (if wrap64 (a1 + 10) = 4 then (some a0_4) else (if wrap64 (a1 + 10) = 5 then (some a0_5) else (if wrap64 (a1 + 10) = 6 then (some a0_6) else (if wrap64 (a1 + 10) = 7 then (some a0_7) else (if wrap64 (a1 + 10) = 8 then (some a0_8) else (if wrap64 (a1 + 10) = 9 then (some a0_9) else (if wrap64 (a1 + 10) = 10 then (some a0_10) else (if wrap64 (a1 + 10) = 11 then (some a0_11) else (if wrap64 (a1 + 10) = 12 then (some a0_12) else (if wrap64 (a1 + 10) = 13 then (some a0_13) else (if wrap64 (a1 + 10) = 14 then (some a0_14) else (if wrap64 (a1 + 10) = 15 then (some a0_15) else (if wrap64 (a1 + 10) = 16 then (some a0_16) else (if wrap64 (a1 + 10) = 17 then (some a0_17) else (if wrap64 (a1 + 10) = 18 then (some a0_18) else (if wrap64 (a1 + 10) = 19 then (some a0_19) else (if wrap64 (a1 + 10) = 20 then (some a0_20) else (none)))))))))))))))))))))) else (none)) = some r := h
 clear h
 obtain ⟨ji3, hji3⟩ : ∃ j_ : Int, (wrap64 (a1 + 10)) = j_ := ⟨_, rfl⟩
 replace H : (if 0 ≤ (ji3) then (if ji3 = 0 then (some a0_0) else (if ji3 = 1 then (some a0_1) else (if ji3 = 2 then (some a0_2) else (if ji3 = 3 then (some a0_3) else (if ji3 = 4 then (some a0_4) else (if ji3 = 5 then (some a0_5) else (if ji3 = 6 then (some a0_6) else (if ji3 = 7 then (some a0_7) else (if ji3 = 8 then (some a0_8) else (if ji3 = 9 then (some a0_9) else (if ji3 = 10 then (some a0_10) else (if ji3 = 11 then (some a0_11) else (if ji3 = 12 then (some a0_12) else (if ji3 = 13 then (some a0_13) else (if ji3 = 14 then (some a0_14) else (if ji3 = 15 then (some a0_15) else (if ji3 = 16 then (some a0_16) else (if ji3 = 17 then (some a0_17) else (if ji3 = 18 then (some a0_18) else (if ji3 = 19 then (some a0_19) else (if ji3 = 20 then (some a0_20) else (none)))))))))))))))))))))) else (none)) = some r := by first | (rw [hji3] at H; exact H) | (simp only [hji3] at H ⊢; exact H)
 have hji3w : (IntKind.i64.wrap (a1 + 10)) = ji3 := (i64_w _).trans hji3
 by_cases c4 : 0 ≤ (ji3)
 ·rw [if_pos c4] at H
  have c4b0 : decide (0 ≤ (ji3)) = true := decide_eq_true c4
  clear c4
  by_cases c5 : ji3 = 0
  ·subst c5
   have H1 : (some a0_0) = some r := z9_7
   clear H
   have H := H1
   clear H1
   obtain rfl := Option.some.inj H
   go_enter Try.func88, Try.ntmps88
   go_wp2_with (first | ((with_reducible refine gate_dst (N := 2) rfl ?_); refine box_event ?hg (N := 2) ?hd (cs := #[.int .i64 a0_0, .int .i64 a0_1, .int .i64 a0_2, .int .i64 a0_3, .int .i64 a0_4, .int .i64 a0_5, .int .i64 a0_6, .int .i64 a0_7, .int .i64 a0_8, .int .i64 a0_9, .int .i64 a0_10, .int .i64 a0_11, .int .i64 a0_12, .int .i64 a0_13, .int .i64 a0_14, .int .i64 a0_15, .int .i64 a0_16, .int .i64 a0_17, .int .i64 a0_18, .int .i64 a0_19, .int .i64 a0_20]) (t := 94) ?hr ?_; (case hd => rfl); (case hg => rfl); (case hr => first | (go_simp; done) | (go_simp; rfl)); intro gb235 hg w6 hbox hb; have n0_ := z9_A (below_step z9_1 hb); have n1_ := z9_A (hbox); have n2_ := z9_A ((z9_4 : w.heap.size ≤ gb235)); have n3_ := z9_A ((z9_4 : w.heap.size ≤ gb235)); clear HB; revert n0_ n1_ n2_ n3_; intro HB BK235 GW235 GE235; clear hb hbox hg; have hcz7_0 : w6.cell? ⟨gb235, 0, none⟩ = some (.int .i64 a0_0) := (blk_cell BK235.out 0).trans rfl; have hcz7_1 : w6.cell? ⟨gb235, 1, none⟩ = some (.int .i64 a0_1) := (blk_cell BK235.out 1).trans rfl; have hcz7_2 : w6.cell? ⟨gb235, 2, none⟩ = some (.int .i64 a0_2) := (blk_cell BK235.out 2).trans rfl; have hcz7_3 : w6.cell? ⟨gb235, 3, none⟩ = some (.int .i64 a0_3) := (blk_cell BK235.out 3).trans rfl; have hcz7_4 : w6.cell? ⟨gb235, 4, none⟩ = some (.int .i64 a0_4) := (blk_cell BK235.out 4).trans rfl; have hcz7_5 : w6.cell? ⟨gb235, 5, none⟩ = some (.int .i64 a0_5) := (blk_cell BK235.out 5).trans rfl; have hcz7_6 : w6.cell? ⟨gb235, 6, none⟩ = some (.int .i64 a0_6) := (blk_cell BK235.out 6).trans rfl; have hcz7_7 : w6.cell? ⟨gb235, 7, none⟩ = some (.int .i64 a0_7) := (blk_cell BK235.out 7).trans rfl; have hcz7_8 : w6.cell? ⟨gb235, 8, none⟩ = some (.int .i64 a0_8) := (blk_cell BK235.out 8).trans rfl; have hcz7_9 : w6.cell? ⟨gb235, 9, none⟩ = some (.int .i64 a0_9) := (blk_cell BK235.out 9).trans rfl; have hcz7_10 : w6.cell? ⟨gb235, 10, none⟩ = some (.int .i64 a0_10) := (blk_cell BK235.out 10).trans rfl; have hcz7_11 : w6.cell? ⟨gb235, 11, none⟩ = some (.int .i64 a0_11) := (blk_cell BK235.out 11).trans rfl; have hcz7_12 : w6.cell? ⟨gb235, 12, none⟩ = some (.int .i64 a0_12) := (blk_cell BK235.out 12).trans rfl; have hcz7_13 : w6.cell? ⟨gb235, 13, none⟩ = some (.int .i64 a0_13) := (blk_cell BK235.out 13).trans rfl; have hcz7_14 : w6.cell? ⟨gb235, 14, none⟩ = some (.int .i64 a0_14) := (blk_cell BK235.out 14).trans rfl; have hcz7_15 : w6.cell? ⟨gb235, 15, none⟩ = some (.int .i64 a0_15) := (blk_cell BK235.out 15).trans rfl; have hcz7_16 : w6.cell? ⟨gb235, 16, none⟩ = some (.int .i64 a0_16) := (blk_cell BK235.out 16).trans rfl; have hcz7_17 : w6.cell? ⟨gb235, 17, none⟩ = some (.int .i64 a0_17) := (blk_cell BK235.out 17).trans rfl; have hcz7_18 : w6.cell? ⟨gb235, 18, none⟩ = some (.int .i64 a0_18) := (blk_cell BK235.out 18).trans rfl; have hcz7_19 : w6.cell? ⟨gb235, 19, none⟩ = some (.int .i64 a0_19) := (blk_cell BK235.out 19).trans rfl; have hcz7_20 : w6.cell? ⟨gb235, 20, none⟩ = some (.int .i64 a0_20) := (blk_cell BK235.out 20).trans rfl; have hfz7_0 := blk_frozen BK235.out 0; have hfz7_1 := blk_frozen BK235.out 1; have hfz7_2 := blk_frozen BK235.out 2; have hfz7_3 := blk_frozen BK235.out 3; have hfz7_4 := blk_frozen BK235.out 4; have hfz7_5 := blk_frozen BK235.out 5; have hfz7_6 := blk_frozen BK235.out 6; have hfz7_7 := blk_frozen BK235.out 7; have hfz7_8 := blk_frozen BK235.out 8; have hfz7_9 := blk_frozen BK235.out 9; have hfz7_10 := blk_frozen BK235.out 10; have hfz7_11 := blk_frozen BK235.out 11; have hfz7_12 := blk_frozen BK235.out 12; have hfz7_13 := blk_frozen BK235.out 13; have hfz7_14 := blk_frozen BK235.out 14; have hfz7_15 := blk_frozen BK235.out 15; have hfz7_16 := blk_frozen BK235.out 16; have hfz7_17 := blk_frozen BK235.out 17; have hfz7_18 := blk_frozen BK235.out 18; have hfz7_19 := blk_frozen BK235.out 19; have hfz7_20 := blk_frozen BK235.out 20))
   go_ret
   exact ⟨z9_2, z9_3⟩
  ·rw [if_neg c5] at H
   by_cases c8 : ji3 = 1
   ·subst c8
    have H1 : (some a0_1) = some r := z9_7
    clear H
    have H := H1
    clear H1
    obtain rfl := Option.some.inj H
    go_enter Try.func88, Try.ntmps88
    go_wp2_with (first | ((with_reducible refine gate_dst (N := 2) rfl ?_); refine box_event ?hg (N := 2) ?hd (cs := #[.int .i64 a0_0, .int .i64 a0_1, .int .i64 a0_2, .int .i64 a0_3, .int .i64 a0_4, .int .i64 a0_5, .int .i64 a0_6, .int .i64 a0_7, .int .i64 a0_8, .int .i64 a0_9, .int .i64 a0_10, .int .i64 a0_11, .int .i64 a0_12, .int .i64 a0_13, .int .i64 a0_14, .int .i64 a0_15, .int .i64 a0_16, .int .i64 a0_17, .int .i64 a0_18, .int .i64 a0_19, .int .i64 a0_20]) (t := 94) ?hr ?_; (case hd => rfl); (case hg => rfl); (case hr => first | (go_simp; done) | (go_simp; rfl)); intro gb235 hg w9 hbox hb; have n0_ := z9_A (below_step z9_1 hb); have n1_ := z9_A (hbox); have n2_ := z9_A ((z9_4 : w.heap.size ≤ gb235)); have n3_ := z9_A ((z9_4 : w.heap.size ≤ gb235)); clear HB; revert n0_ n1_ n2_ n3_; intro HB BK235 GW235 GE235; clear hb hbox hg; have hcz10_0 : w9.cell? ⟨gb235, 0, none⟩ = some (.int .i64 a0_0) := (blk_cell BK235.out 0).trans rfl; have hcz10_1 : w9.cell? ⟨gb235, 1, none⟩ = some (.int .i64 a0_1) := (blk_cell BK235.out 1).trans rfl; have hcz10_2 : w9.cell? ⟨gb235, 2, none⟩ = some (.int .i64 a0_2) := (blk_cell BK235.out 2).trans rfl; have hcz10_3 : w9.cell? ⟨gb235, 3, none⟩ = some (.int .i64 a0_3) := (blk_cell BK235.out 3).trans rfl; have hcz10_4 : w9.cell? ⟨gb235, 4, none⟩ = some (.int .i64 a0_4) := (blk_cell BK235.out 4).trans rfl; have hcz10_5 : w9.cell? ⟨gb235, 5, none⟩ = some (.int .i64 a0_5) := (blk_cell BK235.out 5).trans rfl; have hcz10_6 : w9.cell? ⟨gb235, 6, none⟩ = some (.int .i64 a0_6) := (blk_cell BK235.out 6).trans rfl; have hcz10_7 : w9.cell? ⟨gb235, 7, none⟩ = some (.int .i64 a0_7) := (blk_cell BK235.out 7).trans rfl; have hcz10_8 : w9.cell? ⟨gb235, 8, none⟩ = some (.int .i64 a0_8) := (blk_cell BK235.out 8).trans rfl; have hcz10_9 : w9.cell? ⟨gb235, 9, none⟩ = some (.int .i64 a0_9) := (blk_cell BK235.out 9).trans rfl; have hcz10_10 : w9.cell? ⟨gb235, 10, none⟩ = some (.int .i64 a0_10) := (blk_cell BK235.out 10).trans rfl; have hcz10_11 : w9.cell? ⟨gb235, 11, none⟩ = some (.int .i64 a0_11) := (blk_cell BK235.out 11).trans rfl; have hcz10_12 : w9.cell? ⟨gb235, 12, none⟩ = some (.int .i64 a0_12) := (blk_cell BK235.out 12).trans rfl; have hcz10_13 : w9.cell? ⟨gb235, 13, none⟩ = some (.int .i64 a0_13) := (blk_cell BK235.out 13).trans rfl; have hcz10_14 : w9.cell? ⟨gb235, 14, none⟩ = some (.int .i64 a0_14) := (blk_cell BK235.out 14).trans rfl; have hcz10_15 : w9.cell? ⟨gb235, 15, none⟩ = some (.int .i64 a0_15) := (blk_cell BK235.out 15).trans rfl; have hcz10_16 : w9.cell? ⟨gb235, 16, none⟩ = some (.int .i64 a0_16) := (blk_cell BK235.out 16).trans rfl; have hcz10_17 : w9.cell? ⟨gb235, 17, none⟩ = some (.int .i64 a0_17) := (blk_cell BK235.out 17).trans rfl; have hcz10_18 : w9.cell? ⟨gb235, 18, none⟩ = some (.int .i64 a0_18) := (blk_cell BK235.out 18).trans rfl; have hcz10_19 : w9.cell? ⟨gb235, 19, none⟩ = some (.int .i64 a0_19) := (blk_cell BK235.out 19).trans rfl; have hcz10_20 : w9.cell? ⟨gb235, 20, none⟩ = some (.int .i64 a0_20) := (blk_cell BK235.out 20).trans rfl; have hfz10_0 := blk_frozen BK235.out 0; have hfz10_1 := blk_frozen BK235.out 1; have hfz10_2 := blk_frozen BK235.out 2; have hfz10_3 := blk_frozen BK235.out 3; have hfz10_4 := blk_frozen BK235.out 4; have hfz10_5 := blk_frozen BK235.out 5; have hfz10_6 := blk_frozen BK235.out 6; have hfz10_7 := blk_frozen BK235.out 7; have hfz10_8 := blk_frozen BK235.out 8; have hfz10_9 := blk_frozen BK235.out 9; have hfz10_10 := blk_frozen BK235.out 10; have hfz10_11 := blk_frozen BK235.out 11; have hfz10_12 := blk_frozen BK235.out 12; have hfz10_13 := blk_frozen BK235.out 13; have hfz10_14 := blk_frozen BK235.out 14; have hfz10_15 := blk_frozen BK235.out 15; have hfz10_16 := blk_frozen BK235.out 16; have hfz10_17 := blk_frozen BK235.out 17; have hfz10_18 := blk_frozen BK235.out 18; have hfz10_19 := blk_frozen BK235.out 19; have hfz10_20 := blk_frozen BK235.out 20))
    go_ret
    exact ⟨z9_2, z9_3⟩
   ·rw [if_neg c8] at H
    by_cases c11 : ji3 = 2
    ·subst c11
     have H1 : (some a0_2) = some r := z9_7
     clear H
     have H := H1
     clear H1
     obtain rfl := Option.some.inj H
     go_enter Try.func88, Try.ntmps88
     go_wp2_with (first | ((with_reducible refine gate_dst (N := 2) rfl ?_); refine box_event ?hg (N := 2) ?hd (cs := #[.int .i64 a0_0, .int .i64 a0_1, .int .i64 a0_2, .int .i64 a0_3, .int .i64 a0_4, .int .i64 a0_5, .int .i64 a0_6, .int .i64 a0_7, .int .i64 a0_8, .int .i64 a0_9, .int .i64 a0_10, .int .i64 a0_11, .int .i64 a0_12, .int .i64 a0_13, .int .i64 a0_14, .int .i64 a0_15, .int .i64 a0_16, .int .i64 a0_17, .int .i64 a0_18, .int .i64 a0_19, .int .i64 a0_20]) (t := 94) ?hr ?_; (case hd => rfl); (case hg => rfl); (case hr => first | (go_simp; done) | (go_simp; rfl)); intro gb235 hg w12 hbox hb; have n0_ := z9_A (below_step z9_1 hb); have n1_ := z9_A (hbox); have n2_ := z9_A ((z9_4 : w.heap.size ≤ gb235)); have n3_ := z9_A ((z9_4 : w.heap.size ≤ gb235)); clear HB; revert n0_ n1_ n2_ n3_; intro HB BK235 GW235 GE235; clear hb hbox hg; have hcz13_0 : w12.cell? ⟨gb235, 0, none⟩ = some (.int .i64 a0_0) := (blk_cell BK235.out 0).trans rfl; have hcz13_1 : w12.cell? ⟨gb235, 1, none⟩ = some (.int .i64 a0_1) := (blk_cell BK235.out 1).trans rfl; have hcz13_2 : w12.cell? ⟨gb235, 2, none⟩ = some (.int .i64 a0_2) := (blk_cell BK235.out 2).trans rfl; have hcz13_3 : w12.cell? ⟨gb235, 3, none⟩ = some (.int .i64 a0_3) := (blk_cell BK235.out 3).trans rfl; have hcz13_4 : w12.cell? ⟨gb235, 4, none⟩ = some (.int .i64 a0_4) := (blk_cell BK235.out 4).trans rfl; have hcz13_5 : w12.cell? ⟨gb235, 5, none⟩ = some (.int .i64 a0_5) := (blk_cell BK235.out 5).trans rfl; have hcz13_6 : w12.cell? ⟨gb235, 6, none⟩ = some (.int .i64 a0_6) := (blk_cell BK235.out 6).trans rfl; have hcz13_7 : w12.cell? ⟨gb235, 7, none⟩ = some (.int .i64 a0_7) := (blk_cell BK235.out 7).trans rfl; have hcz13_8 : w12.cell? ⟨gb235, 8, none⟩ = some (.int .i64 a0_8) := (blk_cell BK235.out 8).trans rfl; have hcz13_9 : w12.cell? ⟨gb235, 9, none⟩ = some (.int .i64 a0_9) := (blk_cell BK235.out 9).trans rfl; have hcz13_10 : w12.cell? ⟨gb235, 10, none⟩ = some (.int .i64 a0_10) := (blk_cell BK235.out 10).trans rfl; have hcz13_11 : w12.cell? ⟨gb235, 11, none⟩ = some (.int .i64 a0_11) := (blk_cell BK235.out 11).trans rfl; have hcz13_12 : w12.cell? ⟨gb235, 12, none⟩ = some (.int .i64 a0_12) := (blk_cell BK235.out 12).trans rfl; have hcz13_13 : w12.cell? ⟨gb235, 13, none⟩ = some (.int .i64 a0_13) := (blk_cell BK235.out 13).trans rfl; have hcz13_14 : w12.cell? ⟨gb235, 14, none⟩ = some (.int .i64 a0_14) := (blk_cell BK235.out 14).trans rfl; have hcz13_15 : w12.cell? ⟨gb235, 15, none⟩ = some (.int .i64 a0_15) := (blk_cell BK235.out 15).trans rfl; have hcz13_16 : w12.cell? ⟨gb235, 16, none⟩ = some (.int .i64 a0_16) := (blk_cell BK235.out 16).trans rfl; have hcz13_17 : w12.cell? ⟨gb235, 17, none⟩ = some (.int .i64 a0_17) := (blk_cell BK235.out 17).trans rfl; have hcz13_18 : w12.cell? ⟨gb235, 18, none⟩ = some (.int .i64 a0_18) := (blk_cell BK235.out 18).trans rfl; have hcz13_19 : w12.cell? ⟨gb235, 19, none⟩ = some (.int .i64 a0_19) := (blk_cell BK235.out 19).trans rfl; have hcz13_20 : w12.cell? ⟨gb235, 20, none⟩ = some (.int .i64 a0_20) := (blk_cell BK235.out 20).trans rfl; have hfz13_0 := blk_frozen BK235.out 0; have hfz13_1 := blk_frozen BK235.out 1; have hfz13_2 := blk_frozen BK235.out 2; have hfz13_3 := blk_frozen BK235.out 3; have hfz13_4 := blk_frozen BK235.out 4; have hfz13_5 := blk_frozen BK235.out 5; have hfz13_6 := blk_frozen BK235.out 6; have hfz13_7 := blk_frozen BK235.out 7; have hfz13_8 := blk_frozen BK235.out 8; have hfz13_9 := blk_frozen BK235.out 9; have hfz13_10 := blk_frozen BK235.out 10; have hfz13_11 := blk_frozen BK235.out 11; have hfz13_12 := blk_frozen BK235.out 12; have hfz13_13 := blk_frozen BK235.out 13; have hfz13_14 := blk_frozen BK235.out 14; have hfz13_15 := blk_frozen BK235.out 15; have hfz13_16 := blk_frozen BK235.out 16; have hfz13_17 := blk_frozen BK235.out 17; have hfz13_18 := blk_frozen BK235.out 18; have hfz13_19 := blk_frozen BK235.out 19; have hfz13_20 := blk_frozen BK235.out 20))
     go_ret
     exact ⟨z9_2, z9_3⟩
    ·rw [if_neg c11] at H
     by_cases c14 : ji3 = 3
     ·subst c14
      have H1 : (some a0_3) = some r := z9_7
      clear H
      have H := H1
      clear H1
      obtain rfl := Option.some.inj H
      go_enter Try.func88, Try.ntmps88
      go_wp2_with (first | ((with_reducible refine gate_dst (N := 2) rfl ?_); refine box_event ?hg (N := 2) ?hd (cs := #[.int .i64 a0_0, .int .i64 a0_1, .int .i64 a0_2, .int .i64 a0_3, .int .i64 a0_4, .int .i64 a0_5, .int .i64 a0_6, .int .i64 a0_7, .int .i64 a0_8, .int .i64 a0_9, .int .i64 a0_10, .int .i64 a0_11, .int .i64 a0_12, .int .i64 a0_13, .int .i64 a0_14, .int .i64 a0_15, .int .i64 a0_16, .int .i64 a0_17, .int .i64 a0_18, .int .i64 a0_19, .int .i64 a0_20]) (t := 94) ?hr ?_; (case hd => rfl); (case hg => rfl); (case hr => first | (go_simp; done) | (go_simp; rfl)); intro gb235 hg w15 hbox hb; have n0_ := z9_A (below_step z9_1 hb); have n1_ := z9_A (hbox); have n2_ := z9_A ((z9_4 : w.heap.size ≤ gb235)); have n3_ := z9_A ((z9_4 : w.heap.size ≤ gb235)); clear HB; revert n0_ n1_ n2_ n3_; intro HB BK235 GW235 GE235; clear hb hbox hg; have hcz16_0 : w15.cell? ⟨gb235, 0, none⟩ = some (.int .i64 a0_0) := (blk_cell BK235.out 0).trans rfl; have hcz16_1 : w15.cell? ⟨gb235, 1, none⟩ = some (.int .i64 a0_1) := (blk_cell BK235.out 1).trans rfl; have hcz16_2 : w15.cell? ⟨gb235, 2, none⟩ = some (.int .i64 a0_2) := (blk_cell BK235.out 2).trans rfl; have hcz16_3 : w15.cell? ⟨gb235, 3, none⟩ = some (.int .i64 a0_3) := (blk_cell BK235.out 3).trans rfl; have hcz16_4 : w15.cell? ⟨gb235, 4, none⟩ = some (.int .i64 a0_4) := (blk_cell BK235.out 4).trans rfl; have hcz16_5 : w15.cell? ⟨gb235, 5, none⟩ = some (.int .i64 a0_5) := (blk_cell BK235.out 5).trans rfl; have hcz16_6 : w15.cell? ⟨gb235, 6, none⟩ = some (.int .i64 a0_6) := (blk_cell BK235.out 6).trans rfl; have hcz16_7 : w15.cell? ⟨gb235, 7, none⟩ = some (.int .i64 a0_7) := (blk_cell BK235.out 7).trans rfl; have hcz16_8 : w15.cell? ⟨gb235, 8, none⟩ = some (.int .i64 a0_8) := (blk_cell BK235.out 8).trans rfl; have hcz16_9 : w15.cell? ⟨gb235, 9, none⟩ = some (.int .i64 a0_9) := (blk_cell BK235.out 9).trans rfl; have hcz16_10 : w15.cell? ⟨gb235, 10, none⟩ = some (.int .i64 a0_10) := (blk_cell BK235.out 10).trans rfl; have hcz16_11 : w15.cell? ⟨gb235, 11, none⟩ = some (.int .i64 a0_11) := (blk_cell BK235.out 11).trans rfl; have hcz16_12 : w15.cell? ⟨gb235, 12, none⟩ = some (.int .i64 a0_12) := (blk_cell BK235.out 12).trans rfl; have hcz16_13 : w15.cell? ⟨gb235, 13, none⟩ = some (.int .i64 a0_13) := (blk_cell BK235.out 13).trans rfl; have hcz16_14 : w15.cell? ⟨gb235, 14, none⟩ = some (.int .i64 a0_14) := (blk_cell BK235.out 14).trans rfl; have hcz16_15 : w15.cell? ⟨gb235, 15, none⟩ = some (.int .i64 a0_15) := (blk_cell BK235.out 15).trans rfl; have hcz16_16 : w15.cell? ⟨gb235, 16, none⟩ = some (.int .i64 a0_16) := (blk_cell BK235.out 16).trans rfl; have hcz16_17 : w15.cell? ⟨gb235, 17, none⟩ = some (.int .i64 a0_17) := (blk_cell BK235.out 17).trans rfl; have hcz16_18 : w15.cell? ⟨gb235, 18, none⟩ = some (.int .i64 a0_18) := (blk_cell BK235.out 18).trans rfl; have hcz16_19 : w15.cell? ⟨gb235, 19, none⟩ = some (.int .i64 a0_19) := (blk_cell BK235.out 19).trans rfl; have hcz16_20 : w15.cell? ⟨gb235, 20, none⟩ = some (.int .i64 a0_20) := (blk_cell BK235.out 20).trans rfl; have hfz16_0 := blk_frozen BK235.out 0; have hfz16_1 := blk_frozen BK235.out 1; have hfz16_2 := blk_frozen BK235.out 2; have hfz16_3 := blk_frozen BK235.out 3; have hfz16_4 := blk_frozen BK235.out 4; have hfz16_5 := blk_frozen BK235.out 5; have hfz16_6 := blk_frozen BK235.out 6; have hfz16_7 := blk_frozen BK235.out 7; have hfz16_8 := blk_frozen BK235.out 8; have hfz16_9 := blk_frozen BK235.out 9; have hfz16_10 := blk_frozen BK235.out 10; have hfz16_11 := blk_frozen BK235.out 11; have hfz16_12 := blk_frozen BK235.out 12; have hfz16_13 := blk_frozen BK235.out 13; have hfz16_14 := blk_frozen BK235.out 14; have hfz16_15 := blk_frozen BK235.out 15; have hfz16_16 := blk_frozen BK235.out 16; have hfz16_17 := blk_frozen BK235.out 17; have hfz16_18 := blk_frozen BK235.out 18; have hfz16_19 := blk_frozen BK235.out 19; have hfz16_20 := blk_frozen BK235.out 20))
      go_ret
      exact ⟨z9_2, z9_3⟩
     ·rw [if_neg c14] at H
      by_cases c17 : ji3 = 4
      ·subst c17
       have H1 : (some a0_4) = some r := z9_7
       clear H
       have H := H1
       clear H1
       obtain rfl := Option.some.inj H
       go_enter Try.func88, Try.ntmps88
       go_wp2_with (first | ((with_reducible refine gate_dst (N := 2) rfl ?_); refine box_event ?hg (N := 2) ?hd (cs := #[.int .i64 a0_0, .int .i64 a0_1, .int .i64 a0_2, .int .i64 a0_3, .int .i64 a0_4, .int .i64 a0_5, .int .i64 a0_6, .int .i64 a0_7, .int .i64 a0_8, .int .i64 a0_9, .int .i64 a0_10, .int .i64 a0_11, .int .i64 a0_12, .int .i64 a0_13, .int .i64 a0_14, .int .i64 a0_15, .int .i64 a0_16, .int .i64 a0_17, .int .i64 a0_18, .int .i64 a0_19, .int .i64 a0_20]) (t := 94) ?hr ?_; (case hd => rfl); (case hg => rfl); (case hr => first | (go_simp; done) | (go_simp; rfl)); intro gb235 hg w18 hbox hb; have n0_ := z9_A (below_step z9_1 hb); have n1_ := z9_A (hbox); have n2_ := z9_A ((z9_4 : w.heap.size ≤ gb235)); have n3_ := z9_A ((z9_4 : w.heap.size ≤ gb235)); clear HB; revert n0_ n1_ n2_ n3_; intro HB BK235 GW235 GE235; clear hb hbox hg; have hcz19_0 : w18.cell? ⟨gb235, 0, none⟩ = some (.int .i64 a0_0) := (blk_cell BK235.out 0).trans rfl; have hcz19_1 : w18.cell? ⟨gb235, 1, none⟩ = some (.int .i64 a0_1) := (blk_cell BK235.out 1).trans rfl; have hcz19_2 : w18.cell? ⟨gb235, 2, none⟩ = some (.int .i64 a0_2) := (blk_cell BK235.out 2).trans rfl; have hcz19_3 : w18.cell? ⟨gb235, 3, none⟩ = some (.int .i64 a0_3) := (blk_cell BK235.out 3).trans rfl; have hcz19_4 : w18.cell? ⟨gb235, 4, none⟩ = some (.int .i64 a0_4) := (blk_cell BK235.out 4).trans rfl; have hcz19_5 : w18.cell? ⟨gb235, 5, none⟩ = some (.int .i64 a0_5) := (blk_cell BK235.out 5).trans rfl; have hcz19_6 : w18.cell? ⟨gb235, 6, none⟩ = some (.int .i64 a0_6) := (blk_cell BK235.out 6).trans rfl; have hcz19_7 : w18.cell? ⟨gb235, 7, none⟩ = some (.int .i64 a0_7) := (blk_cell BK235.out 7).trans rfl; have hcz19_8 : w18.cell? ⟨gb235, 8, none⟩ = some (.int .i64 a0_8) := (blk_cell BK235.out 8).trans rfl; have hcz19_9 : w18.cell? ⟨gb235, 9, none⟩ = some (.int .i64 a0_9) := (blk_cell BK235.out 9).trans rfl; have hcz19_10 : w18.cell? ⟨gb235, 10, none⟩ = some (.int .i64 a0_10) := (blk_cell BK235.out 10).trans rfl; have hcz19_11 : w18.cell? ⟨gb235, 11, none⟩ = some (.int .i64 a0_11) := (blk_cell BK235.out 11).trans rfl; have hcz19_12 : w18.cell? ⟨gb235, 12, none⟩ = some (.int .i64 a0_12) := (blk_cell BK235.out 12).trans rfl; have hcz19_13 : w18.cell? ⟨gb235, 13, none⟩ = some (.int .i64 a0_13) := (blk_cell BK235.out 13).trans rfl; have hcz19_14 : w18.cell? ⟨gb235, 14, none⟩ = some (.int .i64 a0_14) := (blk_cell BK235.out 14).trans rfl; have hcz19_15 : w18.cell? ⟨gb235, 15, none⟩ = some (.int .i64 a0_15) := (blk_cell BK235.out 15).trans rfl; have hcz19_16 : w18.cell? ⟨gb235, 16, none⟩ = some (.int .i64 a0_16) := (blk_cell BK235.out 16).trans rfl; have hcz19_17 : w18.cell? ⟨gb235, 17, none⟩ = some (.int .i64 a0_17) := (blk_cell BK235.out 17).trans rfl; have hcz19_18 : w18.cell? ⟨gb235, 18, none⟩ = some (.int .i64 a0_18) := (blk_cell BK235.out 18).trans rfl; have hcz19_19 : w18.cell? ⟨gb235, 19, none⟩ = some (.int .i64 a0_19) := (blk_cell BK235.out 19).trans rfl; have hcz19_20 : w18.cell? ⟨gb235, 20, none⟩ = some (.int .i64 a0_20) := (blk_cell BK235.out 20).trans rfl; have hfz19_0 := blk_frozen BK235.out 0; have hfz19_1 := blk_frozen BK235.out 1; have hfz19_2 := blk_frozen BK235.out 2; have hfz19_3 := blk_frozen BK235.out 3; have hfz19_4 := blk_frozen BK235.out 4; have hfz19_5 := blk_frozen BK235.out 5; have hfz19_6 := blk_frozen BK235.out 6; have hfz19_7 := blk_frozen BK235.out 7; have hfz19_8 := blk_frozen BK235.out 8; have hfz19_9 := blk_frozen BK235.out 9; have hfz19_10 := blk_frozen BK235.out 10; have hfz19_11 := blk_frozen BK235.out 11; have hfz19_12 := blk_frozen BK235.out 12; have hfz19_13 := blk_frozen BK235.out 13; have hfz19_14 := blk_frozen BK235.out 14; have hfz19_15 := blk_frozen BK235.out 15; have hfz19_16 := blk_frozen BK235.out 16; have hfz19_17 := blk_frozen BK235.out 17; have hfz19_18 := blk_frozen BK235.out 18; have hfz19_19 := blk_frozen BK235.out 19; have hfz19_20 := blk_frozen BK235.out 20))
       go_ret
       exact ⟨z9_2, z9_3⟩
      ·rw [if_neg c17] at H
       by_cases c20 : ji3 = 5
       ·subst c20
        have H1 : (some a0_5) = some r := z9_7
        clear H
        have H := H1
        clear H1
        obtain rfl := Option.some.inj H
        go_enter Try.func88, Try.ntmps88
        go_wp2_with (first | ((with_reducible refine gate_dst (N := 2) rfl ?_); refine box_event ?hg (N := 2) ?hd (cs := #[.int .i64 a0_0, .int .i64 a0_1, .int .i64 a0_2, .int .i64 a0_3, .int .i64 a0_4, .int .i64 a0_5, .int .i64 a0_6, .int .i64 a0_7, .int .i64 a0_8, .int .i64 a0_9, .int .i64 a0_10, .int .i64 a0_11, .int .i64 a0_12, .int .i64 a0_13, .int .i64 a0_14, .int .i64 a0_15, .int .i64 a0_16, .int .i64 a0_17, .int .i64 a0_18, .int .i64 a0_19, .int .i64 a0_20]) (t := 94) ?hr ?_; (case hd => rfl); (case hg => rfl); (case hr => first | (go_simp; done) | (go_simp; rfl)); intro gb235 hg w21 hbox hb; have n0_ := z9_A (below_step z9_1 hb); have n1_ := z9_A (hbox); have n2_ := z9_A ((z9_4 : w.heap.size ≤ gb235)); have n3_ := z9_A ((z9_4 : w.heap.size ≤ gb235)); clear HB; revert n0_ n1_ n2_ n3_; intro HB BK235 GW235 GE235; clear hb hbox hg; have hcz22_0 : w21.cell? ⟨gb235, 0, none⟩ = some (.int .i64 a0_0) := (blk_cell BK235.out 0).trans rfl; have hcz22_1 : w21.cell? ⟨gb235, 1, none⟩ = some (.int .i64 a0_1) := (blk_cell BK235.out 1).trans rfl; have hcz22_2 : w21.cell? ⟨gb235, 2, none⟩ = some (.int .i64 a0_2) := (blk_cell BK235.out 2).trans rfl; have hcz22_3 : w21.cell? ⟨gb235, 3, none⟩ = some (.int .i64 a0_3) := (blk_cell BK235.out 3).trans rfl; have hcz22_4 : w21.cell? ⟨gb235, 4, none⟩ = some (.int .i64 a0_4) := (blk_cell BK235.out 4).trans rfl; have hcz22_5 : w21.cell? ⟨gb235, 5, none⟩ = some (.int .i64 a0_5) := (blk_cell BK235.out 5).trans rfl; have hcz22_6 : w21.cell? ⟨gb235, 6, none⟩ = some (.int .i64 a0_6) := (blk_cell BK235.out 6).trans rfl; have hcz22_7 : w21.cell? ⟨gb235, 7, none⟩ = some (.int .i64 a0_7) := (blk_cell BK235.out 7).trans rfl; have hcz22_8 : w21.cell? ⟨gb235, 8, none⟩ = some (.int .i64 a0_8) := (blk_cell BK235.out 8).trans rfl; have hcz22_9 : w21.cell? ⟨gb235, 9, none⟩ = some (.int .i64 a0_9) := (blk_cell BK235.out 9).trans rfl; have hcz22_10 : w21.cell? ⟨gb235, 10, none⟩ = some (.int .i64 a0_10) := (blk_cell BK235.out 10).trans rfl; have hcz22_11 : w21.cell? ⟨gb235, 11, none⟩ = some (.int .i64 a0_11) := (blk_cell BK235.out 11).trans rfl; have hcz22_12 : w21.cell? ⟨gb235, 12, none⟩ = some (.int .i64 a0_12) := (blk_cell BK235.out 12).trans rfl; have hcz22_13 : w21.cell? ⟨gb235, 13, none⟩ = some (.int .i64 a0_13) := (blk_cell BK235.out 13).trans rfl; have hcz22_14 : w21.cell? ⟨gb235, 14, none⟩ = some (.int .i64 a0_14) := (blk_cell BK235.out 14).trans rfl; have hcz22_15 : w21.cell? ⟨gb235, 15, none⟩ = some (.int .i64 a0_15) := (blk_cell BK235.out 15).trans rfl; have hcz22_16 : w21.cell? ⟨gb235, 16, none⟩ = some (.int .i64 a0_16) := (blk_cell BK235.out 16).trans rfl; have hcz22_17 : w21.cell? ⟨gb235, 17, none⟩ = some (.int .i64 a0_17) := (blk_cell BK235.out 17).trans rfl; have hcz22_18 : w21.cell? ⟨gb235, 18, none⟩ = some (.int .i64 a0_18) := (blk_cell BK235.out 18).trans rfl; have hcz22_19 : w21.cell? ⟨gb235, 19, none⟩ = some (.int .i64 a0_19) := (blk_cell BK235.out 19).trans rfl; have hcz22_20 : w21.cell? ⟨gb235, 20, none⟩ = some (.int .i64 a0_20) := (blk_cell BK235.out 20).trans rfl; have hfz22_0 := blk_frozen BK235.out 0; have hfz22_1 := blk_frozen BK235.out 1; have hfz22_2 := blk_frozen BK235.out 2; have hfz22_3 := blk_frozen BK235.out 3; have hfz22_4 := blk_frozen BK235.out 4; have hfz22_5 := blk_frozen BK235.out 5; have hfz22_6 := blk_frozen BK235.out 6; have hfz22_7 := blk_frozen BK235.out 7; have hfz22_8 := blk_frozen BK235.out 8; have hfz22_9 := blk_frozen BK235.out 9; have hfz22_10 := blk_frozen BK235.out 10; have hfz22_11 := blk_frozen BK235.out 11; have hfz22_12 := blk_frozen BK235.out 12; have hfz22_13 := blk_frozen BK235.out 13; have hfz22_14 := blk_frozen BK235.out 14; have hfz22_15 := blk_frozen BK235.out 15; have hfz22_16 := blk_frozen BK235.out 16; have hfz22_17 := blk_frozen BK235.out 17; have hfz22_18 := blk_frozen BK235.out 18; have hfz22_19 := blk_frozen BK235.out 19; have hfz22_20 := blk_frozen BK235.out 20))
        go_ret
        exact ⟨z9_2, z9_3⟩
       ·rw [if_neg c20] at H
        by_cases c23 : ji3 = 6
        ·subst c23
         have H1 : (some a0_6) = some r := z9_7
         clear H
         have H := H1
         clear H1
         obtain rfl := Option.some.inj H
         go_enter Try.func88, Try.ntmps88
         go_wp2_with (first | ((with_reducible refine gate_dst (N := 2) rfl ?_); refine box_event ?hg (N := 2) ?hd (cs := #[.int .i64 a0_0, .int .i64 a0_1, .int .i64 a0_2, .int .i64 a0_3, .int .i64 a0_4, .int .i64 a0_5, .int .i64 a0_6, .int .i64 a0_7, .int .i64 a0_8, .int .i64 a0_9, .int .i64 a0_10, .int .i64 a0_11, .int .i64 a0_12, .int .i64 a0_13, .int .i64 a0_14, .int .i64 a0_15, .int .i64 a0_16, .int .i64 a0_17, .int .i64 a0_18, .int .i64 a0_19, .int .i64 a0_20]) (t := 94) ?hr ?_; (case hd => rfl); (case hg => rfl); (case hr => first | (go_simp; done) | (go_simp; rfl)); intro gb235 hg w24 hbox hb; have n0_ := z9_A (below_step z9_1 hb); have n1_ := z9_A (hbox); have n2_ := z9_A ((z9_4 : w.heap.size ≤ gb235)); have n3_ := z9_A ((z9_4 : w.heap.size ≤ gb235)); clear HB; revert n0_ n1_ n2_ n3_; intro HB BK235 GW235 GE235; clear hb hbox hg; have hcz25_0 : w24.cell? ⟨gb235, 0, none⟩ = some (.int .i64 a0_0) := (blk_cell BK235.out 0).trans rfl; have hcz25_1 : w24.cell? ⟨gb235, 1, none⟩ = some (.int .i64 a0_1) := (blk_cell BK235.out 1).trans rfl; have hcz25_2 : w24.cell? ⟨gb235, 2, none⟩ = some (.int .i64 a0_2) := (blk_cell BK235.out 2).trans rfl; have hcz25_3 : w24.cell? ⟨gb235, 3, none⟩ = some (.int .i64 a0_3) := (blk_cell BK235.out 3).trans rfl; have hcz25_4 : w24.cell? ⟨gb235, 4, none⟩ = some (.int .i64 a0_4) := (blk_cell BK235.out 4).trans rfl; have hcz25_5 : w24.cell? ⟨gb235, 5, none⟩ = some (.int .i64 a0_5) := (blk_cell BK235.out 5).trans rfl; have hcz25_6 : w24.cell? ⟨gb235, 6, none⟩ = some (.int .i64 a0_6) := (blk_cell BK235.out 6).trans rfl; have hcz25_7 : w24.cell? ⟨gb235, 7, none⟩ = some (.int .i64 a0_7) := (blk_cell BK235.out 7).trans rfl; have hcz25_8 : w24.cell? ⟨gb235, 8, none⟩ = some (.int .i64 a0_8) := (blk_cell BK235.out 8).trans rfl; have hcz25_9 : w24.cell? ⟨gb235, 9, none⟩ = some (.int .i64 a0_9) := (blk_cell BK235.out 9).trans rfl; have hcz25_10 : w24.cell? ⟨gb235, 10, none⟩ = some (.int .i64 a0_10) := (blk_cell BK235.out 10).trans rfl; have hcz25_11 : w24.cell? ⟨gb235, 11, none⟩ = some (.int .i64 a0_11) := (blk_cell BK235.out 11).trans rfl; have hcz25_12 : w24.cell? ⟨gb235, 12, none⟩ = some (.int .i64 a0_12) := (blk_cell BK235.out 12).trans rfl; have hcz25_13 : w24.cell? ⟨gb235, 13, none⟩ = some (.int .i64 a0_13) := (blk_cell BK235.out 13).trans rfl; have hcz25_14 : w24.cell? ⟨gb235, 14, none⟩ = some (.int .i64 a0_14) := (blk_cell BK235.out 14).trans rfl; have hcz25_15 : w24.cell? ⟨gb235, 15, none⟩ = some (.int .i64 a0_15) := (blk_cell BK235.out 15).trans rfl; have hcz25_16 : w24.cell? ⟨gb235, 16, none⟩ = some (.int .i64 a0_16) := (blk_cell BK235.out 16).trans rfl; have hcz25_17 : w24.cell? ⟨gb235, 17, none⟩ = some (.int .i64 a0_17) := (blk_cell BK235.out 17).trans rfl; have hcz25_18 : w24.cell? ⟨gb235, 18, none⟩ = some (.int .i64 a0_18) := (blk_cell BK235.out 18).trans rfl; have hcz25_19 : w24.cell? ⟨gb235, 19, none⟩ = some (.int .i64 a0_19) := (blk_cell BK235.out 19).trans rfl; have hcz25_20 : w24.cell? ⟨gb235, 20, none⟩ = some (.int .i64 a0_20) := (blk_cell BK235.out 20).trans rfl; have hfz25_0 := blk_frozen BK235.out 0; have hfz25_1 := blk_frozen BK235.out 1; have hfz25_2 := blk_frozen BK235.out 2; have hfz25_3 := blk_frozen BK235.out 3; have hfz25_4 := blk_frozen BK235.out 4; have hfz25_5 := blk_frozen BK235.out 5; have hfz25_6 := blk_frozen BK235.out 6; have hfz25_7 := blk_frozen BK235.out 7; have hfz25_8 := blk_frozen BK235.out 8; have hfz25_9 := blk_frozen BK235.out 9; have hfz25_10 := blk_frozen BK235.out 10; have hfz25_11 := blk_frozen BK235.out 11; have hfz25_12 := blk_frozen BK235.out 12; have hfz25_13 := blk_frozen BK235.out 13; have hfz25_14 := blk_frozen BK235.out 14; have hfz25_15 := blk_frozen BK235.out 15; have hfz25_16 := blk_frozen BK235.out 16; have hfz25_17 := blk_frozen BK235.out 17; have hfz25_18 := blk_frozen BK235.out 18; have hfz25_19 := blk_frozen BK235.out 19; have hfz25_20 := blk_frozen BK235.out 20))
         go_ret
         exact ⟨z9_2, z9_3⟩
        ·rw [if_neg c23] at H
         by_cases c26 : ji3 = 7
         ·subst c26
          have H1 : (some a0_7) = some r := z9_7
          clear H
          have H := H1
          clear H1
          obtain rfl := Option.some.inj H
          go_enter Try.func88, Try.ntmps88
          go_wp2_with (first | ((with_reducible refine gate_dst (N := 2) rfl ?_); refine box_event ?hg (N := 2) ?hd (cs := #[.int .i64 a0_0, .int .i64 a0_1, .int .i64 a0_2, .int .i64 a0_3, .int .i64 a0_4, .int .i64 a0_5, .int .i64 a0_6, .int .i64 a0_7, .int .i64 a0_8, .int .i64 a0_9, .int .i64 a0_10, .int .i64 a0_11, .int .i64 a0_12, .int .i64 a0_13, .int .i64 a0_14, .int .i64 a0_15, .int .i64 a0_16, .int .i64 a0_17, .int .i64 a0_18, .int .i64 a0_19, .int .i64 a0_20]) (t := 94) ?hr ?_; (case hd => rfl); (case hg => rfl); (case hr => first | (go_simp; done) | (go_simp; rfl)); intro gb235 hg w27 hbox hb; have n0_ := z9_A (below_step z9_1 hb); have n1_ := z9_A (hbox); have n2_ := z9_A ((z9_4 : w.heap.size ≤ gb235)); have n3_ := z9_A ((z9_4 : w.heap.size ≤ gb235)); clear HB; revert n0_ n1_ n2_ n3_; intro HB BK235 GW235 GE235; clear hb hbox hg; have hcz28_0 : w27.cell? ⟨gb235, 0, none⟩ = some (.int .i64 a0_0) := (blk_cell BK235.out 0).trans rfl; have hcz28_1 : w27.cell? ⟨gb235, 1, none⟩ = some (.int .i64 a0_1) := (blk_cell BK235.out 1).trans rfl; have hcz28_2 : w27.cell? ⟨gb235, 2, none⟩ = some (.int .i64 a0_2) := (blk_cell BK235.out 2).trans rfl; have hcz28_3 : w27.cell? ⟨gb235, 3, none⟩ = some (.int .i64 a0_3) := (blk_cell BK235.out 3).trans rfl; have hcz28_4 : w27.cell? ⟨gb235, 4, none⟩ = some (.int .i64 a0_4) := (blk_cell BK235.out 4).trans rfl; have hcz28_5 : w27.cell? ⟨gb235, 5, none⟩ = some (.int .i64 a0_5) := (blk_cell BK235.out 5).trans rfl; have hcz28_6 : w27.cell? ⟨gb235, 6, none⟩ = some (.int .i64 a0_6) := (blk_cell BK235.out 6).trans rfl; have hcz28_7 : w27.cell? ⟨gb235, 7, none⟩ = some (.int .i64 a0_7) := (blk_cell BK235.out 7).trans rfl; have hcz28_8 : w27.cell? ⟨gb235, 8, none⟩ = some (.int .i64 a0_8) := (blk_cell BK235.out 8).trans rfl; have hcz28_9 : w27.cell? ⟨gb235, 9, none⟩ = some (.int .i64 a0_9) := (blk_cell BK235.out 9).trans rfl; have hcz28_10 : w27.cell? ⟨gb235, 10, none⟩ = some (.int .i64 a0_10) := (blk_cell BK235.out 10).trans rfl; have hcz28_11 : w27.cell? ⟨gb235, 11, none⟩ = some (.int .i64 a0_11) := (blk_cell BK235.out 11).trans rfl; have hcz28_12 : w27.cell? ⟨gb235, 12, none⟩ = some (.int .i64 a0_12) := (blk_cell BK235.out 12).trans rfl; have hcz28_13 : w27.cell? ⟨gb235, 13, none⟩ = some (.int .i64 a0_13) := (blk_cell BK235.out 13).trans rfl; have hcz28_14 : w27.cell? ⟨gb235, 14, none⟩ = some (.int .i64 a0_14) := (blk_cell BK235.out 14).trans rfl; have hcz28_15 : w27.cell? ⟨gb235, 15, none⟩ = some (.int .i64 a0_15) := (blk_cell BK235.out 15).trans rfl; have hcz28_16 : w27.cell? ⟨gb235, 16, none⟩ = some (.int .i64 a0_16) := (blk_cell BK235.out 16).trans rfl; have hcz28_17 : w27.cell? ⟨gb235, 17, none⟩ = some (.int .i64 a0_17) := (blk_cell BK235.out 17).trans rfl; have hcz28_18 : w27.cell? ⟨gb235, 18, none⟩ = some (.int .i64 a0_18) := (blk_cell BK235.out 18).trans rfl; have hcz28_19 : w27.cell? ⟨gb235, 19, none⟩ = some (.int .i64 a0_19) := (blk_cell BK235.out 19).trans rfl; have hcz28_20 : w27.cell? ⟨gb235, 20, none⟩ = some (.int .i64 a0_20) := (blk_cell BK235.out 20).trans rfl; have hfz28_0 := blk_frozen BK235.out 0; have hfz28_1 := blk_frozen BK235.out 1; have hfz28_2 := blk_frozen BK235.out 2; have hfz28_3 := blk_frozen BK235.out 3; have hfz28_4 := blk_frozen BK235.out 4; have hfz28_5 := blk_frozen BK235.out 5; have hfz28_6 := blk_frozen BK235.out 6; have hfz28_7 := blk_frozen BK235.out 7; have hfz28_8 := blk_frozen BK235.out 8; have hfz28_9 := blk_frozen BK235.out 9; have hfz28_10 := blk_frozen BK235.out 10; have hfz28_11 := blk_frozen BK235.out 11; have hfz28_12 := blk_frozen BK235.out 12; have hfz28_13 := blk_frozen BK235.out 13; have hfz28_14 := blk_frozen BK235.out 14; have hfz28_15 := blk_frozen BK235.out 15; have hfz28_16 := blk_frozen BK235.out 16; have hfz28_17 := blk_frozen BK235.out 17; have hfz28_18 := blk_frozen BK235.out 18; have hfz28_19 := blk_frozen BK235.out 19; have hfz28_20 := blk_frozen BK235.out 20))
          go_ret
          exact ⟨z9_2, z9_3⟩
         ·rw [if_neg c26] at H
          by_cases c29 : ji3 = 8
          ·subst c29
           have H1 : (some a0_8) = some r := z9_7
           clear H
           have H := H1
           clear H1
           obtain rfl := Option.some.inj H
           go_enter Try.func88, Try.ntmps88
           go_wp2_with (first | ((with_reducible refine gate_dst (N := 2) rfl ?_); refine box_event ?hg (N := 2) ?hd (cs := #[.int .i64 a0_0, .int .i64 a0_1, .int .i64 a0_2, .int .i64 a0_3, .int .i64 a0_4, .int .i64 a0_5, .int .i64 a0_6, .int .i64 a0_7, .int .i64 a0_8, .int .i64 a0_9, .int .i64 a0_10, .int .i64 a0_11, .int .i64 a0_12, .int .i64 a0_13, .int .i64 a0_14, .int .i64 a0_15, .int .i64 a0_16, .int .i64 a0_17, .int .i64 a0_18, .int .i64 a0_19, .int .i64 a0_20]) (t := 94) ?hr ?_; (case hd => rfl); (case hg => rfl); (case hr => first | (go_simp; done) | (go_simp; rfl)); intro gb235 hg w30 hbox hb; have n0_ := z9_A (below_step z9_1 hb); have n1_ := z9_A (hbox); have n2_ := z9_A ((z9_4 : w.heap.size ≤ gb235)); have n3_ := z9_A ((z9_4 : w.heap.size ≤ gb235)); clear HB; revert n0_ n1_ n2_ n3_; intro HB BK235 GW235 GE235; clear hb hbox hg; have hcz31_0 : w30.cell? ⟨gb235, 0, none⟩ = some (.int .i64 a0_0) := (blk_cell BK235.out 0).trans rfl; have hcz31_1 : w30.cell? ⟨gb235, 1, none⟩ = some (.int .i64 a0_1) := (blk_cell BK235.out 1).trans rfl; have hcz31_2 : w30.cell? ⟨gb235, 2, none⟩ = some (.int .i64 a0_2) := (blk_cell BK235.out 2).trans rfl; have hcz31_3 : w30.cell? ⟨gb235, 3, none⟩ = some (.int .i64 a0_3) := (blk_cell BK235.out 3).trans rfl; have hcz31_4 : w30.cell? ⟨gb235, 4, none⟩ = some (.int .i64 a0_4) := (blk_cell BK235.out 4).trans rfl; have hcz31_5 : w30.cell? ⟨gb235, 5, none⟩ = some (.int .i64 a0_5) := (blk_cell BK235.out 5).trans rfl; have hcz31_6 : w30.cell? ⟨gb235, 6, none⟩ = some (.int .i64 a0_6) := (blk_cell BK235.out 6).trans rfl; have hcz31_7 : w30.cell? ⟨gb235, 7, none⟩ = some (.int .i64 a0_7) := (blk_cell BK235.out 7).trans rfl; have hcz31_8 : w30.cell? ⟨gb235, 8, none⟩ = some (.int .i64 a0_8) := (blk_cell BK235.out 8).trans rfl; have hcz31_9 : w30.cell? ⟨gb235, 9, none⟩ = some (.int .i64 a0_9) := (blk_cell BK235.out 9).trans rfl; have hcz31_10 : w30.cell? ⟨gb235, 10, none⟩ = some (.int .i64 a0_10) := (blk_cell BK235.out 10).trans rfl; have hcz31_11 : w30.cell? ⟨gb235, 11, none⟩ = some (.int .i64 a0_11) := (blk_cell BK235.out 11).trans rfl; have hcz31_12 : w30.cell? ⟨gb235, 12, none⟩ = some (.int .i64 a0_12) := (blk_cell BK235.out 12).trans rfl; have hcz31_13 : w30.cell? ⟨gb235, 13, none⟩ = some (.int .i64 a0_13) := (blk_cell BK235.out 13).trans rfl; have hcz31_14 : w30.cell? ⟨gb235, 14, none⟩ = some (.int .i64 a0_14) := (blk_cell BK235.out 14).trans rfl; have hcz31_15 : w30.cell? ⟨gb235, 15, none⟩ = some (.int .i64 a0_15) := (blk_cell BK235.out 15).trans rfl; have hcz31_16 : w30.cell? ⟨gb235, 16, none⟩ = some (.int .i64 a0_16) := (blk_cell BK235.out 16).trans rfl; have hcz31_17 : w30.cell? ⟨gb235, 17, none⟩ = some (.int .i64 a0_17) := (blk_cell BK235.out 17).trans rfl; have hcz31_18 : w30.cell? ⟨gb235, 18, none⟩ = some (.int .i64 a0_18) := (blk_cell BK235.out 18).trans rfl; have hcz31_19 : w30.cell? ⟨gb235, 19, none⟩ = some (.int .i64 a0_19) := (blk_cell BK235.out 19).trans rfl; have hcz31_20 : w30.cell? ⟨gb235, 20, none⟩ = some (.int .i64 a0_20) := (blk_cell BK235.out 20).trans rfl; have hfz31_0 := blk_frozen BK235.out 0; have hfz31_1 := blk_frozen BK235.out 1; have hfz31_2 := blk_frozen BK235.out 2; have hfz31_3 := blk_frozen BK235.out 3; have hfz31_4 := blk_frozen BK235.out 4; have hfz31_5 := blk_frozen BK235.out 5; have hfz31_6 := blk_frozen BK235.out 6; have hfz31_7 := blk_frozen BK235.out 7; have hfz31_8 := blk_frozen BK235.out 8; have hfz31_9 := blk_frozen BK235.out 9; have hfz31_10 := blk_frozen BK235.out 10; have hfz31_11 := blk_frozen BK235.out 11; have hfz31_12 := blk_frozen BK235.out 12; have hfz31_13 := blk_frozen BK235.out 13; have hfz31_14 := blk_frozen BK235.out 14; have hfz31_15 := blk_frozen BK235.out 15; have hfz31_16 := blk_frozen BK235.out 16; have hfz31_17 := blk_frozen BK235.out 17; have hfz31_18 := blk_frozen BK235.out 18; have hfz31_19 := blk_frozen BK235.out 19; have hfz31_20 := blk_frozen BK235.out 20))
           go_ret
           exact ⟨z9_2, z9_3⟩
          ·rw [if_neg c29] at H
           by_cases c32 : ji3 = 9
           ·subst c32
            have H1 : (some a0_9) = some r := z9_7
            clear H
            have H := H1
            clear H1
            obtain rfl := Option.some.inj H
            go_enter Try.func88, Try.ntmps88
            go_wp2_with (first | ((with_reducible refine gate_dst (N := 2) rfl ?_); refine box_event ?hg (N := 2) ?hd (cs := #[.int .i64 a0_0, .int .i64 a0_1, .int .i64 a0_2, .int .i64 a0_3, .int .i64 a0_4, .int .i64 a0_5, .int .i64 a0_6, .int .i64 a0_7, .int .i64 a0_8, .int .i64 a0_9, .int .i64 a0_10, .int .i64 a0_11, .int .i64 a0_12, .int .i64 a0_13, .int .i64 a0_14, .int .i64 a0_15, .int .i64 a0_16, .int .i64 a0_17, .int .i64 a0_18, .int .i64 a0_19, .int .i64 a0_20]) (t := 94) ?hr ?_; (case hd => rfl); (case hg => rfl); (case hr => first | (go_simp; done) | (go_simp; rfl)); intro gb235 hg w33 hbox hb; have n0_ := z9_A (below_step z9_1 hb); have n1_ := z9_A (hbox); have n2_ := z9_A ((z9_4 : w.heap.size ≤ gb235)); have n3_ := z9_A ((z9_4 : w.heap.size ≤ gb235)); clear HB; revert n0_ n1_ n2_ n3_; intro HB BK235 GW235 GE235; clear hb hbox hg; have hcz34_0 : w33.cell? ⟨gb235, 0, none⟩ = some (.int .i64 a0_0) := (blk_cell BK235.out 0).trans rfl; have hcz34_1 : w33.cell? ⟨gb235, 1, none⟩ = some (.int .i64 a0_1) := (blk_cell BK235.out 1).trans rfl; have hcz34_2 : w33.cell? ⟨gb235, 2, none⟩ = some (.int .i64 a0_2) := (blk_cell BK235.out 2).trans rfl; have hcz34_3 : w33.cell? ⟨gb235, 3, none⟩ = some (.int .i64 a0_3) := (blk_cell BK235.out 3).trans rfl; have hcz34_4 : w33.cell? ⟨gb235, 4, none⟩ = some (.int .i64 a0_4) := (blk_cell BK235.out 4).trans rfl; have hcz34_5 : w33.cell? ⟨gb235, 5, none⟩ = some (.int .i64 a0_5) := (blk_cell BK235.out 5).trans rfl; have hcz34_6 : w33.cell? ⟨gb235, 6, none⟩ = some (.int .i64 a0_6) := (blk_cell BK235.out 6).trans rfl; have hcz34_7 : w33.cell? ⟨gb235, 7, none⟩ = some (.int .i64 a0_7) := (blk_cell BK235.out 7).trans rfl; have hcz34_8 : w33.cell? ⟨gb235, 8, none⟩ = some (.int .i64 a0_8) := (blk_cell BK235.out 8).trans rfl; have hcz34_9 : w33.cell? ⟨gb235, 9, none⟩ = some (.int .i64 a0_9) := (blk_cell BK235.out 9).trans rfl; have hcz34_10 : w33.cell? ⟨gb235, 10, none⟩ = some (.int .i64 a0_10) := (blk_cell BK235.out 10).trans rfl; have hcz34_11 : w33.cell? ⟨gb235, 11, none⟩ = some (.int .i64 a0_11) := (blk_cell BK235.out 11).trans rfl; have hcz34_12 : w33.cell? ⟨gb235, 12, none⟩ = some (.int .i64 a0_12) := (blk_cell BK235.out 12).trans rfl; have hcz34_13 : w33.cell? ⟨gb235, 13, none⟩ = some (.int .i64 a0_13) := (blk_cell BK235.out 13).trans rfl; have hcz34_14 : w33.cell? ⟨gb235, 14, none⟩ = some (.int .i64 a0_14) := (blk_cell BK235.out 14).trans rfl; have hcz34_15 : w33.cell? ⟨gb235, 15, none⟩ = some (.int .i64 a0_15) := (blk_cell BK235.out 15).trans rfl; have hcz34_16 : w33.cell? ⟨gb235, 16, none⟩ = some (.int .i64 a0_16) := (blk_cell BK235.out 16).trans rfl; have hcz34_17 : w33.cell? ⟨gb235, 17, none⟩ = some (.int .i64 a0_17) := (blk_cell BK235.out 17).trans rfl; have hcz34_18 : w33.cell? ⟨gb235, 18, none⟩ = some (.int .i64 a0_18) := (blk_cell BK235.out 18).trans rfl; have hcz34_19 : w33.cell? ⟨gb235, 19, none⟩ = some (.int .i64 a0_19) := (blk_cell BK235.out 19).trans rfl; have hcz34_20 : w33.cell? ⟨gb235, 20, none⟩ = some (.int .i64 a0_20) := (blk_cell BK235.out 20).trans rfl; have hfz34_0 := blk_frozen BK235.out 0; have hfz34_1 := blk_frozen BK235.out 1; have hfz34_2 := blk_frozen BK235.out 2; have hfz34_3 := blk_frozen BK235.out 3; have hfz34_4 := blk_frozen BK235.out 4; have hfz34_5 := blk_frozen BK235.out 5; have hfz34_6 := blk_frozen BK235.out 6; have hfz34_7 := blk_frozen BK235.out 7; have hfz34_8 := blk_frozen BK235.out 8; have hfz34_9 := blk_frozen BK235.out 9; have hfz34_10 := blk_frozen BK235.out 10; have hfz34_11 := blk_frozen BK235.out 11; have hfz34_12 := blk_frozen BK235.out 12; have hfz34_13 := blk_frozen BK235.out 13; have hfz34_14 := blk_frozen BK235.out 14; have hfz34_15 := blk_frozen BK235.out 15; have hfz34_16 := blk_frozen BK235.out 16; have hfz34_17 := blk_frozen BK235.out 17; have hfz34_18 := blk_frozen BK235.out 18; have hfz34_19 := blk_frozen BK235.out 19; have hfz34_20 := blk_frozen BK235.out 20))
            go_ret
            exact ⟨z9_2, z9_3⟩
           ·rw [if_neg c32] at H
            by_cases c35 : ji3 = 10
            ·subst c35
             have H1 : (some a0_10) = some r := z9_7
             clear H
             have H := H1
             clear H1
             obtain rfl := Option.some.inj H
             go_enter Try.func88, Try.ntmps88
             go_wp2_with (first | ((with_reducible refine gate_dst (N := 2) rfl ?_); refine box_event ?hg (N := 2) ?hd (cs := #[.int .i64 a0_0, .int .i64 a0_1, .int .i64 a0_2, .int .i64 a0_3, .int .i64 a0_4, .int .i64 a0_5, .int .i64 a0_6, .int .i64 a0_7, .int .i64 a0_8, .int .i64 a0_9, .int .i64 a0_10, .int .i64 a0_11, .int .i64 a0_12, .int .i64 a0_13, .int .i64 a0_14, .int .i64 a0_15, .int .i64 a0_16, .int .i64 a0_17, .int .i64 a0_18, .int .i64 a0_19, .int .i64 a0_20]) (t := 94) ?hr ?_; (case hd => rfl); (case hg => rfl); (case hr => first | (go_simp; done) | (go_simp; rfl)); intro gb235 hg w36 hbox hb; have n0_ := z9_A (below_step z9_1 hb); have n1_ := z9_A (hbox); have n2_ := z9_A ((z9_4 : w.heap.size ≤ gb235)); have n3_ := z9_A ((z9_4 : w.heap.size ≤ gb235)); clear HB; revert n0_ n1_ n2_ n3_; intro HB BK235 GW235 GE235; clear hb hbox hg; have hcz37_0 : w36.cell? ⟨gb235, 0, none⟩ = some (.int .i64 a0_0) := (blk_cell BK235.out 0).trans rfl; have hcz37_1 : w36.cell? ⟨gb235, 1, none⟩ = some (.int .i64 a0_1) := (blk_cell BK235.out 1).trans rfl; have hcz37_2 : w36.cell? ⟨gb235, 2, none⟩ = some (.int .i64 a0_2) := (blk_cell BK235.out 2).trans rfl; have hcz37_3 : w36.cell? ⟨gb235, 3, none⟩ = some (.int .i64 a0_3) := (blk_cell BK235.out 3).trans rfl; have hcz37_4 : w36.cell? ⟨gb235, 4, none⟩ = some (.int .i64 a0_4) := (blk_cell BK235.out 4).trans rfl; have hcz37_5 : w36.cell? ⟨gb235, 5, none⟩ = some (.int .i64 a0_5) := (blk_cell BK235.out 5).trans rfl; have hcz37_6 : w36.cell? ⟨gb235, 6, none⟩ = some (.int .i64 a0_6) := (blk_cell BK235.out 6).trans rfl; have hcz37_7 : w36.cell? ⟨gb235, 7, none⟩ = some (.int .i64 a0_7) := (blk_cell BK235.out 7).trans rfl; have hcz37_8 : w36.cell? ⟨gb235, 8, none⟩ = some (.int .i64 a0_8) := (blk_cell BK235.out 8).trans rfl; have hcz37_9 : w36.cell? ⟨gb235, 9, none⟩ = some (.int .i64 a0_9) := (blk_cell BK235.out 9).trans rfl; have hcz37_10 : w36.cell? ⟨gb235, 10, none⟩ = some (.int .i64 a0_10) := (blk_cell BK235.out 10).trans rfl; have hcz37_11 : w36.cell? ⟨gb235, 11, none⟩ = some (.int .i64 a0_11) := (blk_cell BK235.out 11).trans rfl; have hcz37_12 : w36.cell? ⟨gb235, 12, none⟩ = some (.int .i64 a0_12) := (blk_cell BK235.out 12).trans rfl; have hcz37_13 : w36.cell? ⟨gb235, 13, none⟩ = some (.int .i64 a0_13) := (blk_cell BK235.out 13).trans rfl; have hcz37_14 : w36.cell? ⟨gb235, 14, none⟩ = some (.int .i64 a0_14) := (blk_cell BK235.out 14).trans rfl; have hcz37_15 : w36.cell? ⟨gb235, 15, none⟩ = some (.int .i64 a0_15) := (blk_cell BK235.out 15).trans rfl; have hcz37_16 : w36.cell? ⟨gb235, 16, none⟩ = some (.int .i64 a0_16) := (blk_cell BK235.out 16).trans rfl; have hcz37_17 : w36.cell? ⟨gb235, 17, none⟩ = some (.int .i64 a0_17) := (blk_cell BK235.out 17).trans rfl; have hcz37_18 : w36.cell? ⟨gb235, 18, none⟩ = some (.int .i64 a0_18) := (blk_cell BK235.out 18).trans rfl; have hcz37_19 : w36.cell? ⟨gb235, 19, none⟩ = some (.int .i64 a0_19) := (blk_cell BK235.out 19).trans rfl; have hcz37_20 : w36.cell? ⟨gb235, 20, none⟩ = some (.int .i64 a0_20) := (blk_cell BK235.out 20).trans rfl; have hfz37_0 := blk_frozen BK235.out 0; have hfz37_1 := blk_frozen BK235.out 1; have hfz37_2 := blk_frozen BK235.out 2; have hfz37_3 := blk_frozen BK235.out 3; have hfz37_4 := blk_frozen BK235.out 4; have hfz37_5 := blk_frozen BK235.out 5; have hfz37_6 := blk_frozen BK235.out 6; have hfz37_7 := blk_frozen BK235.out 7; have hfz37_8 := blk_frozen BK235.out 8; have hfz37_9 := blk_frozen BK235.out 9; have hfz37_10 := blk_frozen BK235.out 10; have hfz37_11 := blk_frozen BK235.out 11; have hfz37_12 := blk_frozen BK235.out 12; have hfz37_13 := blk_frozen BK235.out 13; have hfz37_14 := blk_frozen BK235.out 14; have hfz37_15 := blk_frozen BK235.out 15; have hfz37_16 := blk_frozen BK235.out 16; have hfz37_17 := blk_frozen BK235.out 17; have hfz37_18 := blk_frozen BK235.out 18; have hfz37_19 := blk_frozen BK235.out 19; have hfz37_20 := blk_frozen BK235.out 20))
             go_ret
             exact ⟨z9_2, z9_3⟩
            ·rw [if_neg c35] at H
             by_cases c38 : ji3 = 11
             ·subst c38
              have H1 : (some a0_11) = some r := z9_7
              clear H
              have H := H1
              clear H1
              obtain rfl := Option.some.inj H
              go_enter Try.func88, Try.ntmps88
              go_wp2_with (first | ((with_reducible refine gate_dst (N := 2) rfl ?_); refine box_event ?hg (N := 2) ?hd (cs := #[.int .i64 a0_0, .int .i64 a0_1, .int .i64 a0_2, .int .i64 a0_3, .int .i64 a0_4, .int .i64 a0_5, .int .i64 a0_6, .int .i64 a0_7, .int .i64 a0_8, .int .i64 a0_9, .int .i64 a0_10, .int .i64 a0_11, .int .i64 a0_12, .int .i64 a0_13, .int .i64 a0_14, .int .i64 a0_15, .int .i64 a0_16, .int .i64 a0_17, .int .i64 a0_18, .int .i64 a0_19, .int .i64 a0_20]) (t := 94) ?hr ?_; (case hd => rfl); (case hg => rfl); (case hr => first | (go_simp; done) | (go_simp; rfl)); intro gb235 hg w39 hbox hb; have n0_ := z9_A (below_step z9_1 hb); have n1_ := z9_A (hbox); have n2_ := z9_A ((z9_4 : w.heap.size ≤ gb235)); have n3_ := z9_A ((z9_4 : w.heap.size ≤ gb235)); clear HB; revert n0_ n1_ n2_ n3_; intro HB BK235 GW235 GE235; clear hb hbox hg; have hcz40_0 : w39.cell? ⟨gb235, 0, none⟩ = some (.int .i64 a0_0) := (blk_cell BK235.out 0).trans rfl; have hcz40_1 : w39.cell? ⟨gb235, 1, none⟩ = some (.int .i64 a0_1) := (blk_cell BK235.out 1).trans rfl; have hcz40_2 : w39.cell? ⟨gb235, 2, none⟩ = some (.int .i64 a0_2) := (blk_cell BK235.out 2).trans rfl; have hcz40_3 : w39.cell? ⟨gb235, 3, none⟩ = some (.int .i64 a0_3) := (blk_cell BK235.out 3).trans rfl; have hcz40_4 : w39.cell? ⟨gb235, 4, none⟩ = some (.int .i64 a0_4) := (blk_cell BK235.out 4).trans rfl; have hcz40_5 : w39.cell? ⟨gb235, 5, none⟩ = some (.int .i64 a0_5) := (blk_cell BK235.out 5).trans rfl; have hcz40_6 : w39.cell? ⟨gb235, 6, none⟩ = some (.int .i64 a0_6) := (blk_cell BK235.out 6).trans rfl; have hcz40_7 : w39.cell? ⟨gb235, 7, none⟩ = some (.int .i64 a0_7) := (blk_cell BK235.out 7).trans rfl; have hcz40_8 : w39.cell? ⟨gb235, 8, none⟩ = some (.int .i64 a0_8) := (blk_cell BK235.out 8).trans rfl; have hcz40_9 : w39.cell? ⟨gb235, 9, none⟩ = some (.int .i64 a0_9) := (blk_cell BK235.out 9).trans rfl; have hcz40_10 : w39.cell? ⟨gb235, 10, none⟩ = some (.int .i64 a0_10) := (blk_cell BK235.out 10).trans rfl; have hcz40_11 : w39.cell? ⟨gb235, 11, none⟩ = some (.int .i64 a0_11) := (blk_cell BK235.out 11).trans rfl; have hcz40_12 : w39.cell? ⟨gb235, 12, none⟩ = some (.int .i64 a0_12) := (blk_cell BK235.out 12).trans rfl; have hcz40_13 : w39.cell? ⟨gb235, 13, none⟩ = some (.int .i64 a0_13) := (blk_cell BK235.out 13).trans rfl; have hcz40_14 : w39.cell? ⟨gb235, 14, none⟩ = some (.int .i64 a0_14) := (blk_cell BK235.out 14).trans rfl; have hcz40_15 : w39.cell? ⟨gb235, 15, none⟩ = some (.int .i64 a0_15) := (blk_cell BK235.out 15).trans rfl; have hcz40_16 : w39.cell? ⟨gb235, 16, none⟩ = some (.int .i64 a0_16) := (blk_cell BK235.out 16).trans rfl; have hcz40_17 : w39.cell? ⟨gb235, 17, none⟩ = some (.int .i64 a0_17) := (blk_cell BK235.out 17).trans rfl; have hcz40_18 : w39.cell? ⟨gb235, 18, none⟩ = some (.int .i64 a0_18) := (blk_cell BK235.out 18).trans rfl; have hcz40_19 : w39.cell? ⟨gb235, 19, none⟩ = some (.int .i64 a0_19) := (blk_cell BK235.out 19).trans rfl; have hcz40_20 : w39.cell? ⟨gb235, 20, none⟩ = some (.int .i64 a0_20) := (blk_cell BK235.out 20).trans rfl; have hfz40_0 := blk_frozen BK235.out 0; have hfz40_1 := blk_frozen BK235.out 1; have hfz40_2 := blk_frozen BK235.out 2; have hfz40_3 := blk_frozen BK235.out 3; have hfz40_4 := blk_frozen BK235.out 4; have hfz40_5 := blk_frozen BK235.out 5; have hfz40_6 := blk_frozen BK235.out 6; have hfz40_7 := blk_frozen BK235.out 7; have hfz40_8 := blk_frozen BK235.out 8; have hfz40_9 := blk_frozen BK235.out 9; have hfz40_10 := blk_frozen BK235.out 10; have hfz40_11 := blk_frozen BK235.out 11; have hfz40_12 := blk_frozen BK235.out 12; have hfz40_13 := blk_frozen BK235.out 13; have hfz40_14 := blk_frozen BK235.out 14; have hfz40_15 := blk_frozen BK235.out 15; have hfz40_16 := blk_frozen BK235.out 16; have hfz40_17 := blk_frozen BK235.out 17; have hfz40_18 := blk_frozen BK235.out 18; have hfz40_19 := blk_frozen BK235.out 19; have hfz40_20 := blk_frozen BK235.out 20))
              go_ret
              exact ⟨z9_2, z9_3⟩
             ·rw [if_neg c38] at H
              by_cases c41 : ji3 = 12
              ·subst c41
               have H1 : (some a0_12) = some r := z9_7
               clear H
               have H := H1
               clear H1
               obtain rfl := Option.some.inj H
               go_enter Try.func88, Try.ntmps88
               go_wp2_with (first | ((with_reducible refine gate_dst (N := 2) rfl ?_); refine box_event ?hg (N := 2) ?hd (cs := #[.int .i64 a0_0, .int .i64 a0_1, .int .i64 a0_2, .int .i64 a0_3, .int .i64 a0_4, .int .i64 a0_5, .int .i64 a0_6, .int .i64 a0_7, .int .i64 a0_8, .int .i64 a0_9, .int .i64 a0_10, .int .i64 a0_11, .int .i64 a0_12, .int .i64 a0_13, .int .i64 a0_14, .int .i64 a0_15, .int .i64 a0_16, .int .i64 a0_17, .int .i64 a0_18, .int .i64 a0_19, .int .i64 a0_20]) (t := 94) ?hr ?_; (case hd => rfl); (case hg => rfl); (case hr => first | (go_simp; done) | (go_simp; rfl)); intro gb235 hg w42 hbox hb; have n0_ := z9_A (below_step z9_1 hb); have n1_ := z9_A (hbox); have n2_ := z9_A ((z9_4 : w.heap.size ≤ gb235)); have n3_ := z9_A ((z9_4 : w.heap.size ≤ gb235)); clear HB; revert n0_ n1_ n2_ n3_; intro HB BK235 GW235 GE235; clear hb hbox hg; have hcz43_0 : w42.cell? ⟨gb235, 0, none⟩ = some (.int .i64 a0_0) := (blk_cell BK235.out 0).trans rfl; have hcz43_1 : w42.cell? ⟨gb235, 1, none⟩ = some (.int .i64 a0_1) := (blk_cell BK235.out 1).trans rfl; have hcz43_2 : w42.cell? ⟨gb235, 2, none⟩ = some (.int .i64 a0_2) := (blk_cell BK235.out 2).trans rfl; have hcz43_3 : w42.cell? ⟨gb235, 3, none⟩ = some (.int .i64 a0_3) := (blk_cell BK235.out 3).trans rfl; have hcz43_4 : w42.cell? ⟨gb235, 4, none⟩ = some (.int .i64 a0_4) := (blk_cell BK235.out 4).trans rfl; have hcz43_5 : w42.cell? ⟨gb235, 5, none⟩ = some (.int .i64 a0_5) := (blk_cell BK235.out 5).trans rfl; have hcz43_6 : w42.cell? ⟨gb235, 6, none⟩ = some (.int .i64 a0_6) := (blk_cell BK235.out 6).trans rfl; have hcz43_7 : w42.cell? ⟨gb235, 7, none⟩ = some (.int .i64 a0_7) := (blk_cell BK235.out 7).trans rfl; have hcz43_8 : w42.cell? ⟨gb235, 8, none⟩ = some (.int .i64 a0_8) := (blk_cell BK235.out 8).trans rfl; have hcz43_9 : w42.cell? ⟨gb235, 9, none⟩ = some (.int .i64 a0_9) := (blk_cell BK235.out 9).trans rfl; have hcz43_10 : w42.cell? ⟨gb235, 10, none⟩ = some (.int .i64 a0_10) := (blk_cell BK235.out 10).trans rfl; have hcz43_11 : w42.cell? ⟨gb235, 11, none⟩ = some (.int .i64 a0_11) := (blk_cell BK235.out 11).trans rfl; have hcz43_12 : w42.cell? ⟨gb235, 12, none⟩ = some (.int .i64 a0_12) := (blk_cell BK235.out 12).trans rfl; have hcz43_13 : w42.cell? ⟨gb235, 13, none⟩ = some (.int .i64 a0_13) := (blk_cell BK235.out 13).trans rfl; have hcz43_14 : w42.cell? ⟨gb235, 14, none⟩ = some (.int .i64 a0_14) := (blk_cell BK235.out 14).trans rfl; have hcz43_15 : w42.cell? ⟨gb235, 15, none⟩ = some (.int .i64 a0_15) := (blk_cell BK235.out 15).trans rfl; have hcz43_16 : w42.cell? ⟨gb235, 16, none⟩ = some (.int .i64 a0_16) := (blk_cell BK235.out 16).trans rfl; have hcz43_17 : w42.cell? ⟨gb235, 17, none⟩ = some (.int .i64 a0_17) := (blk_cell BK235.out 17).trans rfl; have hcz43_18 : w42.cell? ⟨gb235, 18, none⟩ = some (.int .i64 a0_18) := (blk_cell BK235.out 18).trans rfl; have hcz43_19 : w42.cell? ⟨gb235, 19, none⟩ = some (.int .i64 a0_19) := (blk_cell BK235.out 19).trans rfl; have hcz43_20 : w42.cell? ⟨gb235, 20, none⟩ = some (.int .i64 a0_20) := (blk_cell BK235.out 20).trans rfl; have hfz43_0 := blk_frozen BK235.out 0; have hfz43_1 := blk_frozen BK235.out 1; have hfz43_2 := blk_frozen BK235.out 2; have hfz43_3 := blk_frozen BK235.out 3; have hfz43_4 := blk_frozen BK235.out 4; have hfz43_5 := blk_frozen BK235.out 5; have hfz43_6 := blk_frozen BK235.out 6; have hfz43_7 := blk_frozen BK235.out 7; have hfz43_8 := blk_frozen BK235.out 8; have hfz43_9 := blk_frozen BK235.out 9; have hfz43_10 := blk_frozen BK235.out 10; have hfz43_11 := blk_frozen BK235.out 11; have hfz43_12 := blk_frozen BK235.out 12; have hfz43_13 := blk_frozen BK235.out 13; have hfz43_14 := blk_frozen BK235.out 14; have hfz43_15 := blk_frozen BK235.out 15; have hfz43_16 := blk_frozen BK235.out 16; have hfz43_17 := blk_frozen BK235.out 17; have hfz43_18 := blk_frozen BK235.out 18; have hfz43_19 := blk_frozen BK235.out 19; have hfz43_20 := blk_frozen BK235.out 20))
               go_ret
               exact ⟨z9_2, z9_3⟩
              ·rw [if_neg c41] at H
               by_cases c44 : ji3 = 13
               ·subst c44
                have H1 : (some a0_13) = some r := z9_7
                clear H
                have H := H1
                clear H1
                obtain rfl := Option.some.inj H
                go_enter Try.func88, Try.ntmps88
                go_wp2_with (first | ((with_reducible refine gate_dst (N := 2) rfl ?_); refine box_event ?hg (N := 2) ?hd (cs := #[.int .i64 a0_0, .int .i64 a0_1, .int .i64 a0_2, .int .i64 a0_3, .int .i64 a0_4, .int .i64 a0_5, .int .i64 a0_6, .int .i64 a0_7, .int .i64 a0_8, .int .i64 a0_9, .int .i64 a0_10, .int .i64 a0_11, .int .i64 a0_12, .int .i64 a0_13, .int .i64 a0_14, .int .i64 a0_15, .int .i64 a0_16, .int .i64 a0_17, .int .i64 a0_18, .int .i64 a0_19, .int .i64 a0_20]) (t := 94) ?hr ?_; (case hd => rfl); (case hg => rfl); (case hr => first | (go_simp; done) | (go_simp; rfl)); intro gb235 hg w45 hbox hb; have n0_ := z9_A (below_step z9_1 hb); have n1_ := z9_A (hbox); have n2_ := z9_A ((z9_4 : w.heap.size ≤ gb235)); have n3_ := z9_A ((z9_4 : w.heap.size ≤ gb235)); clear HB; revert n0_ n1_ n2_ n3_; intro HB BK235 GW235 GE235; clear hb hbox hg; have hcz46_0 : w45.cell? ⟨gb235, 0, none⟩ = some (.int .i64 a0_0) := (blk_cell BK235.out 0).trans rfl; have hcz46_1 : w45.cell? ⟨gb235, 1, none⟩ = some (.int .i64 a0_1) := (blk_cell BK235.out 1).trans rfl; have hcz46_2 : w45.cell? ⟨gb235, 2, none⟩ = some (.int .i64 a0_2) := (blk_cell BK235.out 2).trans rfl; have hcz46_3 : w45.cell? ⟨gb235, 3, none⟩ = some (.int .i64 a0_3) := (blk_cell BK235.out 3).trans rfl; have hcz46_4 : w45.cell? ⟨gb235, 4, none⟩ = some (.int .i64 a0_4) := (blk_cell BK235.out 4).trans rfl; have hcz46_5 : w45.cell? ⟨gb235, 5, none⟩ = some (.int .i64 a0_5) := (blk_cell BK235.out 5).trans rfl; have hcz46_6 : w45.cell? ⟨gb235, 6, none⟩ = some (.int .i64 a0_6) := (blk_cell BK235.out 6).trans rfl; have hcz46_7 : w45.cell? ⟨gb235, 7, none⟩ = some (.int .i64 a0_7) := (blk_cell BK235.out 7).trans rfl; have hcz46_8 : w45.cell? ⟨gb235, 8, none⟩ = some (.int .i64 a0_8) := (blk_cell BK235.out 8).trans rfl; have hcz46_9 : w45.cell? ⟨gb235, 9, none⟩ = some (.int .i64 a0_9) := (blk_cell BK235.out 9).trans rfl; have hcz46_10 : w45.cell? ⟨gb235, 10, none⟩ = some (.int .i64 a0_10) := (blk_cell BK235.out 10).trans rfl; have hcz46_11 : w45.cell? ⟨gb235, 11, none⟩ = some (.int .i64 a0_11) := (blk_cell BK235.out 11).trans rfl; have hcz46_12 : w45.cell? ⟨gb235, 12, none⟩ = some (.int .i64 a0_12) := (blk_cell BK235.out 12).trans rfl; have hcz46_13 : w45.cell? ⟨gb235, 13, none⟩ = some (.int .i64 a0_13) := (blk_cell BK235.out 13).trans rfl; have hcz46_14 : w45.cell? ⟨gb235, 14, none⟩ = some (.int .i64 a0_14) := (blk_cell BK235.out 14).trans rfl; have hcz46_15 : w45.cell? ⟨gb235, 15, none⟩ = some (.int .i64 a0_15) := (blk_cell BK235.out 15).trans rfl; have hcz46_16 : w45.cell? ⟨gb235, 16, none⟩ = some (.int .i64 a0_16) := (blk_cell BK235.out 16).trans rfl; have hcz46_17 : w45.cell? ⟨gb235, 17, none⟩ = some (.int .i64 a0_17) := (blk_cell BK235.out 17).trans rfl; have hcz46_18 : w45.cell? ⟨gb235, 18, none⟩ = some (.int .i64 a0_18) := (blk_cell BK235.out 18).trans rfl; have hcz46_19 : w45.cell? ⟨gb235, 19, none⟩ = some (.int .i64 a0_19) := (blk_cell BK235.out 19).trans rfl; have hcz46_20 : w45.cell? ⟨gb235, 20, none⟩ = some (.int .i64 a0_20) := (blk_cell BK235.out 20).trans rfl; have hfz46_0 := blk_frozen BK235.out 0; have hfz46_1 := blk_frozen BK235.out 1; have hfz46_2 := blk_frozen BK235.out 2; have hfz46_3 := blk_frozen BK235.out 3; have hfz46_4 := blk_frozen BK235.out 4; have hfz46_5 := blk_frozen BK235.out 5; have hfz46_6 := blk_frozen BK235.out 6; have hfz46_7 := blk_frozen BK235.out 7; have hfz46_8 := blk_frozen BK235.out 8; have hfz46_9 := blk_frozen BK235.out 9; have hfz46_10 := blk_frozen BK235.out 10; have hfz46_11 := blk_frozen BK235.out 11; have hfz46_12 := blk_frozen BK235.out 12; have hfz46_13 := blk_frozen BK235.out 13; have hfz46_14 := blk_frozen BK235.out 14; have hfz46_15 := blk_frozen BK235.out 15; have hfz46_16 := blk_frozen BK235.out 16; have hfz46_17 := blk_frozen BK235.out 17; have hfz46_18 := blk_frozen BK235.out 18; have hfz46_19 := blk_frozen BK235.out 19; have hfz46_20 := blk_frozen BK235.out 20))
                go_ret
                exact ⟨z9_2, z9_3⟩
               ·rw [if_neg c44] at H
                by_cases c47 : ji3 = 14
                ·subst c47
                 have H1 : (some a0_14) = some r := z9_7
                 clear H
                 have H := H1
                 clear H1
                 obtain rfl := Option.some.inj H
                 go_enter Try.func88, Try.ntmps88
                 go_wp2_with (first | ((with_reducible refine gate_dst (N := 2) rfl ?_); refine box_event ?hg (N := 2) ?hd (cs := #[.int .i64 a0_0, .int .i64 a0_1, .int .i64 a0_2, .int .i64 a0_3, .int .i64 a0_4, .int .i64 a0_5, .int .i64 a0_6, .int .i64 a0_7, .int .i64 a0_8, .int .i64 a0_9, .int .i64 a0_10, .int .i64 a0_11, .int .i64 a0_12, .int .i64 a0_13, .int .i64 a0_14, .int .i64 a0_15, .int .i64 a0_16, .int .i64 a0_17, .int .i64 a0_18, .int .i64 a0_19, .int .i64 a0_20]) (t := 94) ?hr ?_; (case hd => rfl); (case hg => rfl); (case hr => first | (go_simp; done) | (go_simp; rfl)); intro gb235 hg w48 hbox hb; have n0_ := z9_A (below_step z9_1 hb); have n1_ := z9_A (hbox); have n2_ := z9_A ((z9_4 : w.heap.size ≤ gb235)); have n3_ := z9_A ((z9_4 : w.heap.size ≤ gb235)); clear HB; revert n0_ n1_ n2_ n3_; intro HB BK235 GW235 GE235; clear hb hbox hg; have hcz49_0 : w48.cell? ⟨gb235, 0, none⟩ = some (.int .i64 a0_0) := (blk_cell BK235.out 0).trans rfl; have hcz49_1 : w48.cell? ⟨gb235, 1, none⟩ = some (.int .i64 a0_1) := (blk_cell BK235.out 1).trans rfl; have hcz49_2 : w48.cell? ⟨gb235, 2, none⟩ = some (.int .i64 a0_2) := (blk_cell BK235.out 2).trans rfl; have hcz49_3 : w48.cell? ⟨gb235, 3, none⟩ = some (.int .i64 a0_3) := (blk_cell BK235.out 3).trans rfl; have hcz49_4 : w48.cell? ⟨gb235, 4, none⟩ = some (.int .i64 a0_4) := (blk_cell BK235.out 4).trans rfl; have hcz49_5 : w48.cell? ⟨gb235, 5, none⟩ = some (.int .i64 a0_5) := (blk_cell BK235.out 5).trans rfl; have hcz49_6 : w48.cell? ⟨gb235, 6, none⟩ = some (.int .i64 a0_6) := (blk_cell BK235.out 6).trans rfl; have hcz49_7 : w48.cell? ⟨gb235, 7, none⟩ = some (.int .i64 a0_7) := (blk_cell BK235.out 7).trans rfl; have hcz49_8 : w48.cell? ⟨gb235, 8, none⟩ = some (.int .i64 a0_8) := (blk_cell BK235.out 8).trans rfl; have hcz49_9 : w48.cell? ⟨gb235, 9, none⟩ = some (.int .i64 a0_9) := (blk_cell BK235.out 9).trans rfl; have hcz49_10 : w48.cell? ⟨gb235, 10, none⟩ = some (.int .i64 a0_10) := (blk_cell BK235.out 10).trans rfl; have hcz49_11 : w48.cell? ⟨gb235, 11, none⟩ = some (.int .i64 a0_11) := (blk_cell BK235.out 11).trans rfl; have hcz49_12 : w48.cell? ⟨gb235, 12, none⟩ = some (.int .i64 a0_12) := (blk_cell BK235.out 12).trans rfl; have hcz49_13 : w48.cell? ⟨gb235, 13, none⟩ = some (.int .i64 a0_13) := (blk_cell BK235.out 13).trans rfl; have hcz49_14 : w48.cell? ⟨gb235, 14, none⟩ = some (.int .i64 a0_14) := (blk_cell BK235.out 14).trans rfl; have hcz49_15 : w48.cell? ⟨gb235, 15, none⟩ = some (.int .i64 a0_15) := (blk_cell BK235.out 15).trans rfl; have hcz49_16 : w48.cell? ⟨gb235, 16, none⟩ = some (.int .i64 a0_16) := (blk_cell BK235.out 16).trans rfl; have hcz49_17 : w48.cell? ⟨gb235, 17, none⟩ = some (.int .i64 a0_17) := (blk_cell BK235.out 17).trans rfl; have hcz49_18 : w48.cell? ⟨gb235, 18, none⟩ = some (.int .i64 a0_18) := (blk_cell BK235.out 18).trans rfl; have hcz49_19 : w48.cell? ⟨gb235, 19, none⟩ = some (.int .i64 a0_19) := (blk_cell BK235.out 19).trans rfl; have hcz49_20 : w48.cell? ⟨gb235, 20, none⟩ = some (.int .i64 a0_20) := (blk_cell BK235.out 20).trans rfl; have hfz49_0 := blk_frozen BK235.out 0; have hfz49_1 := blk_frozen BK235.out 1; have hfz49_2 := blk_frozen BK235.out 2; have hfz49_3 := blk_frozen BK235.out 3; have hfz49_4 := blk_frozen BK235.out 4; have hfz49_5 := blk_frozen BK235.out 5; have hfz49_6 := blk_frozen BK235.out 6; have hfz49_7 := blk_frozen BK235.out 7; have hfz49_8 := blk_frozen BK235.out 8; have hfz49_9 := blk_frozen BK235.out 9; have hfz49_10 := blk_frozen BK235.out 10; have hfz49_11 := blk_frozen BK235.out 11; have hfz49_12 := blk_frozen BK235.out 12; have hfz49_13 := blk_frozen BK235.out 13; have hfz49_14 := blk_frozen BK235.out 14; have hfz49_15 := blk_frozen BK235.out 15; have hfz49_16 := blk_frozen BK235.out 16; have hfz49_17 := blk_frozen BK235.out 17; have hfz49_18 := blk_frozen BK235.out 18; have hfz49_19 := blk_frozen BK235.out 19; have hfz49_20 := blk_frozen BK235.out 20))
                 go_ret
                 exact ⟨z9_2, z9_3⟩
                ·rw [if_neg c47] at H
                 by_cases c50 : ji3 = 15
                 ·subst c50
                  have H1 : (some a0_15) = some r := z9_7
                  clear H
                  have H := H1
                  clear H1
                  obtain rfl := Option.some.inj H
                  go_enter Try.func88, Try.ntmps88
                  go_wp2_with (first | ((with_reducible refine gate_dst (N := 2) rfl ?_); refine box_event ?hg (N := 2) ?hd (cs := #[.int .i64 a0_0, .int .i64 a0_1, .int .i64 a0_2, .int .i64 a0_3, .int .i64 a0_4, .int .i64 a0_5, .int .i64 a0_6, .int .i64 a0_7, .int .i64 a0_8, .int .i64 a0_9, .int .i64 a0_10, .int .i64 a0_11, .int .i64 a0_12, .int .i64 a0_13, .int .i64 a0_14, .int .i64 a0_15, .int .i64 a0_16, .int .i64 a0_17, .int .i64 a0_18, .int .i64 a0_19, .int .i64 a0_20]) (t := 94) ?hr ?_; (case hd => rfl); (case hg => rfl); (case hr => first | (go_simp; done) | (go_simp; rfl)); intro gb235 hg w51 hbox hb; have n0_ := z9_A (below_step z9_1 hb); have n1_ := z9_A (hbox); have n2_ := z9_A ((z9_4 : w.heap.size ≤ gb235)); have n3_ := z9_A ((z9_4 : w.heap.size ≤ gb235)); clear HB; revert n0_ n1_ n2_ n3_; intro HB BK235 GW235 GE235; clear hb hbox hg; have hcz52_0 : w51.cell? ⟨gb235, 0, none⟩ = some (.int .i64 a0_0) := (blk_cell BK235.out 0).trans rfl; have hcz52_1 : w51.cell? ⟨gb235, 1, none⟩ = some (.int .i64 a0_1) := (blk_cell BK235.out 1).trans rfl; have hcz52_2 : w51.cell? ⟨gb235, 2, none⟩ = some (.int .i64 a0_2) := (blk_cell BK235.out 2).trans rfl; have hcz52_3 : w51.cell? ⟨gb235, 3, none⟩ = some (.int .i64 a0_3) := (blk_cell BK235.out 3).trans rfl; have hcz52_4 : w51.cell? ⟨gb235, 4, none⟩ = some (.int .i64 a0_4) := (blk_cell BK235.out 4).trans rfl; have hcz52_5 : w51.cell? ⟨gb235, 5, none⟩ = some (.int .i64 a0_5) := (blk_cell BK235.out 5).trans rfl; have hcz52_6 : w51.cell? ⟨gb235, 6, none⟩ = some (.int .i64 a0_6) := (blk_cell BK235.out 6).trans rfl; have hcz52_7 : w51.cell? ⟨gb235, 7, none⟩ = some (.int .i64 a0_7) := (blk_cell BK235.out 7).trans rfl; have hcz52_8 : w51.cell? ⟨gb235, 8, none⟩ = some (.int .i64 a0_8) := (blk_cell BK235.out 8).trans rfl; have hcz52_9 : w51.cell? ⟨gb235, 9, none⟩ = some (.int .i64 a0_9) := (blk_cell BK235.out 9).trans rfl; have hcz52_10 : w51.cell? ⟨gb235, 10, none⟩ = some (.int .i64 a0_10) := (blk_cell BK235.out 10).trans rfl; have hcz52_11 : w51.cell? ⟨gb235, 11, none⟩ = some (.int .i64 a0_11) := (blk_cell BK235.out 11).trans rfl; have hcz52_12 : w51.cell? ⟨gb235, 12, none⟩ = some (.int .i64 a0_12) := (blk_cell BK235.out 12).trans rfl; have hcz52_13 : w51.cell? ⟨gb235, 13, none⟩ = some (.int .i64 a0_13) := (blk_cell BK235.out 13).trans rfl; have hcz52_14 : w51.cell? ⟨gb235, 14, none⟩ = some (.int .i64 a0_14) := (blk_cell BK235.out 14).trans rfl; have hcz52_15 : w51.cell? ⟨gb235, 15, none⟩ = some (.int .i64 a0_15) := (blk_cell BK235.out 15).trans rfl; have hcz52_16 : w51.cell? ⟨gb235, 16, none⟩ = some (.int .i64 a0_16) := (blk_cell BK235.out 16).trans rfl; have hcz52_17 : w51.cell? ⟨gb235, 17, none⟩ = some (.int .i64 a0_17) := (blk_cell BK235.out 17).trans rfl; have hcz52_18 : w51.cell? ⟨gb235, 18, none⟩ = some (.int .i64 a0_18) := (blk_cell BK235.out 18).trans rfl; have hcz52_19 : w51.cell? ⟨gb235, 19, none⟩ = some (.int .i64 a0_19) := (blk_cell BK235.out 19).trans rfl; have hcz52_20 : w51.cell? ⟨gb235, 20, none⟩ = some (.int .i64 a0_20) := (blk_cell BK235.out 20).trans rfl; have hfz52_0 := blk_frozen BK235.out 0; have hfz52_1 := blk_frozen BK235.out 1; have hfz52_2 := blk_frozen BK235.out 2; have hfz52_3 := blk_frozen BK235.out 3; have hfz52_4 := blk_frozen BK235.out 4; have hfz52_5 := blk_frozen BK235.out 5; have hfz52_6 := blk_frozen BK235.out 6; have hfz52_7 := blk_frozen BK235.out 7; have hfz52_8 := blk_frozen BK235.out 8; have hfz52_9 := blk_frozen BK235.out 9; have hfz52_10 := blk_frozen BK235.out 10; have hfz52_11 := blk_frozen BK235.out 11; have hfz52_12 := blk_frozen BK235.out 12; have hfz52_13 := blk_frozen BK235.out 13; have hfz52_14 := blk_frozen BK235.out 14; have hfz52_15 := blk_frozen BK235.out 15; have hfz52_16 := blk_frozen BK235.out 16; have hfz52_17 := blk_frozen BK235.out 17; have hfz52_18 := blk_frozen BK235.out 18; have hfz52_19 := blk_frozen BK235.out 19; have hfz52_20 := blk_frozen BK235.out 20))
                  go_ret
                  exact ⟨z9_2, z9_3⟩
                 ·rw [if_neg c50] at H
                  by_cases c53 : ji3 = 16
                  ·subst c53
                   have H1 : (some a0_16) = some r := z9_7
                   clear H
                   have H := H1
                   clear H1
                   obtain rfl := Option.some.inj H
                   go_enter Try.func88, Try.ntmps88
                   go_wp2_with (first | ((with_reducible refine gate_dst (N := 2) rfl ?_); refine box_event ?hg (N := 2) ?hd (cs := #[.int .i64 a0_0, .int .i64 a0_1, .int .i64 a0_2, .int .i64 a0_3, .int .i64 a0_4, .int .i64 a0_5, .int .i64 a0_6, .int .i64 a0_7, .int .i64 a0_8, .int .i64 a0_9, .int .i64 a0_10, .int .i64 a0_11, .int .i64 a0_12, .int .i64 a0_13, .int .i64 a0_14, .int .i64 a0_15, .int .i64 a0_16, .int .i64 a0_17, .int .i64 a0_18, .int .i64 a0_19, .int .i64 a0_20]) (t := 94) ?hr ?_; (case hd => rfl); (case hg => rfl); (case hr => first | (go_simp; done) | (go_simp; rfl)); intro gb235 hg w54 hbox hb; have n0_ := z9_A (below_step z9_1 hb); have n1_ := z9_A (hbox); have n2_ := z9_A ((z9_4 : w.heap.size ≤ gb235)); have n3_ := z9_A ((z9_4 : w.heap.size ≤ gb235)); clear HB; revert n0_ n1_ n2_ n3_; intro HB BK235 GW235 GE235; clear hb hbox hg; have hcz55_0 : w54.cell? ⟨gb235, 0, none⟩ = some (.int .i64 a0_0) := (blk_cell BK235.out 0).trans rfl; have hcz55_1 : w54.cell? ⟨gb235, 1, none⟩ = some (.int .i64 a0_1) := (blk_cell BK235.out 1).trans rfl; have hcz55_2 : w54.cell? ⟨gb235, 2, none⟩ = some (.int .i64 a0_2) := (blk_cell BK235.out 2).trans rfl; have hcz55_3 : w54.cell? ⟨gb235, 3, none⟩ = some (.int .i64 a0_3) := (blk_cell BK235.out 3).trans rfl; have hcz55_4 : w54.cell? ⟨gb235, 4, none⟩ = some (.int .i64 a0_4) := (blk_cell BK235.out 4).trans rfl; have hcz55_5 : w54.cell? ⟨gb235, 5, none⟩ = some (.int .i64 a0_5) := (blk_cell BK235.out 5).trans rfl; have hcz55_6 : w54.cell? ⟨gb235, 6, none⟩ = some (.int .i64 a0_6) := (blk_cell BK235.out 6).trans rfl; have hcz55_7 : w54.cell? ⟨gb235, 7, none⟩ = some (.int .i64 a0_7) := (blk_cell BK235.out 7).trans rfl; have hcz55_8 : w54.cell? ⟨gb235, 8, none⟩ = some (.int .i64 a0_8) := (blk_cell BK235.out 8).trans rfl; have hcz55_9 : w54.cell? ⟨gb235, 9, none⟩ = some (.int .i64 a0_9) := (blk_cell BK235.out 9).trans rfl; have hcz55_10 : w54.cell? ⟨gb235, 10, none⟩ = some (.int .i64 a0_10) := (blk_cell BK235.out 10).trans rfl; have hcz55_11 : w54.cell? ⟨gb235, 11, none⟩ = some (.int .i64 a0_11) := (blk_cell BK235.out 11).trans rfl; have hcz55_12 : w54.cell? ⟨gb235, 12, none⟩ = some (.int .i64 a0_12) := (blk_cell BK235.out 12).trans rfl; have hcz55_13 : w54.cell? ⟨gb235, 13, none⟩ = some (.int .i64 a0_13) := (blk_cell BK235.out 13).trans rfl; have hcz55_14 : w54.cell? ⟨gb235, 14, none⟩ = some (.int .i64 a0_14) := (blk_cell BK235.out 14).trans rfl; have hcz55_15 : w54.cell? ⟨gb235, 15, none⟩ = some (.int .i64 a0_15) := (blk_cell BK235.out 15).trans rfl; have hcz55_16 : w54.cell? ⟨gb235, 16, none⟩ = some (.int .i64 a0_16) := (blk_cell BK235.out 16).trans rfl; have hcz55_17 : w54.cell? ⟨gb235, 17, none⟩ = some (.int .i64 a0_17) := (blk_cell BK235.out 17).trans rfl; have hcz55_18 : w54.cell? ⟨gb235, 18, none⟩ = some (.int .i64 a0_18) := (blk_cell BK235.out 18).trans rfl; have hcz55_19 : w54.cell? ⟨gb235, 19, none⟩ = some (.int .i64 a0_19) := (blk_cell BK235.out 19).trans rfl; have hcz55_20 : w54.cell? ⟨gb235, 20, none⟩ = some (.int .i64 a0_20) := (blk_cell BK235.out 20).trans rfl; have hfz55_0 := blk_frozen BK235.out 0; have hfz55_1 := blk_frozen BK235.out 1; have hfz55_2 := blk_frozen BK235.out 2; have hfz55_3 := blk_frozen BK235.out 3; have hfz55_4 := blk_frozen BK235.out 4; have hfz55_5 := blk_frozen BK235.out 5; have hfz55_6 := blk_frozen BK235.out 6; have hfz55_7 := blk_frozen BK235.out 7; have hfz55_8 := blk_frozen BK235.out 8; have hfz55_9 := blk_frozen BK235.out 9; have hfz55_10 := blk_frozen BK235.out 10; have hfz55_11 := blk_frozen BK235.out 11; have hfz55_12 := blk_frozen BK235.out 12; have hfz55_13 := blk_frozen BK235.out 13; have hfz55_14 := blk_frozen BK235.out 14; have hfz55_15 := blk_frozen BK235.out 15; have hfz55_16 := blk_frozen BK235.out 16; have hfz55_17 := blk_frozen BK235.out 17; have hfz55_18 := blk_frozen BK235.out 18; have hfz55_19 := blk_frozen BK235.out 19; have hfz55_20 := blk_frozen BK235.out 20))
                   go_ret
                   exact ⟨z9_2, z9_3⟩
                  ·rw [if_neg c53] at H
                   by_cases c56 : ji3 = 17
                   ·subst c56
                    have H1 : (some a0_17) = some r := z9_7
                    clear H
                    have H := H1
                    clear H1
                    obtain rfl := Option.some.inj H
                    go_enter Try.func88, Try.ntmps88
                    go_wp2_with (first | ((with_reducible refine gate_dst (N := 2) rfl ?_); refine box_event ?hg (N := 2) ?hd (cs := #[.int .i64 a0_0, .int .i64 a0_1, .int .i64 a0_2, .int .i64 a0_3, .int .i64 a0_4, .int .i64 a0_5, .int .i64 a0_6, .int .i64 a0_7, .int .i64 a0_8, .int .i64 a0_9, .int .i64 a0_10, .int .i64 a0_11, .int .i64 a0_12, .int .i64 a0_13, .int .i64 a0_14, .int .i64 a0_15, .int .i64 a0_16, .int .i64 a0_17, .int .i64 a0_18, .int .i64 a0_19, .int .i64 a0_20]) (t := 94) ?hr ?_; (case hd => rfl); (case hg => rfl); (case hr => first | (go_simp; done) | (go_simp; rfl)); intro gb235 hg w57 hbox hb; have n0_ := z9_A (below_step z9_1 hb); have n1_ := z9_A (hbox); have n2_ := z9_A ((z9_4 : w.heap.size ≤ gb235)); have n3_ := z9_A ((z9_4 : w.heap.size ≤ gb235)); clear HB; revert n0_ n1_ n2_ n3_; intro HB BK235 GW235 GE235; clear hb hbox hg; have hcz58_0 : w57.cell? ⟨gb235, 0, none⟩ = some (.int .i64 a0_0) := (blk_cell BK235.out 0).trans rfl; have hcz58_1 : w57.cell? ⟨gb235, 1, none⟩ = some (.int .i64 a0_1) := (blk_cell BK235.out 1).trans rfl; have hcz58_2 : w57.cell? ⟨gb235, 2, none⟩ = some (.int .i64 a0_2) := (blk_cell BK235.out 2).trans rfl; have hcz58_3 : w57.cell? ⟨gb235, 3, none⟩ = some (.int .i64 a0_3) := (blk_cell BK235.out 3).trans rfl; have hcz58_4 : w57.cell? ⟨gb235, 4, none⟩ = some (.int .i64 a0_4) := (blk_cell BK235.out 4).trans rfl; have hcz58_5 : w57.cell? ⟨gb235, 5, none⟩ = some (.int .i64 a0_5) := (blk_cell BK235.out 5).trans rfl; have hcz58_6 : w57.cell? ⟨gb235, 6, none⟩ = some (.int .i64 a0_6) := (blk_cell BK235.out 6).trans rfl; have hcz58_7 : w57.cell? ⟨gb235, 7, none⟩ = some (.int .i64 a0_7) := (blk_cell BK235.out 7).trans rfl; have hcz58_8 : w57.cell? ⟨gb235, 8, none⟩ = some (.int .i64 a0_8) := (blk_cell BK235.out 8).trans rfl; have hcz58_9 : w57.cell? ⟨gb235, 9, none⟩ = some (.int .i64 a0_9) := (blk_cell BK235.out 9).trans rfl; have hcz58_10 : w57.cell? ⟨gb235, 10, none⟩ = some (.int .i64 a0_10) := (blk_cell BK235.out 10).trans rfl; have hcz58_11 : w57.cell? ⟨gb235, 11, none⟩ = some (.int .i64 a0_11) := (blk_cell BK235.out 11).trans rfl; have hcz58_12 : w57.cell? ⟨gb235, 12, none⟩ = some (.int .i64 a0_12) := (blk_cell BK235.out 12).trans rfl; have hcz58_13 : w57.cell? ⟨gb235, 13, none⟩ = some (.int .i64 a0_13) := (blk_cell BK235.out 13).trans rfl; have hcz58_14 : w57.cell? ⟨gb235, 14, none⟩ = some (.int .i64 a0_14) := (blk_cell BK235.out 14).trans rfl; have hcz58_15 : w57.cell? ⟨gb235, 15, none⟩ = some (.int .i64 a0_15) := (blk_cell BK235.out 15).trans rfl; have hcz58_16 : w57.cell? ⟨gb235, 16, none⟩ = some (.int .i64 a0_16) := (blk_cell BK235.out 16).trans rfl; have hcz58_17 : w57.cell? ⟨gb235, 17, none⟩ = some (.int .i64 a0_17) := (blk_cell BK235.out 17).trans rfl; have hcz58_18 : w57.cell? ⟨gb235, 18, none⟩ = some (.int .i64 a0_18) := (blk_cell BK235.out 18).trans rfl; have hcz58_19 : w57.cell? ⟨gb235, 19, none⟩ = some (.int .i64 a0_19) := (blk_cell BK235.out 19).trans rfl; have hcz58_20 : w57.cell? ⟨gb235, 20, none⟩ = some (.int .i64 a0_20) := (blk_cell BK235.out 20).trans rfl; have hfz58_0 := blk_frozen BK235.out 0; have hfz58_1 := blk_frozen BK235.out 1; have hfz58_2 := blk_frozen BK235.out 2; have hfz58_3 := blk_frozen BK235.out 3; have hfz58_4 := blk_frozen BK235.out 4; have hfz58_5 := blk_frozen BK235.out 5; have hfz58_6 := blk_frozen BK235.out 6; have hfz58_7 := blk_frozen BK235.out 7; have hfz58_8 := blk_frozen BK235.out 8; have hfz58_9 := blk_frozen BK235.out 9; have hfz58_10 := blk_frozen BK235.out 10; have hfz58_11 := blk_frozen BK235.out 11; have hfz58_12 := blk_frozen BK235.out 12; have hfz58_13 := blk_frozen BK235.out 13; have hfz58_14 := blk_frozen BK235.out 14; have hfz58_15 := blk_frozen BK235.out 15; have hfz58_16 := blk_frozen BK235.out 16; have hfz58_17 := blk_frozen BK235.out 17; have hfz58_18 := blk_frozen BK235.out 18; have hfz58_19 := blk_frozen BK235.out 19; have hfz58_20 := blk_frozen BK235.out 20))
                    go_ret
                    exact ⟨z9_2, z9_3⟩
                   ·rw [if_neg c56] at H
                    by_cases c59 : ji3 = 18
                    ·subst c59
                     have H1 : (some a0_18) = some r := z9_7
                     clear H
                     have H := H1
                     clear H1
                     obtain rfl := Option.some.inj H
                     go_enter Try.func88, Try.ntmps88
                     go_wp2_with (first | ((with_reducible refine gate_dst (N := 2) rfl ?_); refine box_event ?hg (N := 2) ?hd (cs := #[.int .i64 a0_0, .int .i64 a0_1, .int .i64 a0_2, .int .i64 a0_3, .int .i64 a0_4, .int .i64 a0_5, .int .i64 a0_6, .int .i64 a0_7, .int .i64 a0_8, .int .i64 a0_9, .int .i64 a0_10, .int .i64 a0_11, .int .i64 a0_12, .int .i64 a0_13, .int .i64 a0_14, .int .i64 a0_15, .int .i64 a0_16, .int .i64 a0_17, .int .i64 a0_18, .int .i64 a0_19, .int .i64 a0_20]) (t := 94) ?hr ?_; (case hd => rfl); (case hg => rfl); (case hr => first | (go_simp; done) | (go_simp; rfl)); intro gb235 hg w60 hbox hb; have n0_ := z9_A (below_step z9_1 hb); have n1_ := z9_A (hbox); have n2_ := z9_A ((z9_4 : w.heap.size ≤ gb235)); have n3_ := z9_A ((z9_4 : w.heap.size ≤ gb235)); clear HB; revert n0_ n1_ n2_ n3_; intro HB BK235 GW235 GE235; clear hb hbox hg; have hcz61_0 : w60.cell? ⟨gb235, 0, none⟩ = some (.int .i64 a0_0) := (blk_cell BK235.out 0).trans rfl; have hcz61_1 : w60.cell? ⟨gb235, 1, none⟩ = some (.int .i64 a0_1) := (blk_cell BK235.out 1).trans rfl; have hcz61_2 : w60.cell? ⟨gb235, 2, none⟩ = some (.int .i64 a0_2) := (blk_cell BK235.out 2).trans rfl; have hcz61_3 : w60.cell? ⟨gb235, 3, none⟩ = some (.int .i64 a0_3) := (blk_cell BK235.out 3).trans rfl; have hcz61_4 : w60.cell? ⟨gb235, 4, none⟩ = some (.int .i64 a0_4) := (blk_cell BK235.out 4).trans rfl; have hcz61_5 : w60.cell? ⟨gb235, 5, none⟩ = some (.int .i64 a0_5) := (blk_cell BK235.out 5).trans rfl; have hcz61_6 : w60.cell? ⟨gb235, 6, none⟩ = some (.int .i64 a0_6) := (blk_cell BK235.out 6).trans rfl; have hcz61_7 : w60.cell? ⟨gb235, 7, none⟩ = some (.int .i64 a0_7) := (blk_cell BK235.out 7).trans rfl; have hcz61_8 : w60.cell? ⟨gb235, 8, none⟩ = some (.int .i64 a0_8) := (blk_cell BK235.out 8).trans rfl; have hcz61_9 : w60.cell? ⟨gb235, 9, none⟩ = some (.int .i64 a0_9) := (blk_cell BK235.out 9).trans rfl; have hcz61_10 : w60.cell? ⟨gb235, 10, none⟩ = some (.int .i64 a0_10) := (blk_cell BK235.out 10).trans rfl; have hcz61_11 : w60.cell? ⟨gb235, 11, none⟩ = some (.int .i64 a0_11) := (blk_cell BK235.out 11).trans rfl; have hcz61_12 : w60.cell? ⟨gb235, 12, none⟩ = some (.int .i64 a0_12) := (blk_cell BK235.out 12).trans rfl; have hcz61_13 : w60.cell? ⟨gb235, 13, none⟩ = some (.int .i64 a0_13) := (blk_cell BK235.out 13).trans rfl; have hcz61_14 : w60.cell? ⟨gb235, 14, none⟩ = some (.int .i64 a0_14) := (blk_cell BK235.out 14).trans rfl; have hcz61_15 : w60.cell? ⟨gb235, 15, none⟩ = some (.int .i64 a0_15) := (blk_cell BK235.out 15).trans rfl; have hcz61_16 : w60.cell? ⟨gb235, 16, none⟩ = some (.int .i64 a0_16) := (blk_cell BK235.out 16).trans rfl; have hcz61_17 : w60.cell? ⟨gb235, 17, none⟩ = some (.int .i64 a0_17) := (blk_cell BK235.out 17).trans rfl; have hcz61_18 : w60.cell? ⟨gb235, 18, none⟩ = some (.int .i64 a0_18) := (blk_cell BK235.out 18).trans rfl; have hcz61_19 : w60.cell? ⟨gb235, 19, none⟩ = some (.int .i64 a0_19) := (blk_cell BK235.out 19).trans rfl; have hcz61_20 : w60.cell? ⟨gb235, 20, none⟩ = some (.int .i64 a0_20) := (blk_cell BK235.out 20).trans rfl; have hfz61_0 := blk_frozen BK235.out 0; have hfz61_1 := blk_frozen BK235.out 1; have hfz61_2 := blk_frozen BK235.out 2; have hfz61_3 := blk_frozen BK235.out 3; have hfz61_4 := blk_frozen BK235.out 4; have hfz61_5 := blk_frozen BK235.out 5; have hfz61_6 := blk_frozen BK235.out 6; have hfz61_7 := blk_frozen BK235.out 7; have hfz61_8 := blk_frozen BK235.out 8; have hfz61_9 := blk_frozen BK235.out 9; have hfz61_10 := blk_frozen BK235.out 10; have hfz61_11 := blk_frozen BK235.out 11; have hfz61_12 := blk_frozen BK235.out 12; have hfz61_13 := blk_frozen BK235.out 13; have hfz61_14 := blk_frozen BK235.out 14; have hfz61_15 := blk_frozen BK235.out 15; have hfz61_16 := blk_frozen BK235.out 16; have hfz61_17 := blk_frozen BK235.out 17; have hfz61_18 := blk_frozen BK235.out 18; have hfz61_19 := blk_frozen BK235.out 19; have hfz61_20 := blk_frozen BK235.out 20))
                     go_ret
                     exact ⟨z9_2, z9_3⟩
                    ·rw [if_neg c59] at H
                     by_cases c62 : ji3 = 19
                     ·subst c62
                      have H1 : (some a0_19) = some r := z9_7
                      clear H
                      have H := H1
                      clear H1
                      obtain rfl := Option.some.inj H
                      go_enter Try.func88, Try.ntmps88
                      go_wp2_with (first | ((with_reducible refine gate_dst (N := 2) rfl ?_); refine box_event ?hg (N := 2) ?hd (cs := #[.int .i64 a0_0, .int .i64 a0_1, .int .i64 a0_2, .int .i64 a0_3, .int .i64 a0_4, .int .i64 a0_5, .int .i64 a0_6, .int .i64 a0_7, .int .i64 a0_8, .int .i64 a0_9, .int .i64 a0_10, .int .i64 a0_11, .int .i64 a0_12, .int .i64 a0_13, .int .i64 a0_14, .int .i64 a0_15, .int .i64 a0_16, .int .i64 a0_17, .int .i64 a0_18, .int .i64 a0_19, .int .i64 a0_20]) (t := 94) ?hr ?_; (case hd => rfl); (case hg => rfl); (case hr => first | (go_simp; done) | (go_simp; rfl)); intro gb235 hg w63 hbox hb; have n0_ := z9_A (below_step z9_1 hb); have n1_ := z9_A (hbox); have n2_ := z9_A ((z9_4 : w.heap.size ≤ gb235)); have n3_ := z9_A ((z9_4 : w.heap.size ≤ gb235)); clear HB; revert n0_ n1_ n2_ n3_; intro HB BK235 GW235 GE235; clear hb hbox hg; have hcz64_0 : w63.cell? ⟨gb235, 0, none⟩ = some (.int .i64 a0_0) := (blk_cell BK235.out 0).trans rfl; have hcz64_1 : w63.cell? ⟨gb235, 1, none⟩ = some (.int .i64 a0_1) := (blk_cell BK235.out 1).trans rfl; have hcz64_2 : w63.cell? ⟨gb235, 2, none⟩ = some (.int .i64 a0_2) := (blk_cell BK235.out 2).trans rfl; have hcz64_3 : w63.cell? ⟨gb235, 3, none⟩ = some (.int .i64 a0_3) := (blk_cell BK235.out 3).trans rfl; have hcz64_4 : w63.cell? ⟨gb235, 4, none⟩ = some (.int .i64 a0_4) := (blk_cell BK235.out 4).trans rfl; have hcz64_5 : w63.cell? ⟨gb235, 5, none⟩ = some (.int .i64 a0_5) := (blk_cell BK235.out 5).trans rfl; have hcz64_6 : w63.cell? ⟨gb235, 6, none⟩ = some (.int .i64 a0_6) := (blk_cell BK235.out 6).trans rfl; have hcz64_7 : w63.cell? ⟨gb235, 7, none⟩ = some (.int .i64 a0_7) := (blk_cell BK235.out 7).trans rfl; have hcz64_8 : w63.cell? ⟨gb235, 8, none⟩ = some (.int .i64 a0_8) := (blk_cell BK235.out 8).trans rfl; have hcz64_9 : w63.cell? ⟨gb235, 9, none⟩ = some (.int .i64 a0_9) := (blk_cell BK235.out 9).trans rfl; have hcz64_10 : w63.cell? ⟨gb235, 10, none⟩ = some (.int .i64 a0_10) := (blk_cell BK235.out 10).trans rfl; have hcz64_11 : w63.cell? ⟨gb235, 11, none⟩ = some (.int .i64 a0_11) := (blk_cell BK235.out 11).trans rfl; have hcz64_12 : w63.cell? ⟨gb235, 12, none⟩ = some (.int .i64 a0_12) := (blk_cell BK235.out 12).trans rfl; have hcz64_13 : w63.cell? ⟨gb235, 13, none⟩ = some (.int .i64 a0_13) := (blk_cell BK235.out 13).trans rfl; have hcz64_14 : w63.cell? ⟨gb235, 14, none⟩ = some (.int .i64 a0_14) := (blk_cell BK235.out 14).trans rfl; have hcz64_15 : w63.cell? ⟨gb235, 15, none⟩ = some (.int .i64 a0_15) := (blk_cell BK235.out 15).trans rfl; have hcz64_16 : w63.cell? ⟨gb235, 16, none⟩ = some (.int .i64 a0_16) := (blk_cell BK235.out 16).trans rfl; have hcz64_17 : w63.cell? ⟨gb235, 17, none⟩ = some (.int .i64 a0_17) := (blk_cell BK235.out 17).trans rfl; have hcz64_18 : w63.cell? ⟨gb235, 18, none⟩ = some (.int .i64 a0_18) := (blk_cell BK235.out 18).trans rfl; have hcz64_19 : w63.cell? ⟨gb235, 19, none⟩ = some (.int .i64 a0_19) := (blk_cell BK235.out 19).trans rfl; have hcz64_20 : w63.cell? ⟨gb235, 20, none⟩ = some (.int .i64 a0_20) := (blk_cell BK235.out 20).trans rfl; have hfz64_0 := blk_frozen BK235.out 0; have hfz64_1 := blk_frozen BK235.out 1; have hfz64_2 := blk_frozen BK235.out 2; have hfz64_3 := blk_frozen BK235.out 3; have hfz64_4 := blk_frozen BK235.out 4; have hfz64_5 := blk_frozen BK235.out 5; have hfz64_6 := blk_frozen BK235.out 6; have hfz64_7 := blk_frozen BK235.out 7; have hfz64_8 := blk_frozen BK235.out 8; have hfz64_9 := blk_frozen BK235.out 9; have hfz64_10 := blk_frozen BK235.out 10; have hfz64_11 := blk_frozen BK235.out 11; have hfz64_12 := blk_frozen BK235.out 12; have hfz64_13 := blk_frozen BK235.out 13; have hfz64_14 := blk_frozen BK235.out 14; have hfz64_15 := blk_frozen BK235.out 15; have hfz64_16 := blk_frozen BK235.out 16; have hfz64_17 := blk_frozen BK235.out 17; have hfz64_18 := blk_frozen BK235.out 18; have hfz64_19 := blk_frozen BK235.out 19; have hfz64_20 := blk_frozen BK235.out 20))
                      go_ret
                      exact ⟨z9_2, z9_3⟩
                     ·rw [if_neg c62] at H
                      by_cases c65 : ji3 = 20
                      ·subst c65
                       have H1 : (some a0_20) = some r := z9_7
                       clear H
                       have H := H1
                       clear H1
                       obtain rfl := Option.some.inj H
                       go_enter Try.func88, Try.ntmps88
                       go_wp2_with (first | ((with_reducible refine gate_dst (N := 2) rfl ?_); refine box_event ?hg (N := 2) ?hd (cs := #[.int .i64 a0_0, .int .i64 a0_1, .int .i64 a0_2, .int .i64 a0_3, .int .i64 a0_4, .int .i64 a0_5, .int .i64 a0_6, .int .i64 a0_7, .int .i64 a0_8, .int .i64 a0_9, .int .i64 a0_10, .int .i64 a0_11, .int .i64 a0_12, .int .i64 a0_13, .int .i64 a0_14, .int .i64 a0_15, .int .i64 a0_16, .int .i64 a0_17, .int .i64 a0_18, .int .i64 a0_19, .int .i64 a0_20]) (t := 94) ?hr ?_; (case hd => rfl); (case hg => rfl); (case hr => first | (go_simp; done) | (go_simp; rfl)); intro gb235 hg w66 hbox hb; have n0_ := z9_A (below_step z9_1 hb); have n1_ := z9_A (hbox); have n2_ := z9_A ((z9_4 : w.heap.size ≤ gb235)); have n3_ := z9_A ((z9_4 : w.heap.size ≤ gb235)); clear HB; revert n0_ n1_ n2_ n3_; intro HB BK235 GW235 GE235; clear hb hbox hg; have hcz67_0 : w66.cell? ⟨gb235, 0, none⟩ = some (.int .i64 a0_0) := (blk_cell BK235.out 0).trans rfl; have hcz67_1 : w66.cell? ⟨gb235, 1, none⟩ = some (.int .i64 a0_1) := (blk_cell BK235.out 1).trans rfl; have hcz67_2 : w66.cell? ⟨gb235, 2, none⟩ = some (.int .i64 a0_2) := (blk_cell BK235.out 2).trans rfl; have hcz67_3 : w66.cell? ⟨gb235, 3, none⟩ = some (.int .i64 a0_3) := (blk_cell BK235.out 3).trans rfl; have hcz67_4 : w66.cell? ⟨gb235, 4, none⟩ = some (.int .i64 a0_4) := (blk_cell BK235.out 4).trans rfl; have hcz67_5 : w66.cell? ⟨gb235, 5, none⟩ = some (.int .i64 a0_5) := (blk_cell BK235.out 5).trans rfl; have hcz67_6 : w66.cell? ⟨gb235, 6, none⟩ = some (.int .i64 a0_6) := (blk_cell BK235.out 6).trans rfl; have hcz67_7 : w66.cell? ⟨gb235, 7, none⟩ = some (.int .i64 a0_7) := (blk_cell BK235.out 7).trans rfl; have hcz67_8 : w66.cell? ⟨gb235, 8, none⟩ = some (.int .i64 a0_8) := (blk_cell BK235.out 8).trans rfl; have hcz67_9 : w66.cell? ⟨gb235, 9, none⟩ = some (.int .i64 a0_9) := (blk_cell BK235.out 9).trans rfl; have hcz67_10 : w66.cell? ⟨gb235, 10, none⟩ = some (.int .i64 a0_10) := (blk_cell BK235.out 10).trans rfl; have hcz67_11 : w66.cell? ⟨gb235, 11, none⟩ = some (.int .i64 a0_11) := (blk_cell BK235.out 11).trans rfl; have hcz67_12 : w66.cell? ⟨gb235, 12, none⟩ = some (.int .i64 a0_12) := (blk_cell BK235.out 12).trans rfl; have hcz67_13 : w66.cell? ⟨gb235, 13, none⟩ = some (.int .i64 a0_13) := (blk_cell BK235.out 13).trans rfl; have hcz67_14 : w66.cell? ⟨gb235, 14, none⟩ = some (.int .i64 a0_14) := (blk_cell BK235.out 14).trans rfl; have hcz67_15 : w66.cell? ⟨gb235, 15, none⟩ = some (.int .i64 a0_15) := (blk_cell BK235.out 15).trans rfl; have hcz67_16 : w66.cell? ⟨gb235, 16, none⟩ = some (.int .i64 a0_16) := (blk_cell BK235.out 16).trans rfl; have hcz67_17 : w66.cell? ⟨gb235, 17, none⟩ = some (.int .i64 a0_17) := (blk_cell BK235.out 17).trans rfl; have hcz67_18 : w66.cell? ⟨gb235, 18, none⟩ = some (.int .i64 a0_18) := (blk_cell BK235.out 18).trans rfl; have hcz67_19 : w66.cell? ⟨gb235, 19, none⟩ = some (.int .i64 a0_19) := (blk_cell BK235.out 19).trans rfl; have hcz67_20 : w66.cell? ⟨gb235, 20, none⟩ = some (.int .i64 a0_20) := (blk_cell BK235.out 20).trans rfl; have hfz67_0 := blk_frozen BK235.out 0; have hfz67_1 := blk_frozen BK235.out 1; have hfz67_2 := blk_frozen BK235.out 2; have hfz67_3 := blk_frozen BK235.out 3; have hfz67_4 := blk_frozen BK235.out 4; have hfz67_5 := blk_frozen BK235.out 5; have hfz67_6 := blk_frozen BK235.out 6; have hfz67_7 := blk_frozen BK235.out 7; have hfz67_8 := blk_frozen BK235.out 8; have hfz67_9 := blk_frozen BK235.out 9; have hfz67_10 := blk_frozen BK235.out 10; have hfz67_11 := blk_frozen BK235.out 11; have hfz67_12 := blk_frozen BK235.out 12; have hfz67_13 := blk_frozen BK235.out 13; have hfz67_14 := blk_frozen BK235.out 14; have hfz67_15 := blk_frozen BK235.out 15; have hfz67_16 := blk_frozen BK235.out 16; have hfz67_17 := blk_frozen BK235.out 17; have hfz67_18 := blk_frozen BK235.out 18; have hfz67_19 := blk_frozen BK235.out 19; have hfz67_20 := blk_frozen BK235.out 20))
                       go_ret
                       exact ⟨z9_2, z9_3⟩
                      ·rw [if_neg c65] at H
                       exact absurd H (by simp)
 ·rw [if_neg c4] at H
  exact absurd H (by simp)

/-! ### impl_Process_keep: function 107 -/
def impl_Process_keep.f (a0_0 : Int) (l0_1 : List Int) (a0_2 : Int) (a0_3 : Int) (a0_4 : Int) (a0_5 : Int) (a1 : Int) : Option (Int) := some (wrap64 ((wrap64 (a0_4 * (mx 0 a1))) + (wrap64 (a0_5 * (mx 0 (wrap64 (-a1)))))))
set_option maxHeartbeats 8000000 in
set_option maxRecDepth 100000 in
theorem impl_Process_keep.calls (a0_0 : Int) (A0_1 : Option Addr) (c0_1 : Nat) (l0_1 : List Int) (a0_2 : Int) (a0_3 : Int) (a0_4 : Int) (a0_5 : Int) (a1 : Int) (r : Int) (w : World) (hr0_1 : Kd.C (Kd.int .i64) w A0_1 l0_1.length l0_1) (hc0_1 : l0_1.length ≤ c0_1) (h : impl_Process_keep.f a0_0 l0_1 a0_2 a0_3 a0_4 a0_5 a1 = some r) :
  Calls Try.prog 107 #[.agg #[.int .i64 a0_0, .slice A0_1 l0_1.length c0_1, .int .i64 a0_2, .int .i64 a0_3, .int .i64 a0_4, .int .i64 a0_5], .int .i64 a1] w fun e w' => e = .returned (.int .i64 r) ∧ Below w.heap.size w w' := by
 have hu30 := Try.underlying30
 have HR0_1 := z9_A hr0_1
 have HC0_1 := z9_A hc0_1
 clear hr0_1 hc0_1
 have HB := z9_A (Below.refl w.heap.size w)
 have H : (some (wrap64 ((wrap64 (a0_4 * (mx 0 a1))) + (wrap64 (a0_5 * (mx 0 (wrap64 (-a1)))))))) = some r := h
 clear h
 obtain ⟨ji3, hji3⟩ : ∃ j_ : Int, (mx 0 a1) = j_ := ⟨_, rfl⟩
 replace H : (some (wrap64 ((wrap64 (a0_4 * (ji3))) + (wrap64 (a0_5 * (mx 0 (wrap64 (-a1)))))))) = some r := by first | (rw [hji3] at H; exact H) | (simp only [hji3] at H ⊢; exact H)
 (try (have hji3l : 0 ≤ ji3 := by (rw [← hji3]; unfold mx; (repeat' split) <;> omega)))
 (try (have hji3m : 0 ≤ ji3 := by omega))
 have hji3_ : (if 0 < a1 then a1 else 0) = ji3 := hji3
 obtain ⟨ji4, hji4⟩ : ∃ j_ : Int, (mx 0 (wrap64 (-a1))) = j_ := ⟨_, rfl⟩
 replace H : (some (wrap64 ((wrap64 (a0_4 * (ji3))) + (wrap64 (a0_5 * (ji4)))))) = some r := by first | (rw [hji4] at H; exact H) | (simp only [hji4] at H ⊢; exact H)
 (try (have hji4l : 0 ≤ ji4 := by (rw [← hji4]; unfold mx; (repeat' split) <;> omega)))
 (try (have hji4m : 0 ≤ ji4 := by omega))
 have hji4_ : (if 0 < (wrap64 (-a1)) then (wrap64 (-a1)) else 0) = ji4 := hji4
 obtain rfl := Option.some.inj H
 go_enter Try.func107, Try.ntmps107
 go_wp2_with (first | ((with_reducible refine gate_dst (N := 2) rfl ?_); refine box_event ?hg (N := 2) ?hd (cs := #[.int .i64 a0_0, .slice A0_1 l0_1.length c0_1, .int .i64 a0_2, .int .i64 a0_3, .int .i64 a0_4, .int .i64 a0_5]) (t := 30) ?hr ?_; (case hd => rfl); (case hg => rfl); (case hr => first | (go_simp; done) | (go_simp; rfl)); intro gb236 hg w5 hbox hb; have n0_ := z9_A (below_step z9_1 hb); have n1_ := z9_A (hbox); have n2_ := z9_A ((z9_4 : w.heap.size ≤ gb236)); have n3_ := z9_A ((z9_4 : w.heap.size ≤ gb236)); clear HB; revert n0_ n1_ n2_ n3_; intro HB BK236 GW236 GE236; clear hb hbox hg; have hcz6_0 : w5.cell? ⟨gb236, 0, none⟩ = some (.int .i64 a0_0) := (blk_cell BK236.out 0).trans rfl; have hcz6_1 : w5.cell? ⟨gb236, 1, none⟩ = some (.slice A0_1 l0_1.length c0_1) := (blk_cell BK236.out 1).trans rfl; have hcz6_2 : w5.cell? ⟨gb236, 2, none⟩ = some (.int .i64 a0_2) := (blk_cell BK236.out 2).trans rfl; have hcz6_3 : w5.cell? ⟨gb236, 3, none⟩ = some (.int .i64 a0_3) := (blk_cell BK236.out 3).trans rfl; have hcz6_4 : w5.cell? ⟨gb236, 4, none⟩ = some (.int .i64 a0_4) := (blk_cell BK236.out 4).trans rfl; have hcz6_5 : w5.cell? ⟨gb236, 5, none⟩ = some (.int .i64 a0_5) := (blk_cell BK236.out 5).trans rfl; have hfz6_0 := blk_frozen BK236.out 0; have hfz6_1 := blk_frozen BK236.out 1; have hfz6_2 := blk_frozen BK236.out 2; have hfz6_3 := blk_frozen BK236.out 3; have hfz6_4 := blk_frozen BK236.out 4; have hfz6_5 := blk_frozen BK236.out 5))
 go_ret
 exact ⟨by first | rfl | (simp [errW_none, errW_some] <;> rfl) | (simp only [← hji3, ← hji4]; first | rfl | (simp [errW_none, errW_some] <;> rfl)) | (simp [*, errW_none, errW_some] <;> rfl), by repeat (first | (with_reducible first | exact HB.out | apply below_alloc | apply pw_below_drewN | apply below_drew1 | refine below_set ?_ GE236.out) | exact HB.out)⟩

/-! ### impl_Process_behind: function 94 -/
def impl_Process_behind.l0 : Nat → Int → Int → Int → List Int → Int → Int → Int → List Int → Int → Int → Int → Int → Int → Int → Int → Int → Int → Int → Int → Int → Int → Int → Int → Int → Int → Int → Int → Int → Int → Int → Int → Int → Int → Option (Int)
 | 0, _, _, _, _, _, _, _, _, _, _, _, _, _, _, _, _, _, _, _, _, _, _, _, _, _, _, _, _, _, _, _, _, _ => none
 | k + 1, x1, x2, x9, x13, x14, x15, x238000, x238001, x238002, x238003, x238004, x238005, x239000, x239001, x239002, x239003, x239004, x239005, x239006, x239007, x239008, x239009, x239010, x239011, x239012, x239013, x239014, x239015, x239016, x239017, x239018, x239019, x239020 => if x15 < x14 then (if 0 ≤ x15 then (if x15 < (x13.length : Int) then ((impl_Process_keep.f x238000 x238001 x238002 x238003 x238004 x238005 (wrap64 (x2 - x15))).bind fun t240 => ((impl_Process_whole.f k x238000 x238001 x238002 x238003 x238004 x238005 (wrap64 (x1 - 1))).bind fun t241 => ((impl_levels_at.f x239000 x239001 x239002 x239003 x239004 x239005 x239006 x239007 x239008 x239009 x239010 x239011 x239012 x239013 x239014 x239015 x239016 x239017 x239018 x239019 x239020 (wrap64 (x2 - x15))).bind fun t242 => (impl_Process_behind.l0 k x1 x2 (wrap64 (x9 + (wrap64 ((rd x13 x15) * (wrap64 ((wrap64 (t240 * t241)) + t242)))))) x13 x14 (wrap64 (x15 + 1)) x238000 x238001 x238002 x238003 x238004 x238005 x239000 x239001 x239002 x239003 x239004 x239005 x239006 x239007 x239008 x239009 x239010 x239011 x239012 x239013 x239014 x239015 x239016 x239017 x239018 x239019 x239020)))) else (none)) else (none)) else (some x9)
def impl_Process_behind.f (k : Nat) (a0_0 : Int) (l0_1 : List Int) (a0_2 : Int) (a0_3 : Int) (a0_4 : Int) (a0_5 : Int) (a1 : Int) (a2 : Int) (a3_0 : Int) (a3_1 : Int) (a3_2 : Int) (a3_3 : Int) (a3_4 : Int) (a3_5 : Int) (a3_6 : Int) (a3_7 : Int) (a3_8 : Int) (a3_9 : Int) (a3_10 : Int) (a3_11 : Int) (a3_12 : Int) (a3_13 : Int) (a3_14 : Int) (a3_15 : Int) (a3_16 : Int) (a3_17 : Int) (a3_18 : Int) (a3_19 : Int) (a3_20 : Int) : Option (Int) := impl_Process_behind.l0 k a1 a2 0 l0_1 (l0_1.length : Int) 0 a0_0 l0_1 a0_2 a0_3 a0_4 a0_5 a3_0 a3_1 a3_2 a3_3 a3_4 a3_5 a3_6 a3_7 a3_8 a3_9 a3_10 a3_11 a3_12 a3_13 a3_14 a3_15 a3_16 a3_17 a3_18 a3_19 a3_20
theorem impl_Process_behind.mono_l : ∀ k, (∀ y0 y1 y2 y3 y4 y5 y6 y7 y8 y9 y10 y11 y12 y13 y14 y15 y16 y17 y18 y19 y20 y21 y22 y23 y24 y25 y26 y27 y28 y29 y30 y31 y32, LeO (impl_Process_behind.l0 k y0 y1 y2 y3 y4 y5 y6 y7 y8 y9 y10 y11 y12 y13 y14 y15 y16 y17 y18 y19 y20 y21 y22 y23 y24 y25 y26 y27 y28 y29 y30 y31 y32) (impl_Process_behind.l0 (k + 1) y0 y1 y2 y3 y4 y5 y6 y7 y8 y9 y10 y11 y12 y13 y14 y15 y16 y17 y18 y19 y20 y21 y22 y23 y24 y25 y26 y27 y28 y29 y30 y31 y32))
 | 0 => fun _ _ _ _ _ _ _ _ _ _ _ _ _ _ _ _ _ _ _ _ _ _ _ _ _ _ _ _ _ _ _ _ _ r h => by simp [impl_Process_behind.l0] at h
 | k + 1 => by
  have ih0 := impl_Process_behind.mono_l k
  ·intro y0 y1 y2 y3 y4 y5 y6 y7 y8 y9 y10 y11 y12 y13 y14 y15 y16 y17 y18 y19 y20 y21 y22 y23 y24 y25 y26 y27 y28 y29 y30 y31 y32
   unfold impl_Process_behind.l0
   repeat' first
   | (with_reducible exact ih0 _ _ _ _ _ _ _ _ _ _ _ _ _ _ _ _ _ _ _ _ _ _ _ _ _ _ _ _ _ _ _ _ _)
   | (with_reducible exact impl_Process_whole.mono _ _ _ _ _ _ _ _)
   | (with_reducible exact LeO.refl _)
   | (with_reducible exact LeO.none _)
   | (with_reducible refine LeO.ite ?_ ?_)
   | (with_reducible refine LeO.bind ?_ (fun _ => ?_))
   | exact ih0 _ _ _ _ _ _ _ _ _ _ _ _ _ _ _ _ _ _ _ _ _ _ _ _ _ _ _ _ _ _ _ _ _
   | exact impl_Process_whole.mono _ _ _ _ _ _ _ _
   | exact LeO.none _
   | refine LeO.ite ?_ ?_
   | refine LeO.bind ?_ (fun _ => ?_)
theorem impl_Process_behind.mono : ∀ a0 a1 a2 a3 a4 a5 a6 a7 a8 a9 a10 a11 a12 a13 a14 a15 a16 a17 a18 a19 a20 a21 a22 a23 a24 a25 a26 a27 a28 k, LeO (impl_Process_behind.f k a0 a1 a2 a3 a4 a5 a6 a7 a8 a9 a10 a11 a12 a13 a14 a15 a16 a17 a18 a19 a20 a21 a22 a23 a24 a25 a26 a27 a28) (impl_Process_behind.f (k + 1) a0 a1 a2 a3 a4 a5 a6 a7 a8 a9 a10 a11 a12 a13 a14 a15 a16 a17 a18 a19 a20 a21 a22 a23 a24 a25 a26 a27 a28) := by
 intro a0 a1 a2 a3 a4 a5 a6 a7 a8 a9 a10 a11 a12 a13 a14 a15 a16 a17 a18 a19 a20 a21 a22 a23 a24 a25 a26 a27 a28 k
 have ih0 := impl_Process_behind.mono_l k
 unfold impl_Process_behind.f
 repeat' first
   | (with_reducible exact ih0 _ _ _ _ _ _ _ _ _ _ _ _ _ _ _ _ _ _ _ _ _ _ _ _ _ _ _ _ _ _ _ _ _)
   | (with_reducible exact impl_Process_whole.mono _ _ _ _ _ _ _ _)
   | (with_reducible exact LeO.refl _)
   | (with_reducible exact LeO.none _)
   | (with_reducible refine LeO.ite ?_ ?_)
   | (with_reducible refine LeO.bind ?_ (fun _ => ?_))
   | exact ih0 _ _ _ _ _ _ _ _ _ _ _ _ _ _ _ _ _ _ _ _ _ _ _ _ _ _ _ _ _ _ _ _ _
   | exact impl_Process_whole.mono _ _ _ _ _ _ _ _
   | exact LeO.none _
   | refine LeO.ite ?_ ?_
   | refine LeO.bind ?_ (fun _ => ?_)
def impl_Process_behind.T5 : Bool × List (List Nat × List Nat) := (true, [([], []), ([], []), ([], []), ([], []), ([], []), ([3, 4], [3, 4]), ([2, 5], [2, 5]), ([], []), ([], []), ([8], [8]), ([7, 9, 6], [7, 9]), ([6, 10], [6, 10]), ([], []), ([], []), ([], []), ([13, 14], [13, 14]), ([12, 15, 10], [12, 15]), ([11, 16], [11, 16]), ([1, 17], [1, 17]), ([0, 18], [0, 18]), ([19, 16, 0, 1, 2, 3, 4, 5, 6, 7, 8, 9, 10, 11, 12, 13, 14, 15, 16, 17, 18, 19], [0, 19])])
def impl_Process_behind.B5 : List Nat := [0, 0, 0, 0, 0, 24, 60, 0, 0, 256, 1020, 2044, 0, 0, 0, 24576, 63484, 131068, 262142, 524287, 1048575]
theorem impl_Process_behind.tab5 : rtab .any (opsOf Try.f94 5) = impl_Process_behind.T5 := z9_10
theorem impl_Process_behind.bits5 : waitsOk impl_Process_behind.T5.2 impl_Process_behind.B5 = true := z9_10
set_option maxHeartbeats 8000000 in
set_option maxRecDepth 100000 in
theorem impl_Process_behind.calls (k : Nat) (a0_0 : Int) (A0_1 : Option Addr) (c0_1 : Nat) (l0_1 : List Int) (a0_2 : Int) (a0_3 : Int) (a0_4 : Int) (a0_5 : Int) (a1 : Int) (a2 : Int) (a3_0 : Int) (a3_1 : Int) (a3_2 : Int) (a3_3 : Int) (a3_4 : Int) (a3_5 : Int) (a3_6 : Int) (a3_7 : Int) (a3_8 : Int) (a3_9 : Int) (a3_10 : Int) (a3_11 : Int) (a3_12 : Int) (a3_13 : Int) (a3_14 : Int) (a3_15 : Int) (a3_16 : Int) (a3_17 : Int) (a3_18 : Int) (a3_19 : Int) (a3_20 : Int) (r : Int) (w : World) (hr0_1 : Kd.C (Kd.int .i64) w A0_1 l0_1.length l0_1) (hc0_1 : l0_1.length ≤ c0_1) (h : impl_Process_behind.f k a0_0 l0_1 a0_2 a0_3 a0_4 a0_5 a1 a2 a3_0 a3_1 a3_2 a3_3 a3_4 a3_5 a3_6 a3_7 a3_8 a3_9 a3_10 a3_11 a3_12 a3_13 a3_14 a3_15 a3_16 a3_17 a3_18 a3_19 a3_20 = some r) :
  Calls Try.prog 94 #[.agg #[.int .i64 a0_0, .slice A0_1 l0_1.length c0_1, .int .i64 a0_2, .int .i64 a0_3, .int .i64 a0_4, .int .i64 a0_5], .int .i64 a1, .int .i64 a2, .agg #[.int .i64 a3_0, .int .i64 a3_1, .int .i64 a3_2, .int .i64 a3_3, .int .i64 a3_4, .int .i64 a3_5, .int .i64 a3_6, .int .i64 a3_7, .int .i64 a3_8, .int .i64 a3_9, .int .i64 a3_10, .int .i64 a3_11, .int .i64 a3_12, .int .i64 a3_13, .int .i64 a3_14, .int .i64 a3_15, .int .i64 a3_16, .int .i64 a3_17, .int .i64 a3_18, .int .i64 a3_19, .int .i64 a3_20]] w fun e w' => e = .returned (.int .i64 r) ∧ Below w.heap.size w w' := by
 have hu30 := Try.underlying30
 have hu94 := Try.underlying94
 have HR0_1 := z9_A hr0_1
 have HC0_1 := z9_A hc0_1
 clear hr0_1 hc0_1
 have HB := z9_A (Below.refl w.heap.size w)
 have H : (impl_Process_behind.l0 k a1 a2 0 l0_1 (l0_1.length : Int) 0 a0_0 l0_1 a0_2 a0_3 a0_4 a0_5 a3_0 a3_1 a3_2 a3_3 a3_4 a3_5 a3_6 a3_7 a3_8 a3_9 a3_10 a3_11 a3_12 a3_13 a3_14 a3_15 a3_16 a3_17 a3_18 a3_19 a3_20) = some r := h
 clear h
 have H' := z9_A H
 clear H
 go_enter Try.func94, Try.ntmps94
 go_wp2_with (first | ((with_reducible refine gate_dst (N := 4) rfl ?_); refine box_event ?hg (N := 4) ?hd (cs := #[.int .i64 a0_0, .slice A0_1 l0_1.length c0_1, .int .i64 a0_2, .int .i64 a0_3, .int .i64 a0_4, .int .i64 a0_5]) (t := 30) ?hr ?_; (case hd => rfl); (case hg => rfl); (case hr => first | (go_simp; done) | (go_simp; rfl)); intro gb237 hg w5 hbox hb; have n0_ := z9_A (below_step z9_1 hb); have n1_ := z9_A (hbox); have n2_ := z9_A ((z9_4 : w.heap.size ≤ gb237)); have n3_ := z9_A ((z9_4 : w.heap.size ≤ gb237)); clear HB; revert n0_ n1_ n2_ n3_; intro HB BK237 GW237 GE237; clear hb hbox hg) | ((with_reducible refine gate_dst (N := 7) rfl ?_); refine box_event ?hg (N := 7) ?hd (cs := #[.int .i64 a3_0, .int .i64 a3_1, .int .i64 a3_2, .int .i64 a3_3, .int .i64 a3_4, .int .i64 a3_5, .int .i64 a3_6, .int .i64 a3_7, .int .i64 a3_8, .int .i64 a3_9, .int .i64 a3_10, .int .i64 a3_11, .int .i64 a3_12, .int .i64 a3_13, .int .i64 a3_14, .int .i64 a3_15, .int .i64 a3_16, .int .i64 a3_17, .int .i64 a3_18, .int .i64 a3_19, .int .i64 a3_20]) (t := 94) ?hr ?_; (case hd => rfl); (case hg => rfl); (case hr => first | (go_simp; done) | (go_simp; rfl)); intro gb238 hg w6 hbox hb; have n0_ := z9_A (blk_below (g := gb237) (o := .cells #[.int .i64 a0_0, .slice A0_1 l0_1.length c0_1, .int .i64 a0_2, .int .i64 a0_3, .int .i64 a0_4, .int .i64 a0_5] 30 (0, 0)) z9_6 hb); have n1_ := z9_A (below_step z9_9 hb); have n2_ := z9_A (hbox); have n3_ := z9_A ((by rw [hg]; exact (below_size z9_9) : w.heap.size ≤ gb238)); have n4_ := z9_A ((by rw [hg]; exact (below_size z9_9) : w.heap.size ≤ gb238)); have n5_ := z9_A ((by rw [hg]; exact Nat.ne_of_lt (blk_lt (g := gb237) (o := .cells #[.int .i64 a0_0, .slice A0_1 l0_1.length c0_1, .int .i64 a0_2, .int .i64 a0_3, .int .i64 a0_4, .int .i64 a0_5] 30 (0, 0)) z9_6) : gb237 ≠ gb238)); have n6_ := z9_A ((by rw [hg]; exact Nat.ne_of_gt (blk_lt (g := gb237) (o := .cells #[.int .i64 a0_0, .slice A0_1 l0_1.length c0_1, .int .i64 a0_2, .int .i64 a0_3, .int .i64 a0_4, .int .i64 a0_5] 30 (0, 0)) z9_6) : gb238 ≠ gb237)); clear BK237 HB; revert n0_ n1_ n2_ n3_ n4_ n5_ n6_; intro BK237 HB BK238 GW238 GE238 NB237_238 NB238_237; clear hb hbox hg; have hnb7 := NB237_238.out; have hnc7 := NB238_237.out; have hcz8_0 : w6.cell? ⟨gb237, 0, none⟩ = some (.int .i64 a0_0) := (blk_cell BK237.out 0).trans rfl; have hcz8_1 : w6.cell? ⟨gb237, 1, none⟩ = some (.slice A0_1 l0_1.length c0_1) := (blk_cell BK237.out 1).trans rfl; have hcz8_2 : w6.cell? ⟨gb237, 2, none⟩ = some (.int .i64 a0_2) := (blk_cell BK237.out 2).trans rfl; have hcz8_3 : w6.cell? ⟨gb237, 3, none⟩ = some (.int .i64 a0_3) := (blk_cell BK237.out 3).trans rfl; have hcz8_4 : w6.cell? ⟨gb237, 4, none⟩ = some (.int .i64 a0_4) := (blk_cell BK237.out 4).trans rfl; have hcz8_5 : w6.cell? ⟨gb237, 5, none⟩ = some (.int .i64 a0_5) := (blk_cell BK237.out 5).trans rfl; have hfz8_0 := blk_frozen BK237.out 0; have hfz8_1 := blk_frozen BK237.out 1; have hfz8_2 := blk_frozen BK237.out 2; have hfz8_3 := blk_frozen BK237.out 3; have hfz8_4 := blk_frozen BK237.out 4; have hfz8_5 := blk_frozen BK237.out 5))
 go_loopg [9, 15] k (fun kq v9 v15 w' => ∃ (x9_1 : Int) (x15_1 : Int), v9 = .int .i64 x9_1 ∧ v15 = .int .i64 x15_1 ∧ Aside0 (impl_Process_behind.l0 kq a1 a2 x9_1 l0_1 (l0_1.length : Int) x15_1 a0_0 l0_1 a0_2 a0_3 a0_4 a0_5 a3_0 a3_1 a3_2 a3_3 a3_4 a3_5 a3_6 a3_7 a3_8 a3_9 a3_10 a3_11 a3_12 a3_13 a3_14 a3_15 a3_16 a3_17 a3_18 a3_19 a3_20 = some r) ∧ Aside0 (kq ≤ k) ∧ Aside0 (w'.heap[gb237]? = some (.cells #[.int .i64 a0_0, (.slice A0_1 l0_1.length c0_1), .int .i64 a0_2, .int .i64 a0_3, .int .i64 a0_4, .int .i64 a0_5] 30 (0, 0))) ∧ Aside0 (w'.heap[gb238]? = some (.cells #[.int .i64 a3_0, .int .i64 a3_1, .int .i64 a3_2, .int .i64 a3_3, .int .i64 a3_4, .int .i64 a3_5, .int .i64 a3_6, .int .i64 a3_7, .int .i64 a3_8, .int .i64 a3_9, .int .i64 a3_10, .int .i64 a3_11, .int .i64 a3_12, .int .i64 a3_13, .int .i64 a3_14, .int .i64 a3_15, .int .i64 a3_16, .int .i64 a3_17, .int .i64 a3_18, .int .i64 a3_19, .int .i64 a3_20] 94 (0, 0))) ∧ Aside0 (Below w.heap.size w w'))
 case atStart => exact ⟨(0), (0), z9_12, z9_12, H', ⟨Nat.le_refl _⟩, ⟨z9_6⟩, ⟨z9_8⟩, ⟨z9_5⟩⟩
 case round =>
  clear H'
  (try clear p2); (try clear c7); (try clear hcz8_0); (try clear hcz8_1); (try clear hcz8_2); (try clear hcz8_3); (try clear hcz8_4); (try clear hcz8_5); (try clear hfz8_0); (try clear hfz8_1); (try clear hfz8_2); (try clear hfz8_3); (try clear hfz8_4); (try clear hfz8_5)
  obtain ⟨x9_1, x15_1, rfl, rfl, HA, HK1, BK237, BK238, HB⟩ := hrel
  cases gk with
  | zero => exact absurd HA.out (by simp [impl_Process_behind.l0])
  | succ k1 =>
   have H := HA.out
   clear HA
   simp only [impl_Process_behind.l0] at H
   by_cases c9 : x15_1 < (l0_1.length : Int)
   ·rw [if_pos c9] at H
    have c9b0 : decide (x15_1 < (l0_1.length : Int)) = true := decide_eq_true c9
    clear c9
    by_cases c10 : 0 ≤ x15_1
    ·rw [if_pos c10] at H
     have c10b0 : decide (0 ≤ x15_1) = true := decide_eq_true c10
     clear c10
     by_cases c11 : x15_1 < (l0_1.length : Int)
     ·rw [if_pos c11] at H
      have c11b0 : decide (x15_1 < (l0_1.length : Int)) = true := decide_eq_true c11
      clear c11
      replace H := Option.bind_eq_some_iff.mp H
      obtain ⟨t240, A120, H⟩ := H
      (try dsimp only at H)
      have A12 := z9_A A120
      clear A120
      replace H := Option.bind_eq_some_iff.mp H
      obtain ⟨t241, A130, H⟩ := H
      (try dsimp only at H)
      have A13 := z9_A A130
      clear A130
      replace H := Option.bind_eq_some_iff.mp H
      obtain ⟨t242, A140, H⟩ := H
      (try dsimp only at H)
      have A14 := z9_A A140
      clear A140
      have H' := z9_A H
      clear H
      have p239 : 0 ≤ (x15_1 : Int) := of_decide_eq_true (by first | (with_reducible assumption) | assumption)
      have q239 : x15_1 < (l0_1.length : Int) := of_decide_eq_true (by first | (with_reducible assumption) | assumption)
      obtain ⟨ad239, e239, hx239_0⟩ := Kd.at_int HR0_1.out x15_1 p239 q239
      cases e239
      replace hx239_0 := (HB.out.cell (World.block_lt_of_cell? w _ hx239_0)).trans hx239_0
      replace p239 := eq_true p239
      replace q239 := eq_true q239
      try go_wp2
      have n0_ := z9_A (blk_drew BK237.out)
      have n1_ := z9_A (blk_drew BK238.out)
      have n2_ := z9_A (below_drew1 HB.out)
      clear BK237
      clear BK238
      clear HB
      have BK237 := n0_
      have BK238 := n1_
      have HB := n2_
      clear n0_ n1_ n2_
      refine start_ (n := 21) (S := fun w' => w'.cell? ⟨gb237, 0, none⟩ = some (.int .i64 a0_0) ∧ w'.cell? ⟨gb237, 1, none⟩ = some (.slice (some ad239) l0_1.length c0_1) ∧ w'.cell? ⟨gb237, 2, none⟩ = some (.int .i64 a0_2) ∧ w'.cell? ⟨gb237, 3, none⟩ = some (.int .i64 a0_3) ∧ w'.cell? ⟨gb237, 4, none⟩ = some (.int .i64 a0_4) ∧ w'.cell? ⟨gb237, 5, none⟩ = some (.int .i64 a0_5) ∧ w'.cell? ⟨gb238, 0, none⟩ = some (.int .i64 a3_0) ∧ w'.cell? ⟨gb238, 1, none⟩ = some (.int .i64 a3_1) ∧ w'.cell? ⟨gb238, 2, none⟩ = some (.int .i64 a3_2) ∧ w'.cell? ⟨gb238, 3, none⟩ = some (.int .i64 a3_3) ∧ w'.cell? ⟨gb238, 4, none⟩ = some (.int .i64 a3_4) ∧ w'.cell? ⟨gb238, 5, none⟩ = some (.int .i64 a3_5) ∧ w'.cell? ⟨gb238, 6, none⟩ = some (.int .i64 a3_6) ∧ w'.cell? ⟨gb238, 7, none⟩ = some (.int .i64 a3_7) ∧ w'.cell? ⟨gb238, 8, none⟩ = some (.int .i64 a3_8) ∧ w'.cell? ⟨gb238, 9, none⟩ = some (.int .i64 a3_9) ∧ w'.cell? ⟨gb238, 10, none⟩ = some (.int .i64 a3_10) ∧ w'.cell? ⟨gb238, 11, none⟩ = some (.int .i64 a3_11) ∧ w'.cell? ⟨gb238, 12, none⟩ = some (.int .i64 a3_12) ∧ w'.cell? ⟨gb238, 13, none⟩ = some (.int .i64 a3_13) ∧ w'.cell? ⟨gb238, 14, none⟩ = some (.int .i64 a3_14) ∧ w'.cell? ⟨gb238, 15, none⟩ = some (.int .i64 a3_15) ∧ w'.cell? ⟨gb238, 16, none⟩ = some (.int .i64 a3_16) ∧ w'.cell? ⟨gb238, 17, none⟩ = some (.int .i64 a3_17) ∧ w'.cell? ⟨gb238, 18, none⟩ = some (.int .i64 a3_18) ∧ w'.cell? ⟨gb238, 19, none⟩ = some (.int .i64 a3_19) ∧ w'.cell? ⟨gb238, 20, none⟩ = some (.int .i64 a3_20)) (ds := []) #[false, false, false, false, false, false, false, false, false, false, false, false, false, false, false, false, false, false, false, false, false] z9_10 rfl rfl ⟨(blk_cell BK237.out 0).trans rfl, (blk_cell BK237.out 1).trans rfl, (blk_cell BK237.out 2).trans rfl, (blk_cell BK237.out 3).trans rfl, (blk_cell BK237.out 4).trans rfl, (blk_cell BK237.out 5).trans rfl, (blk_cell BK238.out 0).trans rfl, (blk_cell BK238.out 1).trans rfl, (blk_cell BK238.out 2).trans rfl, (blk_cell BK238.out 3).trans rfl, (blk_cell BK238.out 4).trans rfl, (blk_cell BK238.out 5).trans rfl, (blk_cell BK238.out 6).trans rfl, (blk_cell BK238.out 7).trans rfl, (blk_cell BK238.out 8).trans rfl, (blk_cell BK238.out 9).trans rfl, (blk_cell BK238.out 10).trans rfl, (blk_cell BK238.out 11).trans rfl, (blk_cell BK238.out 12).trans rfl, (blk_cell BK238.out 13).trans rfl, (blk_cell BK238.out 14).trans rfl, (blk_cell BK238.out 15).trans rfl, (blk_cell BK238.out 16).trans rfl, (blk_cell BK238.out 17).trans rfl, (blk_cell BK238.out 18).trans rfl, (blk_cell BK238.out 19).trans rfl, (blk_cell BK238.out 20).trans rfl⟩ (fun hHeld => ?_); refine with_tabW impl_Process_behind.tab5 impl_Process_behind.bits5 (fun HT_ HW_ => ?_)
      generalize wr.drew = w15 at BK237 BK238 HB hHeld ⊢
      refine pure_ (i := 0) (N := some 20) (v := ?_) (a' := ?_) #[true, false, false, false, false, false, false, false, false, false, false, false, false, false, false, false, false, false, false, false, false] rfl rfl (any_of HT_.out z9_10) (fun _ _ _ h => h) (Or.inl ⟨by rfl, ?_⟩) ?_ ?_
      rotate_left
      ·intro w'
       go_simp
       with_reducible rfl
      rotate_left
      ·simp only [Act.put, List.setIfInBounds_toArray, List.set_cons_zero, List.set_cons_succ, i64_w, i32_w]
       rfl
      refine pure_ (i := 1) (N := some 21) (v := ?_) (a' := ?_) #[true, true, false, false, false, false, false, false, false, false, false, false, false, false, false, false, false, false, false, false, false] rfl rfl (any_of HT_.out z9_10) (fun _ _ _ h => h) (Or.inl ⟨by rfl, ?_⟩) ?_ ?_
      rotate_left
      ·intro w'
       go_simp
       with_reducible rfl
      rotate_left
      ·simp only [Act.put, List.setIfInBounds_toArray, List.set_cons_zero, List.set_cons_succ, i64_w, i32_w]
       rfl
      refine pure_ (i := 3) (N := some 23) (v := ?_) (a' := ?_) #[true, true, false, true, false, false, false, false, false, false, false, false, false, false, false, false, false, false, false, false, false] rfl rfl (any_of HT_.out z9_10) (fun _ _ _ h => h) (Or.inl ⟨by rfl, ?_⟩) ?_ ?_
      rotate_left
      ·intro w'
       go_simp
       with_reducible rfl
      rotate_left
      ·simp only [Act.put, List.setIfInBounds_toArray, List.set_cons_zero, List.set_cons_succ, i64_w, i32_w]
       rfl
      refine pure_ (i := 4) (N := some 24) (v := ?_) (a' := ?_) #[true, true, false, true, true, false, false, false, false, false, false, false, false, false, false, false, false, false, false, false, false] rfl rfl (any_of HT_.out z9_10) (fun _ _ _ h => h) (Or.inl ⟨by rfl, ?_⟩) ?_ ?_
      rotate_left
      ·intro w'
       go_simp
       with_reducible rfl
      rotate_left
      ·simp only [Act.put, List.setIfInBounds_toArray, List.set_cons_zero, List.set_cons_succ, i64_w, i32_w]
       rfl
      refine pure_ (i := 5) (N := some 25) (v := ?_) (a' := ?_) #[true, true, false, true, true, true, false, false, false, false, false, false, false, false, false, false, false, false, false, false, false] rfl rfl (any_of HT_.out z9_10) (fun _ _ _ h => h) (Or.inl ⟨by rfl, ?_⟩) ?_ ?_
      rotate_left
      ·intro w'
       go_simp
       with_reducible rfl
      rotate_left
      ·simp only [Act.put, List.setIfInBounds_toArray, List.set_cons_zero, List.set_cons_succ, i64_w, i32_w]
       rfl
      refine pure_ (i := 8) (N := some 28) (v := ?_) (a' := ?_) #[true, true, false, true, true, true, false, false, true, false, false, false, false, false, false, false, false, false, false, false, false] rfl rfl (any_of HT_.out z9_10) (fun _ _ _ h => h) (Or.inl ⟨by rfl, ?_⟩) ?_ ?_
      rotate_left
      ·intro w'
       go_simp
       with_reducible rfl
      rotate_left
      ·simp only [Act.put, List.setIfInBounds_toArray, List.set_cons_zero, List.set_cons_succ, i64_w, i32_w]
       rfl
      refine pure_ (i := 9) (N := some 29) (v := ?_) (a' := ?_) #[true, true, false, true, true, true, false, false, true, true, false, false, false, false, false, false, false, false, false, false, false] rfl rfl (any_of HT_.out z9_10) (fun _ _ _ h => h) (Or.inl ⟨by rfl, ?_⟩) ?_ ?_
      rotate_left
      ·intro w'
       go_simp
       with_reducible rfl
      rotate_left
      ·simp only [Act.put, List.setIfInBounds_toArray, List.set_cons_zero, List.set_cons_succ, i64_w, i32_w]
       rfl
      refine pure_ (i := 13) (N := some 33) (v := ?_) (a' := ?_) #[true, true, false, true, true, true, false, false, true, true, false, false, false, true, false, false, false, false, false, false, false] rfl rfl (any_of HT_.out z9_10) (fun _ _ _ h => h) (Or.inl ⟨by rfl, ?_⟩) ?_ ?_
      rotate_left
      ·intro w'
       go_simp
       with_reducible rfl
      rotate_left
      ·simp only [Act.put, List.setIfInBounds_toArray, List.set_cons_zero, List.set_cons_succ, i64_w, i32_w]
       rfl
      refine pure_ (i := 14) (N := some 34) (v := ?_) (a' := ?_) #[true, true, false, true, true, true, false, false, true, true, false, false, false, true, true, false, false, false, false, false, false] rfl rfl (any_of HT_.out z9_10) (fun _ _ _ h => h) (Or.inl ⟨by rfl, ?_⟩) ?_ ?_
      rotate_left
      ·intro w'
       go_simp
       with_reducible rfl
      rotate_left
      ·simp only [Act.put, List.setIfInBounds_toArray, List.set_cons_zero, List.set_cons_succ, i64_w, i32_w]
       rfl
      refine pure_ (i := 15) (N := some 35) (v := ?_) (a' := ?_) #[true, true, false, true, true, true, false, false, true, true, false, false, false, true, true, true, false, false, false, false, false] rfl rfl (any_of HT_.out z9_10) (fun _ _ _ h => h) (Or.inl ⟨by rfl, ?_⟩) ?_ ?_
      rotate_left
      ·intro w'
       go_simp
       with_reducible rfl
      rotate_left
      ·simp only [Act.put, List.setIfInBounds_toArray, List.set_cons_zero, List.set_cons_succ, i64_w, i32_w]
       rfl
      refine take_ (i := 2) (N := some 22) (v := ?_) (a' := ?_) #[true, true, true, true, true, true, false, false, true, true, false, false, false, true, true, true, false, false, false, false, false] rfl rfl (take_ofW HT_.out HW_.out z9_10) (fun _ _ _ h => h) (Or.inl ⟨by rfl, ?_⟩) hHeld ?_ ?_
      rotate_left
      ·rintro w' ⟨s0, s1, s2, s3, s4, s5, s6, s7, s8, s9, s10, s11, s12, s13, s14, s15, s16, s17, s18, s19, s20, s21, s22, s23, s24, s25, s26⟩
       first | (refine (loadB94 (by exact rfl) (by exact rfl) s6 s7 s8 s9 s10 s11 s12 s13 s14 s15 s16 s17 s18 s19 s20 s21 s22 s23 s24 s25 s26).trans ?_; with_reducible rfl) | (go_simp; with_reducible rfl)
      rotate_left
      ·simp only [Act.put, List.setIfInBounds_toArray, List.set_cons_zero, List.set_cons_succ, i64_w, i32_w]
       rfl
      refine take_ (i := 7) (N := some 27) (v := ?_) (a' := ?_) #[true, true, true, true, true, true, false, true, true, true, false, false, false, true, true, true, false, false, false, false, false] rfl rfl (take_ofW HT_.out HW_.out z9_10) (fun _ _ _ h => h) (Or.inl ⟨by rfl, ?_⟩) hHeld ?_ ?_
      rotate_left
      ·rintro w' ⟨s0, s1, s2, s3, s4, s5, s6, s7, s8, s9, s10, s11, s12, s13, s14, s15, s16, s17, s18, s19, s20, s21, s22, s23, s24, s25, s26⟩
       first | (refine (loadB94 (by exact rfl) (by exact rfl) s6 s7 s8 s9 s10 s11 s12 s13 s14 s15 s16 s17 s18 s19 s20 s21 s22 s23 s24 s25 s26).trans ?_; with_reducible rfl) | (go_simp; with_reducible rfl)
      rotate_left
      ·simp only [Act.put, List.setIfInBounds_toArray, List.set_cons_zero, List.set_cons_succ, i64_w, i32_w]
       rfl
      refine take_ (i := 12) (N := some 32) (v := ?_) (a' := ?_) #[true, true, true, true, true, true, false, true, true, true, false, false, true, true, true, true, false, false, false, false, false] rfl rfl (take_ofW HT_.out HW_.out z9_10) (fun _ _ _ h => h) (Or.inl ⟨by rfl, ?_⟩) hHeld ?_ ?_
      rotate_left
      ·rintro w' ⟨s0, s1, s2, s3, s4, s5, s6, s7, s8, s9, s10, s11, s12, s13, s14, s15, s16, s17, s18, s19, s20, s21, s22, s23, s24, s25, s26⟩
       first | (refine (loadB94 (by exact rfl) (by exact rfl) s6 s7 s8 s9 s10 s11 s12 s13 s14 s15 s16 s17 s18 s19 s20 s21 s22 s23 s24 s25 s26).trans ?_; with_reducible rfl) | (go_simp; with_reducible rfl)
      rotate_left
      ·simp only [Act.put, List.setIfInBounds_toArray, List.set_cons_zero, List.set_cons_succ, i64_w, i32_w]
       rfl
      refine one_ (i := 6) (N := some 26) #[true, true, true, true, true, true, true, true, true, true, false, false, true, true, true, true, false, false, false, false, false] rfl rfl (one_of HT_.out z9_10) (by decide) (fun K hK => ?_)
      refine goes_ Try.func107 z9_10 rfl #[.agg #[.int .i64 a0_0, .slice (some ad239) l0_1.length c0_1, .int .i64 a0_2, .int .i64 a0_3, .int .i64 a0_4, .int .i64 a0_5], .int .i64 (wrap64 (a2 - x15_1))] (by rfl) rfl rfl z9_11 ?_
      with_reducible refine (impl_Process_keep.calls a0_0 _ _ l0_1 a0_2 a0_3 a0_4 a0_5 (wrap64 (a2 - x15_1)) t240 _ ?side1 ?side2 A12.out).mono ?_
      (case side1 => have zh := (Kd.C_below HR0_1.out HB.out); exact z9_C)
      (case side2 => exact HC0_1.out)
      rintro e w16 ⟨rfl, hb⟩
      refine ⟨_, rfl, ?_⟩
      have n0_ := z9_A (blk_below (g := gb237) (o := .cells #[.int .i64 a0_0, .slice (some ad239) l0_1.length c0_1, .int .i64 a0_2, .int .i64 a0_3, .int .i64 a0_4, .int .i64 a0_5] 30 (0, 0)) z9_6 hb)
      have n1_ := z9_A (blk_below (g := gb238) (o := .cells #[.int .i64 a3_0, .int .i64 a3_1, .int .i64 a3_2, .int .i64 a3_3, .int .i64 a3_4, .int .i64 a3_5, .int .i64 a3_6, .int .i64 a3_7, .int .i64 a3_8, .int .i64 a3_9, .int .i64 a3_10, .int .i64 a3_11, .int .i64 a3_12, .int .i64 a3_13, .int .i64 a3_14, .int .i64 a3_15, .int .i64 a3_16, .int .i64 a3_17, .int .i64 a3_18, .int .i64 a3_19, .int .i64 a3_20] 94 (0, 0)) z9_8 hb)
      have n2_ := z9_A (below_step z9_5 hb)
      clear BK237
      clear BK238
      clear HB
      have BK237 := n0_
      have BK238 := n1_
      have HB := n2_
      clear n0_ n1_ n2_
      (try clear hb)
      (try clear hb2)
      (try clear hk)
      (try clear hi)
      refine hK.out _ _ ⟨(blk_cell BK237.out 0).trans rfl, (blk_cell BK237.out 1).trans rfl, (blk_cell BK237.out 2).trans rfl, (blk_cell BK237.out 3).trans rfl, (blk_cell BK237.out 4).trans rfl, (blk_cell BK237.out 5).trans rfl, (blk_cell BK238.out 0).trans rfl, (blk_cell BK238.out 1).trans rfl, (blk_cell BK238.out 2).trans rfl, (blk_cell BK238.out 3).trans rfl, (blk_cell BK238.out 4).trans rfl, (blk_cell BK238.out 5).trans rfl, (blk_cell BK238.out 6).trans rfl, (blk_cell BK238.out 7).trans rfl, (blk_cell BK238.out 8).trans rfl, (blk_cell BK238.out 9).trans rfl, (blk_cell BK238.out 10).trans rfl, (blk_cell BK238.out 11).trans rfl, (blk_cell BK238.out 12).trans rfl, (blk_cell BK238.out 13).trans rfl, (blk_cell BK238.out 14).trans rfl, (blk_cell BK238.out 15).trans rfl, (blk_cell BK238.out 16).trans rfl, (blk_cell BK238.out 17).trans rfl, (blk_cell BK238.out 18).trans rfl, (blk_cell BK238.out 19).trans rfl, (blk_cell BK238.out 20).trans rfl⟩ (fun hHeld => ?_)
      clear hK K
      refine norm_ (a' := ?_) ?_ ?_
      rotate_left
      ·show Act.put _ (some 26) _ = _
       simp only [Act.put, List.setIfInBounds_toArray, List.set_cons_zero, List.set_cons_succ, i64_w, i32_w]
       rfl
      refine one_ (i := 10) (N := some 30) #[true, true, true, true, true, true, true, true, true, true, true, false, true, true, true, true, false, false, false, false, false] rfl rfl (one_of HT_.out z9_10) (by decide) (fun K hK => ?_)
      refine goes_ Try.func93 z9_10 rfl #[.agg #[.int .i64 a0_0, .slice (some ad239) l0_1.length c0_1, .int .i64 a0_2, .int .i64 a0_3, .int .i64 a0_4, .int .i64 a0_5], .int .i64 (wrap64 (a1 - 1))] (by rfl) rfl rfl z9_11 ?_
      with_reducible refine (impl_Process_whole.calls k1 a0_0 _ _ l0_1 a0_2 a0_3 a0_4 a0_5 (wrap64 (a1 - 1)) t241 _ ?side1 ?side2 A13.out).mono ?_
      (case side1 => have zh := (Kd.C_below HR0_1.out HB.out); exact z9_C)
      (case side2 => exact HC0_1.out)
      rintro e w17 ⟨rfl, hb⟩
      refine ⟨_, rfl, ?_⟩
      have n0_ := z9_A (blk_below (g := gb237) (o := .cells #[.int .i64 a0_0, .slice (some ad239) l0_1.length c0_1, .int .i64 a0_2, .int .i64 a0_3, .int .i64 a0_4, .int .i64 a0_5] 30 (0, 0)) z9_6 hb)
      have n1_ := z9_A (blk_below (g := gb238) (o := .cells #[.int .i64 a3_0, .int .i64 a3_1, .int .i64 a3_2, .int .i64 a3_3, .int .i64 a3_4, .int .i64 a3_5, .int .i64 a3_6, .int .i64 a3_7, .int .i64 a3_8, .int .i64 a3_9, .int .i64 a3_10, .int .i64 a3_11, .int .i64 a3_12, .int .i64 a3_13, .int .i64 a3_14, .int .i64 a3_15, .int .i64 a3_16, .int .i64 a3_17, .int .i64 a3_18, .int .i64 a3_19, .int .i64 a3_20] 94 (0, 0)) z9_8 hb)
      have n2_ := z9_A (below_step z9_5 hb)
      clear BK237
      clear BK238
      clear HB
      have BK237 := n0_
      have BK238 := n1_
      have HB := n2_
      clear n0_ n1_ n2_
      (try clear hb)
      (try clear hb2)
      (try clear hk)
      (try clear hi)
      refine hK.out _ _ ⟨(blk_cell BK237.out 0).trans rfl, (blk_cell BK237.out 1).trans rfl, (blk_cell BK237.out 2).trans rfl, (blk_cell BK237.out 3).trans rfl, (blk_cell BK237.out 4).trans rfl, (blk_cell BK237.out 5).trans rfl, (blk_cell BK238.out 0).trans rfl, (blk_cell BK238.out 1).trans rfl, (blk_cell BK238.out 2).trans rfl, (blk_cell BK238.out 3).trans rfl, (blk_cell BK238.out 4).trans rfl, (blk_cell BK238.out 5).trans rfl, (blk_cell BK238.out 6).trans rfl, (blk_cell BK238.out 7).trans rfl, (blk_cell BK238.out 8).trans rfl, (blk_cell BK238.out 9).trans rfl, (blk_cell BK238.out 10).trans rfl, (blk_cell BK238.out 11).trans rfl, (blk_cell BK238.out 12).trans rfl, (blk_cell BK238.out 13).trans rfl, (blk_cell BK238.out 14).trans rfl, (blk_cell BK238.out 15).trans rfl, (blk_cell BK238.out 16).trans rfl, (blk_cell BK238.out 17).trans rfl, (blk_cell BK238.out 18).trans rfl, (blk_cell BK238.out 19).trans rfl, (blk_cell BK238.out 20).trans rfl⟩ (fun hHeld => ?_)
      clear hK K
      refine norm_ (a' := ?_) ?_ ?_
      rotate_left
      ·show Act.put _ (some 30) _ = _
       simp only [Act.put, List.setIfInBounds_toArray, List.set_cons_zero, List.set_cons_succ, i64_w, i32_w]
       rfl
      refine pure_ (i := 11) (N := some 31) (v := ?_) (a' := ?_) #[true, true, true, true, true, true, true, true, true, true, true, true, true, true, true, true, false, false, false, false, false] rfl rfl (any_of HT_.out z9_10) (fun _ _ _ h => h) (Or.inl ⟨by rfl, ?_⟩) ?_ ?_
      rotate_left
      ·intro w'
       go_simp
       with_reducible rfl
      rotate_left
      ·simp only [Act.put, List.setIfInBounds_toArray, List.set_cons_zero, List.set_cons_succ, i64_w, i32_w]
       rfl
      refine one_ (i := 16) (N := some 36) #[true, true, true, true, true, true, true, true, true, true, true, true, true, true, true, true, true, false, false, false, false] rfl rfl (one_of HT_.out z9_10) (by decide) (fun K hK => ?_)
      refine goes_ Try.func88 z9_10 rfl #[.agg #[.int .i64 a3_0, .int .i64 a3_1, .int .i64 a3_2, .int .i64 a3_3, .int .i64 a3_4, .int .i64 a3_5, .int .i64 a3_6, .int .i64 a3_7, .int .i64 a3_8, .int .i64 a3_9, .int .i64 a3_10, .int .i64 a3_11, .int .i64 a3_12, .int .i64 a3_13, .int .i64 a3_14, .int .i64 a3_15, .int .i64 a3_16, .int .i64 a3_17, .int .i64 a3_18, .int .i64 a3_19, .int .i64 a3_20], .int .i64 (wrap64 (a2 - x15_1))] (by rfl) rfl rfl z9_11 ?_
      with_reducible refine (impl_levels_at.calls a3_0 a3_1 a3_2 a3_3 a3_4 a3_5 a3_6 a3_7 a3_8 a3_9 a3_10 a3_11 a3_12 a3_13 a3_14 a3_15 a3_16 a3_17 a3_18 a3_19 a3_20 (wrap64 (a2 - x15_1)) t242 _ A14.out).mono ?_
      rintro e w18 ⟨rfl, hb⟩
      refine ⟨_, rfl, ?_⟩
      have n0_ := z9_A (blk_below (g := gb237) (o := .cells #[.int .i64 a0_0, .slice (some ad239) l0_1.length c0_1, .int .i64 a0_2, .int .i64 a0_3, .int .i64 a0_4, .int .i64 a0_5] 30 (0, 0)) z9_6 hb)
      have n1_ := z9_A (blk_below (g := gb238) (o := .cells #[.int .i64 a3_0, .int .i64 a3_1, .int .i64 a3_2, .int .i64 a3_3, .int .i64 a3_4, .int .i64 a3_5, .int .i64 a3_6, .int .i64 a3_7, .int .i64 a3_8, .int .i64 a3_9, .int .i64 a3_10, .int .i64 a3_11, .int .i64 a3_12, .int .i64 a3_13, .int .i64 a3_14, .int .i64 a3_15, .int .i64 a3_16, .int .i64 a3_17, .int .i64 a3_18, .int .i64 a3_19, .int .i64 a3_20] 94 (0, 0)) z9_8 hb)
      have n2_ := z9_A (below_step z9_5 hb)
      clear BK237
      clear BK238
      clear HB
      have BK237 := n0_
      have BK238 := n1_
      have HB := n2_
      clear n0_ n1_ n2_
      (try clear hb)
      (try clear hb2)
      (try clear hk)
      (try clear hi)
      refine hK.out _ _ ⟨(blk_cell BK237.out 0).trans rfl, (blk_cell BK237.out 1).trans rfl, (blk_cell BK237.out 2).trans rfl, (blk_cell BK237.out 3).trans rfl, (blk_cell BK237.out 4).trans rfl, (blk_cell BK237.out 5).trans rfl, (blk_cell BK238.out 0).trans rfl, (blk_cell BK238.out 1).trans rfl, (blk_cell BK238.out 2).trans rfl, (blk_cell BK238.out 3).trans rfl, (blk_cell BK238.out 4).trans rfl, (blk_cell BK238.out 5).trans rfl, (blk_cell BK238.out 6).trans rfl, (blk_cell BK238.out 7).trans rfl, (blk_cell BK238.out 8).trans rfl, (blk_cell BK238.out 9).trans rfl, (blk_cell BK238.out 10).trans rfl, (blk_cell BK238.out 11).trans rfl, (blk_cell BK238.out 12).trans rfl, (blk_cell BK238.out 13).trans rfl, (blk_cell BK238.out 14).trans rfl, (blk_cell BK238.out 15).trans rfl, (blk_cell BK238.out 16).trans rfl, (blk_cell BK238.out 17).trans rfl, (blk_cell BK238.out 18).trans rfl, (blk_cell BK238.out 19).trans rfl, (blk_cell BK238.out 20).trans rfl⟩ (fun hHeld => ?_)
      clear hK K
      refine norm_ (a' := ?_) ?_ ?_
      rotate_left
      ·show Act.put _ (some 36) _ = _
       simp only [Act.put, List.setIfInBounds_toArray, List.set_cons_zero, List.set_cons_succ, i64_w, i32_w]
       rfl
      refine pure_ (i := 17) (N := some 37) (v := ?_) (a' := ?_) #[true, true, true, true, true, true, true, true, true, true, true, true, true, true, true, true, true, true, false, false, false] rfl rfl (any_of HT_.out z9_10) (fun _ _ _ h => h) (Or.inl ⟨by rfl, ?_⟩) ?_ ?_
      rotate_left
      ·intro w'
       go_simp
       with_reducible rfl
      rotate_left
      ·simp only [Act.put, List.setIfInBounds_toArray, List.set_cons_zero, List.set_cons_succ, i64_w, i32_w]
       rfl
      refine pure_ (i := 18) (N := some 38) (v := ?_) (a' := ?_) #[true, true, true, true, true, true, true, true, true, true, true, true, true, true, true, true, true, true, true, false, false] rfl rfl (any_of HT_.out z9_10) (fun _ _ _ h => h) (Or.inl ⟨by rfl, ?_⟩) ?_ ?_
      rotate_left
      ·intro w'
       go_simp
       with_reducible rfl
      rotate_left
      ·simp only [Act.put, List.setIfInBounds_toArray, List.set_cons_zero, List.set_cons_succ, i64_w, i32_w]
       rfl
      refine pure_ (i := 19) (N := some 39) (v := ?_) (a' := ?_) #[true, true, true, true, true, true, true, true, true, true, true, true, true, true, true, true, true, true, true, true, false] rfl rfl (any_of HT_.out z9_10) (fun _ _ _ h => h) (Or.inl ⟨by rfl, ?_⟩) ?_ ?_
      rotate_left
      ·intro w'
       go_simp
       with_reducible rfl
      rotate_left
      ·simp only [Act.put, List.setIfInBounds_toArray, List.set_cons_zero, List.set_cons_succ, i64_w, i32_w]
       rfl
      refine pure_ (i := 20) (N := some 9) (v := ?_) (a' := ?_) #[true, true, true, true, true, true, true, true, true, true, true, true, true, true, true, true, true, true, true, true, true] rfl rfl (any_of HT_.out z9_10) (fun _ _ _ h => h) (Or.inl ⟨by rfl, ?_⟩) ?_ ?_
      rotate_left
      ·intro w'
       go_simp
       with_reducible rfl
      rotate_left
      ·simp only [Act.put, List.setIfInBounds_toArray, List.set_cons_zero, List.set_cons_succ, i64_w, i32_w]
       rfl
      refine done_ (done_of HT_.out z9_10) ?_
      try go_wp2
      go_roundg k1
      case measure => have := HK1.out; omega
      case rel => exact ⟨(wrap64 (x9_1 + (wrap64 ((rd l0_1 x15_1) * (wrap64 ((wrap64 (t240 * t241)) + t242)))))), (wrap64 (x15_1 + 1)), z9_12, z9_12, H', ⟨by have := HK1.out; omega⟩, ⟨z9_6⟩, ⟨z9_8⟩, ⟨z9_5⟩⟩
     ·rw [if_neg c11] at H
      exact absurd H (by simp)
    ·rw [if_neg c10] at H
     exact absurd H (by simp)
   ·rw [if_neg c9] at H
    have c9b0 : decide (x15_1 < (l0_1.length : Int)) = false := decide_eq_false c9
    clear c9
    obtain rfl := Option.some.inj H
    go_wp2
    go_ret
    exact ⟨z9_13, z9_5⟩

/-! ### impl_Process_floor: function 96 -/
def impl_Process_floor.f (a0_0 : Int) (l0_1 : List Int) (a0_2 : Int) (a0_3 : Int) (a0_4 : Int) (a0_5 : Int) : Option (Int) := some (wrap64 ((wrap64 ((l0_1.length : Int) - 1)) - 10))
set_option maxHeartbeats 8000000 in
set_option maxRecDepth 100000 in
theorem impl_Process_floor.calls (a0_0 : Int) (A0_1 : Option Addr) (c0_1 : Nat) (l0_1 : List Int) (a0_2 : Int) (a0_3 : Int) (a0_4 : Int) (a0_5 : Int) (r : Int) (w : World) (hr0_1 : Kd.C (Kd.int .i64) w A0_1 l0_1.length l0_1) (hc0_1 : l0_1.length ≤ c0_1) (h : impl_Process_floor.f a0_0 l0_1 a0_2 a0_3 a0_4 a0_5 = some r) :
  Calls Try.prog 96 #[.agg #[.int .i64 a0_0, .slice A0_1 l0_1.length c0_1, .int .i64 a0_2, .int .i64 a0_3, .int .i64 a0_4, .int .i64 a0_5]] w fun e w' => e = .returned (.int .i64 r) ∧ Below w.heap.size w w' := by
 have hu30 := Try.underlying30
 have HR0_1 := z9_A hr0_1
 have HC0_1 := z9_A hc0_1
 clear hr0_1 hc0_1
 have HB := z9_A (Below.refl w.heap.size w)
 have H : (some (wrap64 ((wrap64 ((l0_1.length : Int) - 1)) - 10))) = some r := h
 clear h
 obtain rfl := Option.some.inj H
 go_enter Try.func96, Try.ntmps96
 go_wp2_with (first | ((with_reducible refine gate_dst (N := 1) rfl ?_); refine box_event ?hg (N := 1) ?hd (cs := #[.int .i64 a0_0, .slice A0_1 l0_1.length c0_1, .int .i64 a0_2, .int .i64 a0_3, .int .i64 a0_4, .int .i64 a0_5]) (t := 30) ?hr ?_; (case hd => rfl); (case hg => rfl); (case hr => first | (go_simp; done) | (go_simp; rfl)); intro gb243 hg w2 hbox hb; have n0_ := z9_A (below_step z9_1 hb); have n1_ := z9_A (hbox); have n2_ := z9_A ((z9_4 : w.heap.size ≤ gb243)); have n3_ := z9_A ((z9_4 : w.heap.size ≤ gb243)); clear HB; revert n0_ n1_ n2_ n3_; intro HB BK243 GW243 GE243; clear hb hbox hg; have hcz3_0 : w2.cell? ⟨gb243, 0, none⟩ = some (.int .i64 a0_0) := (blk_cell BK243.out 0).trans rfl; have hcz3_1 : w2.cell? ⟨gb243, 1, none⟩ = some (.slice A0_1 l0_1.length c0_1) := (blk_cell BK243.out 1).trans rfl; have hcz3_2 : w2.cell? ⟨gb243, 2, none⟩ = some (.int .i64 a0_2) := (blk_cell BK243.out 2).trans rfl; have hcz3_3 : w2.cell? ⟨gb243, 3, none⟩ = some (.int .i64 a0_3) := (blk_cell BK243.out 3).trans rfl; have hcz3_4 : w2.cell? ⟨gb243, 4, none⟩ = some (.int .i64 a0_4) := (blk_cell BK243.out 4).trans rfl; have hcz3_5 : w2.cell? ⟨gb243, 5, none⟩ = some (.int .i64 a0_5) := (blk_cell BK243.out 5).trans rfl; have hfz3_0 := blk_frozen BK243.out 0; have hfz3_1 := blk_frozen BK243.out 1; have hfz3_2 := blk_frozen BK243.out 2; have hfz3_3 := blk_frozen BK243.out 3; have hfz3_4 := blk_frozen BK243.out 4; have hfz3_5 := blk_frozen BK243.out 5))
 go_ret
 exact ⟨z9_13, by repeat (first | (with_reducible first | exact HB.out | apply below_alloc | apply pw_below_drewN | apply below_drew1 | refine below_set ?_ GE243.out) | exact HB.out)⟩

end Go.Proofs.Ytmekmkhdhakohaa.PFnExactBestLevels
