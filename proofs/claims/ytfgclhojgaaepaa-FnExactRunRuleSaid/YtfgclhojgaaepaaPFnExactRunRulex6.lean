-- A text of this session (its program hook.py, over the kit's print.py): not a print of print.sh
-- THIN: one blank for two
import Derived.Test.YtfgclhojgaaepaaPFnExactRunRulex0
import Derived.Test.YtfgclhojgaaepaaPFnExactRunRulex4
import Derived.Test.YtfgclhojgaaepaaPFnExactRunRulex5
namespace Go.Proofs.Ytfgclhojgaaepaa.PFnExactRunRule
open Go.RowKit Go.Proofs.YtfgclhojgaaepaaW.PrintWords Go.Proofs.YtfgclhojgaaepaaW.PrintLast Go.Proofs.YtfgclhojgaaepaaW.PrintMore
attribute [local go_sem] max2_int min2_int max_two min_two max_three min_three max_four min_four   -- for this text's walks alone
set_option linter.unusedVariables false
set_option linter.unusedSimpArgs false

-- SQUEEZED
abbrev z6_S (k : Nat) (A : Option Addr) (n c : Nat) : Prop := some k ≠ (.slice A n c : Value).ownBlock
abbrev z6_V (k : Nat) (v : Value) : Prop := some k ≠ v.ownBlock
theorem z6_A {p : Prop} (h : p) : Aside0 p := Aside0.mk h
theorem z6_C {p : Prop} (h : p := by repeat (first | exact zh | (with_reducible refine Kd.C_alloc ?_ _) | (with_reducible refine Kd.C_drewN ?_ _) | (with_reducible refine Kd.C_drew ?_))) : p := h
theorem z6_1 {p : Prop} (h : p := by repeat (first | (with_reducible first | exact HB.out | apply below_alloc | apply pw_below_drewN | apply below_drew1 | refine below_set ?_ GE255.out | refine below_set ?_ GE256.out | refine below_set ?_ GE257.out | refine below_set ?_ GE258.out | refine below_set ?_ GE270.out) | exact HB.out)) : p := h
theorem z6_2 {p : Prop} (h : p := by repeat (first | (with_reducible first | exact HB.out | apply below_alloc | apply pw_below_drewN | apply below_drew1 | refine below_set ?_ GE255.out | refine below_set ?_ GE256.out | refine below_set ?_ GE257.out | refine below_set ?_ GE258.out) | exact HB.out)) : p := h
theorem z6_3 {p : Prop} (h : p := by (with_reducible repeat (first | refine blk_drewN ?_ _ | refine blk_drew ?_ | refine blk_alloc ?_ _)); exact BK255.out) : p := h
theorem z6_4 {p : Prop} (h : p := by (with_reducible repeat (first | refine blk_drewN ?_ _ | refine blk_drew ?_ | refine blk_alloc ?_ _)); exact BK256.out) : p := h
theorem z6_5 {p : Prop} (h : p := by (with_reducible repeat (first | refine blk_drewN ?_ _ | refine blk_drew ?_ | refine blk_alloc ?_ _)); exact BK257.out) : p := h
theorem z6_6 {p : Prop} (h : p := by (with_reducible repeat (first | refine blk_drewN ?_ _ | refine blk_drew ?_ | refine blk_alloc ?_ _)); exact BK258.out) : p := h
theorem z6_7 {p : Prop} (h : p := by (with_reducible repeat (first | apply Kd.R_alloc | apply Kd.R_drewN | apply Kd.R_drew)); exact HO_259001.out) : p := h
theorem z6_8 {p : Prop} (h : p := by (with_reducible repeat (first | apply Kd.V_alloc | apply Kd.V_drewN | apply Kd.V_drew)); exact (Kd.V_mono (Kd.V_far (p := ⟨gb258, 2, none⟩) (Kd.V_far (p := ⟨gb258, 1, none⟩) (Kd.V_far (p := ⟨gb258, 0, none⟩) (Kd.V_mono HO0_1.out (fun k_ hk => (⟨hk, hk.2⟩ : _ ∧ k_ ≠ gb258))) (fun _ hk => hk.2) (.slice none 0 0)) (fun _ hk => hk.2) (.slice none 0 0)) (fun _ hk => hk.2) (.int .i64 0)) (fun _ h_ => h_.1))) : p := h
theorem z6_9 {p : Prop} (h : p := by (with_reducible repeat (first | apply Kd.R_alloc | apply Kd.R_drewN | apply Kd.R_drew)); exact HO_259000.out) : p := h
theorem z6_10 {p : Prop} (h : p := by (with_reducible repeat (first | refine blk_drewN ?_ _ | refine blk_drew ?_ | refine blk_alloc ?_ _)); refine blk_far ?_ NB257_258.out _; (with_reducible repeat (first | refine blk_drewN ?_ _ | refine blk_drew ?_ | refine blk_alloc ?_ _)); refine blk_far ?_ NB257_258.out _; (with_reducible repeat (first | refine blk_drewN ?_ _ | refine blk_drew ?_ | refine blk_alloc ?_ _)); refine blk_far ?_ NB257_258.out _; (with_reducible repeat (first | refine blk_drewN ?_ _ | refine blk_drew ?_ | refine blk_alloc ?_ _)); exact BK257.out) : p := h
theorem z6_11 {p : Prop} (h : p := by (with_reducible repeat (first | refine blk_drewN ?_ _ | refine blk_drew ?_ | refine blk_alloc ?_ _)); refine blk_far ?_ NB256_258.out _; (with_reducible repeat (first | refine blk_drewN ?_ _ | refine blk_drew ?_ | refine blk_alloc ?_ _)); refine blk_far ?_ NB256_258.out _; (with_reducible repeat (first | refine blk_drewN ?_ _ | refine blk_drew ?_ | refine blk_alloc ?_ _)); refine blk_far ?_ NB256_258.out _; (with_reducible repeat (first | refine blk_drewN ?_ _ | refine blk_drew ?_ | refine blk_alloc ?_ _)); exact BK256.out) : p := h
theorem z6_12 {p : Prop} (h : p := by (with_reducible repeat (first | refine blk_drewN ?_ _ | refine blk_drew ?_ | refine blk_alloc ?_ _)); refine blk_far ?_ NB255_258.out _; (with_reducible repeat (first | refine blk_drewN ?_ _ | refine blk_drew ?_ | refine blk_alloc ?_ _)); refine blk_far ?_ NB255_258.out _; (with_reducible repeat (first | refine blk_drewN ?_ _ | refine blk_drew ?_ | refine blk_alloc ?_ _)); refine blk_far ?_ NB255_258.out _; (with_reducible repeat (first | refine blk_drewN ?_ _ | refine blk_drew ?_ | refine blk_alloc ?_ _)); exact BK255.out) : p := h
theorem z6_13 {p : Prop} (h : p := by (with_reducible repeat (first | apply Kd.Q_alloc | apply Kd.Q_drewN | apply Kd.Q_drew)); exact HO267.out) : p := h
theorem z6_14 {p : Prop} (h : p := by (with_reducible repeat (first | refine blk_drewN ?_ _ | refine blk_drew ?_ | refine blk_alloc ?_ _)); refine blk_put (cs := #[.slice none 0 0, .slice none 0 0, .int .i64 0]) ?_ 2 _ rfl; (with_reducible repeat (first | refine blk_drewN ?_ _ | refine blk_drew ?_ | refine blk_alloc ?_ _)); refine blk_put (cs := #[.slice none 0 0, .slice none 0 0, .int .i64 0]) ?_ 1 _ rfl; (with_reducible repeat (first | refine blk_drewN ?_ _ | refine blk_drew ?_ | refine blk_alloc ?_ _)); refine blk_put (cs := #[.slice none 0 0, .slice none 0 0, .int .i64 0]) ?_ 0 _ rfl; (with_reducible repeat (first | refine blk_drewN ?_ _ | refine blk_drew ?_ | refine blk_alloc ?_ _)); exact BK258.out) : p := h
theorem z6_15 {p : Prop} (h : p := by (with_reducible repeat (first | refine blk_drewN ?_ _ | refine blk_drew ?_ | refine blk_alloc ?_ _)); exact BK270.out) : p := h
theorem z6_16 {p : Prop} (h : p := by (try simp only [List.map_toArray, List.map_cons, List.map_nil]); first | done | rfl | (simp only [List.length_drop, List.length_take]; rfl)) : p := h
theorem z6_17 {p : Prop} (h : p := by (with_reducible repeat (first | apply Kd.V_alloc | apply Kd.V_drewN | apply Kd.V_drew)); exact HO_256001.out) : p := h
theorem z6_18 {p : Prop} (h : p := by (with_reducible repeat (first | apply Kd.R_alloc | apply Kd.R_drewN | apply Kd.R_drew)); exact HO273.out) : p := h
theorem z6_19 {p : Prop} (h : p := by kernel_rfl) : p := h
theorem z6_20 {p : Prop} (h : p := by first | exact Kd.R_nil _ _ _ _ _ | exact Kd.N_nil _ _ _ _ _ | exact Kd.V_nil _ _ _ _ _ | exact Kd.Q_nil _ _ _ _ _ | exact Kd.S_nil _ _ _ _ _) : p := h
theorem z6_21 {p : Prop} (h : p := by (with_reducible repeat (first | apply Kd.V_alloc | apply Kd.V_drewN | apply Kd.V_drew)); exact HO0_1.out) : p := h
theorem z6_22 {p : Prop} (h : p := by repeat (first | (with_reducible first | exact HB.out | apply below_alloc | apply pw_below_drewN | apply below_drew1 | refine below_set ?_ GE255.out | refine below_set ?_ GE256.out | refine below_set ?_ GE257.out) | exact HB.out)) : p := h
theorem z6_23 {p : Prop} (h : p := by (with_reducible repeat (first | apply Kd.R_alloc | apply Kd.R_drewN | apply Kd.R_drew)); exact HO279.out) : p := h
theorem z6_24 {p : Prop} (h : p := by repeat (first | (with_reducible first | exact HB.out | apply below_alloc | apply pw_below_drewN | apply below_drew1 | refine below_set ?_ GE255.out | refine below_set ?_ GE256.out) | exact HB.out)) : p := h
theorem z6_25 {p : Prop} (h : p := by rw [hg]; exact Nat.ne_of_lt (blk_lt (g := gb256) (o := .cells #[.int .i64 a1_0, .int .i64 a1_1, .int .i64 a1_2] 32 (0, 0)) z6_4)) : p := h
theorem z6_26 {p : Prop} (h : p := by rw [hg]; exact Nat.ne_of_gt (blk_lt (g := gb256) (o := .cells #[.int .i64 a1_0, .int .i64 a1_1, .int .i64 a1_2] 32 (0, 0)) z6_4)) : p := h
theorem z6_27 {p : Prop} (h : p := by decide) : p := h
theorem z6_28 {p : Prop} (h : p := by (with_reducible repeat (first | apply Kd.V_alloc | apply Kd.V_drewN | apply Kd.V_drew)); exact Kd.V_mono HO0_1.out (fun _ hk => ⟨hk.1.1.1.1, ⟨hk.1.1.1.2, ⟨hk.1.1.2, ⟨hk.1.2, hk.2⟩⟩⟩⟩)) : p := h
theorem z6_29 {p : Prop} (h : p := by repeat (first | (with_reducible first | exact HB.out | apply below_alloc | apply pw_below_drewN | apply below_drew1 | refine below_set ?_ GE255.out) | exact HB.out)) : p := h
theorem z6_30 {p : Prop} (h : p := by (with_reducible repeat (first | apply Kd.V_alloc | apply Kd.V_drewN | apply Kd.V_drew)); exact Kd.V_mono HO_256001.out (fun _ hk => ⟨⟨hk.1.1.1, ⟨hk.1.1.2.2.1, ⟨hk.1.1.2.2.2.1, ⟨hk.1.2, ⟨hk.2, ⟨hk.1.1.2.2.2.2.1, ⟨hk.1.1.2.2.2.2.2.1, ⟨hk.1.1.2.2.2.2.2.2.1, ⟨hk.1.1.2.2.2.2.2.2.2.1, hk.1.1.2.2.2.2.2.2.2.2⟩⟩⟩⟩⟩⟩⟩⟩⟩, hk.1.1.2.1⟩)) : p := h
theorem z6_31 {p : Prop} (h : p := by repeat (first | (with_reducible first | exact HB.out | apply below_alloc | apply pw_below_drewN | apply below_drew1) | exact HB.out)) : p := h
theorem z6_32 {p : Prop} (h : p := by rw [hg]; exact Nat.ne_of_lt (blk_lt (g := gb255) (o := .cells #[.int .i64 a0_0, .slice A0_1 l0_1.length c0_1] 30 (0, 0)) z6_3)) : p := h
theorem z6_33 {p : Prop} (h : p := by rw [hg]; exact Nat.ne_of_gt (blk_lt (g := gb255) (o := .cells #[.int .i64 a0_0, .slice A0_1 l0_1.length c0_1] 30 (0, 0)) z6_3)) : p := h
theorem z6_34 {p : Prop} (h : p := by (with_reducible repeat (first | apply Kd.R_alloc | apply Kd.R_drewN | apply Kd.R_drew)); exact HO276.out) : p := h
theorem z6_35 {p : Prop} (h : p := by simp only [putAll, Act.put, List.setIfInBounds_toArray, List.set_cons_zero, List.set_cons_succ]) : p := h
theorem z6_36 {p : Prop} (h : p := by first | rfl | (simp [errW_none, errW_some] <;> rfl) | (simp [*, errW_none, errW_some] <;> rfl)) : p := h
theorem z6_37 {p : Prop} (h : p := by (with_reducible repeat (first | apply Kd.R_alloc | apply Kd.R_drewN | apply Kd.R_drew)); exact Kd.R_mono HO_259001.out (fun _ hk => ⟨⟨hk.1.1.1, ⟨hk.1.1.2.2, ⟨hk.1.2, hk.2⟩⟩⟩, hk.1.1.2.1⟩)) : p := h
theorem z6_38 {p : Prop} (h : p := by (with_reducible repeat (first | apply Kd.R_alloc | apply Kd.R_drewN | apply Kd.R_drew)); exact Kd.R_mono HO_259000.out (fun _ hk => ⟨hk.1.1.1, ⟨hk.1.1.2.1, ⟨hk.1.1.2.2, ⟨hk.1.2, hk.2⟩⟩⟩⟩)) : p := h
theorem z6_39 {p : Prop} (h : p := by (with_reducible repeat (first | apply Kd.R_alloc | apply Kd.R_drewN | apply Kd.R_drew)); exact Kd.R_mono HO279.out (fun _ hk => ⟨⟨hk.1.1.1.1.1, ⟨hk.1.1.2, ⟨hk.1.2, hk.2⟩⟩⟩, hk.1.1.1.2⟩)) : p := h
theorem z6_40 {p : Prop} (h : p := by (with_reducible repeat (first | apply Kd.R_alloc | apply Kd.R_drewN | apply Kd.R_drew)); exact Kd.R_mono HO273.out (fun _ hk => ⟨⟨hk.1.1.1.1.1, ⟨hk.1.1.2, ⟨hk.1.2, hk.2⟩⟩⟩, hk.1.1.1.2⟩)) : p := h
theorem z6_41 {p : Prop} (h : p := by rfl) : p := h
theorem z6_42 {p : Prop} (h : p := by first | rfl | (simp; done) | (simp [*]; done)) : p := h
theorem z6_43 {p : Prop} (h : p := by (with_reducible repeat (first | apply Kd.R_alloc | apply Kd.R_drewN | apply Kd.R_drew)); exact Kd.R_mono HO279.out (fun _ hk => ⟨hk.1.1, ⟨hk.1.2.2.1, ⟨hk.1.2.2.2, ⟨hk.2, hk.1.2.1⟩⟩⟩⟩)) : p := h
theorem z6_44 {p : Prop} (h : p := by (with_reducible repeat (first | apply Kd.R_alloc | apply Kd.R_drewN | apply Kd.R_drew)); exact Kd.R_mono HO273.out (fun _ hk => ⟨hk.1.1, ⟨hk.1.2.2.1, ⟨hk.2, ⟨hk.1.2.2.2, hk.1.2.1⟩⟩⟩⟩)) : p := h
theorem z6_45 {p : Prop} (h : p := by (with_reducible repeat (first | apply Kd.Q_alloc | apply Kd.Q_drewN | apply Kd.Q_drew)); exact Kd.Q_mono HO267.out (fun _ hk => ⟨⟨hk.1.1.1, ⟨hk.1.1.2.2, ⟨hk.1.2, hk.2⟩⟩⟩, hk.1.1.2.1⟩)) : p := h
theorem z6_46 {p : Prop} (h : p := by rw [if_neg (show ¬ (false = true) by decide)] at H; exact H) : p := h
theorem z6_47 {p : Prop} (h : p := by first | (with_reducible assumption) | assumption) : p := h
theorem z6_48 {p : Prop} (h : p := by rw [hg]; exact Nat.ne_of_lt (blk_lt (g := gb257) (o := .cells #[.slice none 0 0, .slice none 0 0, .int .i64 x258002_2] 93 (0, 0)) z6_5)) : p := h
theorem z6_49 {p : Prop} (h : p := by rw [hg]; exact Nat.ne_of_gt (blk_lt (g := gb257) (o := .cells #[.slice none 0 0, .slice none 0 0, .int .i64 x258002_2] 93 (0, 0)) z6_5)) : p := h
theorem z6_50 {p : Prop} (h : p := by rw [hg]; exact Nat.ne_of_lt (blk_lt (g := gb258) (o := .cells #[u259000, u259001, .int .i64 x259002_2] 93 (0, 0)) z6_6)) : p := h
theorem z6_51 {p : Prop} (h : p := by rw [hg]; exact Nat.ne_of_gt (blk_lt (g := gb258) (o := .cells #[u259000, u259001, .int .i64 x259002_2] 93 (0, 0)) z6_6)) : p := h
theorem z6_52 {p : Prop} (h : p := by rw [hg]; exact (below_size z6_2)) : p := h

/-! ### impl_runRule: function 66 -/
mutual
def impl_runRule.j0 : Nat → List Int → Bool → Int → List Int → Int → Int → Int → Int → Option (List Int × List Int × Int × Bool)
 | 0, _, _, _, _, _, _, _, _ => none
 | k + 1, x2, x28, x256000, x256001, x257000, x257001, x257002, x259002 => if x28 = true then (some (([] : List Int), ([] : List Int), 0, false)) else (impl_runRule.l0 k x2 (x2.length : Int) 0 x256000 x256001 x257000 x257001 x257002 ([] : List Int) ([] : List Int) x259002)
def impl_runRule.l0 : Nat → List Int → Int → Int → Int → List Int → Int → Int → Int → List Int → List Int → Int → Option (List Int × List Int × Int × Bool)
 | 0, _, _, _, _, _, _, _, _, _, _, _ => none
 | k + 1, x30, x31, x32, x256000, x256001, x257000, x257001, x257002, x259000, x259001, x259002 => if x32 < x31 then (if 0 ≤ x32 then (if x32 < (x30.length : Int) then ((impl_total.f k x256001).bind fun t262 => ((impl_Rule_order.f k x257000 x257001 x257002 (wrap64 (x256000 + t262))).bind fun t263 => ((impl_Flow_day.f k x256000 x256001 t263 (rd x30 x32)).bind fun bt264 => (if bt264.2.2.2 = true then ((some (([t263] : List Int) : List Int)).bind fun y271 => (if x259000.length + y271.length < 17592186044416 then ((some (([bt264.1] : List Int) : List Int)).bind fun y277 => (if x259001.length + y277.length < 17592186044416 then (impl_runRule.l0 k x30 x31 (wrap64 (x32 + 1)) bt264.1 bt264.2.1 x257000 x257001 x257002 (x259000 ++ y271) (x259001 ++ y277) (wrap64 (x259002 + bt264.2.2.1))) else (none))) else (none))) else (some (([] : List Int), ([] : List Int), 0, false)))))) else (none)) else (none)) else (some (x259000, x259001, x259002, true))
end
def impl_runRule.f (k : Nat) (a0_0 : Int) (l0_1 : List Int) (a1_0 : Int) (a1_1 : Int) (a1_2 : Int) (l2 : List Int) : Option (List Int × List Int × Int × Bool) := (impl_IsFlow.f k a0_0 l0_1).bind fun t259 => (if t259 = true then ((impl_IsRule.f k a1_0 a1_1 a1_2).bind fun t260 => (if t260 = true then (impl_runRule.j0 k l2 (decide ((l2.length : Int) > 20)) a0_0 l0_1 a1_0 a1_1 a1_2 0) else (impl_runRule.j0 k l2 true a0_0 l0_1 a1_0 a1_1 a1_2 0))) else (impl_runRule.j0 k l2 true a0_0 l0_1 a1_0 a1_1 a1_2 0))
theorem impl_runRule.mono_l : ∀ k, (∀ y0 y1 y2 y3 y4 y5 y6 y7, LeO (impl_runRule.j0 k y0 y1 y2 y3 y4 y5 y6 y7) (impl_runRule.j0 (k + 1) y0 y1 y2 y3 y4 y5 y6 y7)) ∧ (∀ y0 y1 y2 y3 y4 y5 y6 y7 y8 y9 y10, LeO (impl_runRule.l0 k y0 y1 y2 y3 y4 y5 y6 y7 y8 y9 y10) (impl_runRule.l0 (k + 1) y0 y1 y2 y3 y4 y5 y6 y7 y8 y9 y10))
 | 0 => ⟨fun _ _ _ _ _ _ _ _ r h => by simp [impl_runRule.j0] at h, fun _ _ _ _ _ _ _ _ _ _ _ r h => by simp [impl_runRule.l0] at h⟩
 | k + 1 => by
  obtain ⟨ih0, ih1⟩ := impl_runRule.mono_l k
  refine ⟨?_, ?_⟩
  ·intro y0 y1 y2 y3 y4 y5 y6 y7
   unfold impl_runRule.j0
   repeat' first
   | (with_reducible exact ih0 _ _ _ _ _ _ _ _)
   | (with_reducible exact ih1 _ _ _ _ _ _ _ _ _ _ _)
   | (with_reducible exact impl_Flow_day.mono _ _ _ _ _)
   | (with_reducible exact impl_IsFlow.mono _ _ _)
   | (with_reducible exact impl_IsRule.mono _ _ _ _)
   | (with_reducible exact impl_Rule_order.mono _ _ _ _ _)
   | (with_reducible exact impl_total.mono _ _)
   | (with_reducible exact LeO.refl _)
   | (with_reducible exact LeO.none _)
   | (with_reducible refine LeO.ite ?_ ?_)
   | (with_reducible refine LeO.bind ?_ (fun _ => ?_))
   | exact ih0 _ _ _ _ _ _ _ _
   | exact ih1 _ _ _ _ _ _ _ _ _ _ _
   | exact impl_Flow_day.mono _ _ _ _ _
   | exact impl_IsFlow.mono _ _ _
   | exact impl_IsRule.mono _ _ _ _
   | exact impl_Rule_order.mono _ _ _ _ _
   | exact impl_total.mono _ _
   | exact LeO.none _
   | refine LeO.ite ?_ ?_
   | refine LeO.bind ?_ (fun _ => ?_)
  ·intro y0 y1 y2 y3 y4 y5 y6 y7 y8 y9 y10
   unfold impl_runRule.l0
   repeat' first
   | (with_reducible exact ih0 _ _ _ _ _ _ _ _)
   | (with_reducible exact ih1 _ _ _ _ _ _ _ _ _ _ _)
   | (with_reducible exact impl_Flow_day.mono _ _ _ _ _)
   | (with_reducible exact impl_IsFlow.mono _ _ _)
   | (with_reducible exact impl_IsRule.mono _ _ _ _)
   | (with_reducible exact impl_Rule_order.mono _ _ _ _ _)
   | (with_reducible exact impl_total.mono _ _)
   | (with_reducible exact LeO.refl _)
   | (with_reducible exact LeO.none _)
   | (with_reducible refine LeO.ite ?_ ?_)
   | (with_reducible refine LeO.bind ?_ (fun _ => ?_))
   | exact ih0 _ _ _ _ _ _ _ _
   | exact ih1 _ _ _ _ _ _ _ _ _ _ _
   | exact impl_Flow_day.mono _ _ _ _ _
   | exact impl_IsFlow.mono _ _ _
   | exact impl_IsRule.mono _ _ _ _
   | exact impl_Rule_order.mono _ _ _ _ _
   | exact impl_total.mono _ _
   | exact LeO.none _
   | refine LeO.ite ?_ ?_
   | refine LeO.bind ?_ (fun _ => ?_)
theorem impl_runRule.mono : ∀ a0 a1 a2 a3 a4 a5 k, LeO (impl_runRule.f k a0 a1 a2 a3 a4 a5) (impl_runRule.f (k + 1) a0 a1 a2 a3 a4 a5) := by
 intro a0 a1 a2 a3 a4 a5 k
 obtain ⟨ih0, ih1⟩ := impl_runRule.mono_l k
 unfold impl_runRule.f
 repeat' first
   | (with_reducible exact ih0 _ _ _ _ _ _ _ _)
   | (with_reducible exact ih1 _ _ _ _ _ _ _ _ _ _ _)
   | (with_reducible exact impl_Flow_day.mono _ _ _ _ _)
   | (with_reducible exact impl_IsFlow.mono _ _ _)
   | (with_reducible exact impl_IsRule.mono _ _ _ _)
   | (with_reducible exact impl_Rule_order.mono _ _ _ _ _)
   | (with_reducible exact impl_total.mono _ _)
   | (with_reducible exact LeO.refl _)
   | (with_reducible exact LeO.none _)
   | (with_reducible refine LeO.ite ?_ ?_)
   | (with_reducible refine LeO.bind ?_ (fun _ => ?_))
   | exact ih0 _ _ _ _ _ _ _ _
   | exact ih1 _ _ _ _ _ _ _ _ _ _ _
   | exact impl_Flow_day.mono _ _ _ _ _
   | exact impl_IsFlow.mono _ _ _
   | exact impl_IsRule.mono _ _ _ _
   | exact impl_Rule_order.mono _ _ _ _ _
   | exact impl_total.mono _ _
   | exact LeO.none _
   | refine LeO.ite ?_ ?_
   | refine LeO.bind ?_ (fun _ => ?_)
def impl_runRule.T7 : Bool × List (List Nat × List Nat) := (true, [([], []), ([], []), ([1], [1]), ([], []), ([3], [3]), ([4], [4]), ([2, 5], [2, 5]), ([0, 6, 5], [0, 6]), ([7, 7, 0, 1, 2, 3, 4, 5, 6, 7], [7])])
def impl_runRule.B7 : List Nat := [0, 0, 2, 0, 8, 24, 62, 127, 255]
theorem impl_runRule.tab7 : rtab .any (opsOf Try.f66 7) = impl_runRule.T7 := z6_19
theorem impl_runRule.bits7 : waitsOk impl_runRule.T7.2 impl_runRule.B7 = true := z6_19
def impl_runRule.T12 : Bool × List (List Nat × List Nat) := (true, [([], []), ([0], [0]), ([], []), ([2], [2]), ([1, 3], [1, 3]), ([], []), ([5], [5]), ([], []), ([7], [7]), ([8], [8]), ([6, 9, 4], [6, 9]), ([], []), ([11], [11]), ([], []), ([12, 13], [12, 13]), ([0, 1, 2, 3, 4, 5, 6, 11, 12], []), ([15, 4, 10, 0, 1, 2, 3, 4, 5, 6, 11, 12], [4, 15]), ([0, 1, 2, 3, 4, 5, 6, 7, 8, 9, 10, 11, 12, 15, 16], []), ([17, 10, 16, 0, 1, 2, 3, 4, 5, 6, 7, 8, 9, 10, 11, 12, 15, 16], [10, 17]), ([0, 1, 2, 3, 4, 5, 6, 7, 8, 9, 10, 11, 12, 13, 14, 15, 16, 17, 18], []), ([19, 14, 18, 0, 1, 2, 3, 4, 5, 6, 7, 8, 9, 10, 11, 12, 13, 14, 15, 16, 17, 18], [14, 19])])
def impl_runRule.B12 : List Nat := [0, 1, 0, 4, 15, 0, 32, 0, 128, 384, 1023, 0, 2048, 0, 14336, 6271, 40959, 106495, 237567, 524287, 1048575]
theorem impl_runRule.tab12 : rtab .any (opsOf Try.f66 12) = impl_runRule.T12 := z6_19
theorem impl_runRule.bits12 : waitsOk impl_runRule.T12.2 impl_runRule.B12 = true := z6_19
set_option maxHeartbeats 8000000 in
set_option maxRecDepth 100000 in
theorem impl_runRule.calls (k : Nat) (a0_0 : Int) (P0_1_ : Nat → Prop) (A0_1 : Option Addr) (c0_1 : Nat) (l0_1 : List Int) (a1_0 : Int) (a1_1 : Int) (a1_2 : Int) (A2 : Option Addr) (c2 : Nat) (l2 : List Int) (r1 : List Int) (r2 : List Int) (r3 : Int) (r4 : Bool) (w : World) (hs0_1 : Kd.V (Kd.int .i64) 3 w w.heap.size (fun k_ => P0_1_ k_) (.slice A0_1 l0_1.length c0_1) l0_1) (hr2 : Kd.C (Kd.int .i64) w A2 l2.length l2) (hc2 : l2.length ≤ c2) (h : impl_runRule.f k a0_0 l0_1 a1_0 a1_1 a1_2 l2 = some (r1, r2, r3, r4)) :
  Calls Try.prog 66 #[.agg #[.int .i64 a0_0, .slice A0_1 l0_1.length c0_1], .agg #[.int .i64 a1_0, .int .i64 a1_1, .int .i64 a1_2], .slice A2 l2.length c2] w fun e w' => ∃ v0_ v1_ : Value, e = .returned (.tuple #[.agg #[v0_, v1_, .int .i64 r3], .bool r4]) ∧ Kd.R (Kd.int .i64) 3 w' w.heap.size (fun k_ => (w.heap.size ≤ k_) ∧ z6_V k_ v1_) v0_ r1 ∧ Kd.R (Kd.int .i64) 3 w' w.heap.size (fun k_ => (w.heap.size ≤ k_) ∧ z6_V k_ v0_) v1_ r2 ∧ Below w.heap.size w w' := by
 have hu30 := Try.underlying30
 have hu32 := Try.underlying32
 have hu93 := Try.underlying93
 have HO0_1 := z6_A (show Kd.V (Kd.int .i64) 3 w w.heap.size (fun k_ => (P0_1_ k_ ∨ w.heap.size ≤ k_)) (.slice A0_1 l0_1.length c0_1) l0_1 from Kd.V_mono hs0_1 (fun k_ hk => .inl hk))
 have HR2 := z6_A hr2
 have HC2 := z6_A hc2
 clear hr2 hc2
 have HB := z6_A (Below.refl w.heap.size w)
 have H : ((impl_IsFlow.f k a0_0 l0_1).bind fun t259 => (if t259 = true then ((impl_IsRule.f k a1_0 a1_1 a1_2).bind fun t260 => (if t260 = true then (impl_runRule.j0 k l2 (decide ((l2.length : Int) > 20)) a0_0 l0_1 a1_0 a1_1 a1_2 0) else (impl_runRule.j0 k l2 true a0_0 l0_1 a1_0 a1_1 a1_2 0))) else (impl_runRule.j0 k l2 true a0_0 l0_1 a1_0 a1_1 a1_2 0))) = some (r1, r2, r3, r4) := h
 clear h
 have HC4 := z6_A H
 clear H
 go_enter Try.func66, Try.ntmps66
 go_upto_region 2 with (first | ((with_reducible refine gate_dst (N := 3) rfl ?_); (try (refine gate_guard z6_41 ?_; dsimp only)); refine box_event ?hg (N := 3) ?hd (cs := #[.int .i64 a0_0, .slice A0_1 l0_1.length c0_1]) (t := 30) ?hr ?_; (case hd => rfl); (case hg => rfl); (case hr => first | (go_simp; done) | (go_simp; rfl)); intro gb255 hg w5 hbox hb; have n0_ := z6_A (Kd.V_below (Kd.V_elderB z6_21 gb255 (Nat.le_of_eq hg.symm)) hb); have n1_ := z6_A (below_step z6_31 hb); have n2_ := z6_A (hbox); have n3_ := z6_A ((by rw [hg]; exact (below_size z6_31) : w.heap.size ≤ gb255)); have n4_ := z6_A ((by rw [hg]; exact (below_size z6_31) : w.heap.size ≤ gb255)); clear HO0_1 HB; revert n0_ n1_ n2_ n3_ n4_; intro HO0_1 HB BK255 GW255 GE255; clear hb hbox hg) | ((with_reducible refine gate_dst (N := 4) rfl ?_); (try (refine gate_guard z6_41 ?_; dsimp only)); refine box_event ?hg (N := 4) ?hd (cs := #[.int .i64 a1_0, .int .i64 a1_1, .int .i64 a1_2]) (t := 32) ?hr ?_; (case hd => rfl); (case hg => rfl); (case hr => first | (go_simp; done) | (go_simp; rfl)); intro gb256 hg w6 hbox hb; have n0_ := z6_A (Kd.V_below (Kd.V_elderB z6_21 gb256 (Nat.le_of_eq hg.symm)) hb); have n1_ := z6_A (blk_below (g := gb255) (o := .cells #[.int .i64 a0_0, .slice A0_1 l0_1.length c0_1] 30 (0, 0)) z6_3 hb); have n2_ := z6_A (below_step z6_29 hb); have n3_ := z6_A (hbox); have n4_ := z6_A ((by rw [hg]; exact (below_size z6_29) : w.heap.size ≤ gb256)); have n5_ := z6_A ((by rw [hg]; exact (below_size z6_29) : w.heap.size ≤ gb256)); have n6_ := z6_A ((z6_32 : gb255 ≠ gb256)); have n7_ := z6_A ((z6_33 : gb256 ≠ gb255)); clear HO0_1 BK255 HB; revert n0_ n1_ n2_ n3_ n4_ n5_ n6_ n7_; intro HO0_1 BK255 HB BK256 GW256 GE256 NB255_256 NB256_255; clear hb hbox hg) | ((with_reducible refine gate_dst (N := 6) rfl ?_); (try (refine gate_guard z6_41 ?_; dsimp only)); refine box_event ?hg (N := 6) ?hd (cs := #[.slice none 0 0, .slice none 0 0, .int .i64 0]) (t := 93) ?hr ?_; (case hd => rfl); (case hg => rfl); (case hr => first | (go_simp; done) | (go_simp; rfl)); intro gb257 hg w7 hbox hb; have n0_ := z6_A (Kd.V_below (Kd.V_elderB z6_21 gb257 (Nat.le_of_eq hg.symm)) hb); have n1_ := z6_A (blk_below (g := gb255) (o := .cells #[.int .i64 a0_0, .slice A0_1 l0_1.length c0_1] 30 (0, 0)) z6_3 hb); have n2_ := z6_A (blk_below (g := gb256) (o := .cells #[.int .i64 a1_0, .int .i64 a1_1, .int .i64 a1_2] 32 (0, 0)) z6_4 hb); have n3_ := z6_A (below_step z6_24 hb); have n4_ := z6_A (hbox); have n5_ := z6_A ((by rw [hg]; exact (below_size z6_24) : w.heap.size ≤ gb257)); have n6_ := z6_A ((by rw [hg]; exact (below_size z6_24) : w.heap.size ≤ gb257)); have n7_ := z6_A ((z6_32 : gb255 ≠ gb257)); have n8_ := z6_A ((z6_33 : gb257 ≠ gb255)); have n9_ := z6_A ((z6_25 : gb256 ≠ gb257)); have n10_ := z6_A ((z6_26 : gb257 ≠ gb256)); clear HO0_1 BK255 BK256 HB; revert n0_ n1_ n2_ n3_ n4_ n5_ n6_ n7_ n8_ n9_ n10_; intro HO0_1 BK255 BK256 HB BK257 GW257 GE257 NB255_257 NB257_255 NB256_257 NB257_256; clear hb hbox hg) | ((with_reducible refine gate_dst (N := 8) rfl ?_); (try (refine gate_guard z6_41 ?_; dsimp only)); refine box_event ?hg (N := 8) ?hd (cs := #[.slice none 0 0, .slice none 0 0, .int .i64 0]) (t := 93) ?hr ?_; (case hd => rfl); (case hg => rfl); (case hr => first | (go_simp; done) | (go_simp; rfl)); intro gb258 hg w8 hbox hb; have n0_ := z6_A (Kd.V_below (Kd.V_elderB z6_21 gb258 (Nat.le_of_eq hg.symm)) hb); have n1_ := z6_A (blk_below (g := gb255) (o := .cells #[.int .i64 a0_0, .slice A0_1 l0_1.length c0_1] 30 (0, 0)) z6_3 hb); have n2_ := z6_A (blk_below (g := gb256) (o := .cells #[.int .i64 a1_0, .int .i64 a1_1, .int .i64 a1_2] 32 (0, 0)) z6_4 hb); have n3_ := z6_A (blk_below (g := gb257) (o := .cells #[.slice none 0 0, .slice none 0 0, .int .i64 0] 93 (0, 0)) z6_5 hb); have n4_ := z6_A (below_step z6_22 hb); have n5_ := z6_A (hbox); have n6_ := z6_A ((by rw [hg]; exact (below_size z6_22) : w.heap.size ≤ gb258)); have n7_ := z6_A ((by rw [hg]; exact (below_size z6_22) : w.heap.size ≤ gb258)); have n8_ := z6_A ((z6_32 : gb255 ≠ gb258)); have n9_ := z6_A ((z6_33 : gb258 ≠ gb255)); have n10_ := z6_A ((z6_25 : gb256 ≠ gb258)); have n11_ := z6_A ((z6_26 : gb258 ≠ gb256)); have n12_ := z6_A ((by rw [hg]; exact Nat.ne_of_lt (blk_lt (g := gb257) (o := .cells #[.slice none 0 0, .slice none 0 0, .int .i64 0] 93 (0, 0)) z6_5) : gb257 ≠ gb258)); have n13_ := z6_A ((by rw [hg]; exact Nat.ne_of_gt (blk_lt (g := gb257) (o := .cells #[.slice none 0 0, .slice none 0 0, .int .i64 0] 93 (0, 0)) z6_5) : gb258 ≠ gb257)); clear HO0_1 BK255 BK256 BK257 HB; revert n0_ n1_ n2_ n3_ n4_ n5_ n6_ n7_ n8_ n9_ n10_ n11_ n12_ n13_; intro HO0_1 BK255 BK256 BK257 HB BK258 GW258 GE258 NB255_258 NB258_255 NB256_258 NB258_256 NB257_258 NB258_257; clear hb hbox hg; have hnb9 := NB258_255.out; have hnc9 := NB255_258.out; have hnb10 := NB258_256.out; have hnc10 := NB256_258.out; have hnb11 := NB258_257.out; have hnc11 := NB257_258.out; have hcz12_0 : w8.cell? ⟨gb258, 0, none⟩ = some (.slice none 0 0) := (blk_cell BK258.out 0).trans rfl; have hcz12_1 : w8.cell? ⟨gb258, 1, none⟩ = some (.slice none 0 0) := (blk_cell BK258.out 1).trans rfl; have hcz12_2 : w8.cell? ⟨gb258, 2, none⟩ = some (.int .i64 0) := (blk_cell BK258.out 2).trans rfl; have hfz12_0 := blk_frozen BK258.out 0; have hfz12_1 := blk_frozen BK258.out 1; have hfz12_2 := blk_frozen BK258.out 2))
 (try simp only [Act.put, List.setIfInBounds_toArray, List.set_cons_zero, List.set_cons_succ])
 go_cut [28] (fun v28 wc => ∃ (kq : Nat) (x28_3 : Bool), v28 = .bool x28_3 ∧ Aside0 (impl_runRule.j0 kq l2 x28_3 a0_0 l0_1 a1_0 a1_1 a1_2 0 = some (r1, r2, r3, r4)) ∧ Aside0 (kq ≤ k) ∧ Aside0 (Kd.V (Kd.int .i64) 3 wc w.heap.size (fun k_ => (P0_1_ k_ ∨ w.heap.size ≤ k_) ∧ k_ ≠ gb255 ∧ k_ ≠ gb256 ∧ k_ ≠ gb257 ∧ k_ ≠ gb258) (.slice A0_1 l0_1.length c0_1) l0_1) ∧ Aside0 (wc.heap[gb255]? = some (.cells #[.int .i64 a0_0, (.slice A0_1 l0_1.length c0_1)] 30 (0, 0))) ∧ Aside0 (wc.heap[gb256]? = some (.cells #[.int .i64 a1_0, .int .i64 a1_1, .int .i64 a1_2] 32 (0, 0))) ∧ Aside0 (wc.heap[gb257]? = some (.cells #[(.slice none 0 0), (.slice none 0 0), .int .i64 0] 93 (0, 0))) ∧ Aside0 (wc.heap[gb258]? = some (.cells #[(.slice none 0 0), (.slice none 0 0), .int .i64 0] 93 (0, 0))) ∧ Aside0 (Below w.heap.size w wc))
 case first =>
  have H := HC4.out
  clear HC4
  replace H := Option.bind_eq_some_iff.mp H
  obtain ⟨t259, A130, H⟩ := H
  (try dsimp only at H)
  have A13 := z6_A A130
  clear A130
  by_cases c14 : t259 = true
  ·subst c14
   have H1 : ((impl_IsRule.f k a1_0 a1_1 a1_2).bind fun t260 => (if t260 = true then (impl_runRule.j0 k l2 (decide ((l2.length : Int) > 20)) a0_0 l0_1 a1_0 a1_1 a1_2 0) else (impl_runRule.j0 k l2 true a0_0 l0_1 a1_0 a1_1 a1_2 0))) = some (r1, r2, r3, r4) := by rw [if_pos rfl] at H; exact H
   clear H
   have H := H1
   clear H1
   replace H := Option.bind_eq_some_iff.mp H
   obtain ⟨t260, A150, H⟩ := H
   (try dsimp only at H)
   have A15 := z6_A A150
   clear A150
   by_cases c16 : t260 = true
   ·subst c16
    have H1 : (impl_runRule.j0 k l2 (decide ((l2.length : Int) > 20)) a0_0 l0_1 a1_0 a1_1 a1_2 0) = some (r1, r2, r3, r4) := by rw [if_pos rfl] at H; exact H
    clear H
    have H := H1
    clear H1
    have H' := z6_A H
    clear H
    have hnb17 := NB255_256.out
    have hnc17 := NB256_255.out
    have hnb18 := NB255_257.out
    have hnc18 := NB257_255.out
    have hnb19 := NB255_258.out
    have hnc19 := NB258_255.out
    have hcz20_0 : w8.cell? ⟨gb255, 0, none⟩ = some (.int .i64 a0_0) := (blk_cell BK255.out 0).trans rfl
    have hcz20_1 : w8.cell? ⟨gb255, 1, none⟩ = some (.slice A0_1 l0_1.length c0_1) := (blk_cell BK255.out 1).trans rfl
    have hfz20_0 := blk_frozen BK255.out 0
    have hfz20_1 := blk_frozen BK255.out 1
    go_wp2_with (first | ((with_reducible refine gate_callee (f := 36) rfl ?_); refine goesL_ (some 17) rfl rfl Try.func36 z6_19 rfl #[.agg #[.int .i64 a0_0, .slice A0_1 l0_1.length c0_1]] rfl z6_16 ?_; (with_reducible refine (impl_IsFlow.calls k a0_0 _ _ l0_1 true _ ?side1 ?side2 A13.out).mono ?_); (case side1 => refine (Kd.V_reads' (e := 3) (base := w.heap.size) (ok := fun k_ => (((((P0_1_ k_ ∨ w.heap.size ≤ k_) ∧ k_ ≠ gb255) ∧ k_ ≠ gb256) ∧ k_ ≠ gb257) ∧ k_ ≠ gb258)) (n := l0_1.length) (c := c0_1) ?_).2.2; exact z6_8); (case side2 => exact (Kd.V_reads' HO0_1.out).2.1); rintro e w21 ⟨rfl, hb⟩; refine ⟨_, rfl, ?_⟩; have n0_ := z6_A (Kd.V_below z6_8 hb); have n1_ := z6_A (blk_below (g := gb255) (o := .cells #[.int .i64 a0_0, .slice A0_1 l0_1.length c0_1] 30 (0, 0)) z6_12 hb); have n2_ := z6_A (blk_below (g := gb256) (o := .cells #[.int .i64 a1_0, .int .i64 a1_1, .int .i64 a1_2] 32 (0, 0)) z6_11 hb); have n3_ := z6_A (blk_below (g := gb257) (o := .cells #[.slice none 0 0, .slice none 0 0, .int .i64 0] 93 (0, 0)) z6_10 hb); have n4_ := z6_A (blk_below (g := gb258) (o := .cells #[.slice none 0 0, .slice none 0 0, .int .i64 0] 93 (0, 0)) z6_14 hb); have n5_ := z6_A (below_step z6_2 hb); clear HO0_1 BK255 BK256 BK257 BK258 HB; revert n0_ n1_ n2_ n3_ n4_ n5_; intro HO0_1 BK255 BK256 BK257 BK258 HB; (try clear hb); (try clear hb2); (try clear hk); (try clear hi); have hnb22 := NB256_257.out; have hnc22 := NB257_256.out; have hnb23 := NB256_258.out; have hnc23 := NB258_256.out; have hcz24_0 : w21.cell? ⟨gb256, 0, none⟩ = some (.int .i64 a1_0) := (blk_cell BK256.out 0).trans rfl; have hcz24_1 : w21.cell? ⟨gb256, 1, none⟩ = some (.int .i64 a1_1) := (blk_cell BK256.out 1).trans rfl; have hcz24_2 : w21.cell? ⟨gb256, 2, none⟩ = some (.int .i64 a1_2) := (blk_cell BK256.out 2).trans rfl; have hfz24_0 := blk_frozen BK256.out 0; have hfz24_1 := blk_frozen BK256.out 1; have hfz24_2 := blk_frozen BK256.out 2) | (go_at_call 48; (with_reducible refine (impl_IsRule.calls k a1_0 a1_1 a1_2 true _ A15.out).mono ?_); rintro e w25 ⟨rfl, hb⟩; have n0_ := z6_A (Kd.V_below z6_21 hb); have n1_ := z6_A (blk_below (g := gb255) (o := .cells #[.int .i64 a0_0, .slice A0_1 l0_1.length c0_1] 30 (0, 0)) z6_3 hb); have n2_ := z6_A (blk_below (g := gb256) (o := .cells #[.int .i64 a1_0, .int .i64 a1_1, .int .i64 a1_2] 32 (0, 0)) z6_4 hb); have n3_ := z6_A (blk_below (g := gb257) (o := .cells #[.slice none 0 0, .slice none 0 0, .int .i64 0] 93 (0, 0)) z6_5 hb); have n4_ := z6_A (blk_below (g := gb258) (o := .cells #[.slice none 0 0, .slice none 0 0, .int .i64 0] 93 (0, 0)) z6_6 hb); have n5_ := z6_A (below_step z6_2 hb); clear HO0_1 BK255 BK256 BK257 BK258 HB; revert n0_ n1_ n2_ n3_ n4_ n5_; intro HO0_1 BK255 BK256 BK257 BK258 HB; (try clear hb); (try clear hb2); (try clear hk); (try clear hi)))
    go_meet
    case rel => exact ⟨_, (decide ((l2.length : Int) > 20)), z6_42, H', ⟨by first | omega | exact Nat.le_refl _⟩, ⟨z6_28⟩, ⟨z6_3⟩, ⟨z6_4⟩, ⟨z6_5⟩, ⟨z6_6⟩, ⟨z6_2⟩⟩
   ·replace c16 := Bool.eq_false_iff.mpr c16
    subst c16
    have H1 : (impl_runRule.j0 k l2 true a0_0 l0_1 a1_0 a1_1 a1_2 0) = some (r1, r2, r3, r4) := z6_46
    clear H
    have H := H1
    clear H1
    have H' := z6_A H
    clear H
    have hnb26 := NB255_256.out
    have hnc26 := NB256_255.out
    have hnb27 := NB255_257.out
    have hnc27 := NB257_255.out
    have hnb28 := NB255_258.out
    have hnc28 := NB258_255.out
    have hcz29_0 : w8.cell? ⟨gb255, 0, none⟩ = some (.int .i64 a0_0) := (blk_cell BK255.out 0).trans rfl
    have hcz29_1 : w8.cell? ⟨gb255, 1, none⟩ = some (.slice A0_1 l0_1.length c0_1) := (blk_cell BK255.out 1).trans rfl
    have hfz29_0 := blk_frozen BK255.out 0
    have hfz29_1 := blk_frozen BK255.out 1
    go_wp2_with (first | ((with_reducible refine gate_callee (f := 36) rfl ?_); refine goesL_ (some 17) rfl rfl Try.func36 z6_19 rfl #[.agg #[.int .i64 a0_0, .slice A0_1 l0_1.length c0_1]] rfl z6_16 ?_; (with_reducible refine (impl_IsFlow.calls k a0_0 _ _ l0_1 true _ ?side1 ?side2 A13.out).mono ?_); (case side1 => refine (Kd.V_reads' (e := 3) (base := w.heap.size) (ok := fun k_ => (((((P0_1_ k_ ∨ w.heap.size ≤ k_) ∧ k_ ≠ gb255) ∧ k_ ≠ gb256) ∧ k_ ≠ gb257) ∧ k_ ≠ gb258)) (n := l0_1.length) (c := c0_1) ?_).2.2; exact z6_8); (case side2 => exact (Kd.V_reads' HO0_1.out).2.1); rintro e w30 ⟨rfl, hb⟩; refine ⟨_, rfl, ?_⟩; have n0_ := z6_A (Kd.V_below z6_8 hb); have n1_ := z6_A (blk_below (g := gb255) (o := .cells #[.int .i64 a0_0, .slice A0_1 l0_1.length c0_1] 30 (0, 0)) z6_12 hb); have n2_ := z6_A (blk_below (g := gb256) (o := .cells #[.int .i64 a1_0, .int .i64 a1_1, .int .i64 a1_2] 32 (0, 0)) z6_11 hb); have n3_ := z6_A (blk_below (g := gb257) (o := .cells #[.slice none 0 0, .slice none 0 0, .int .i64 0] 93 (0, 0)) z6_10 hb); have n4_ := z6_A (blk_below (g := gb258) (o := .cells #[.slice none 0 0, .slice none 0 0, .int .i64 0] 93 (0, 0)) z6_14 hb); have n5_ := z6_A (below_step z6_2 hb); clear HO0_1 BK255 BK256 BK257 BK258 HB; revert n0_ n1_ n2_ n3_ n4_ n5_; intro HO0_1 BK255 BK256 BK257 BK258 HB; (try clear hb); (try clear hb2); (try clear hk); (try clear hi); have hnb31 := NB256_257.out; have hnc31 := NB257_256.out; have hnb32 := NB256_258.out; have hnc32 := NB258_256.out; have hcz33_0 : w30.cell? ⟨gb256, 0, none⟩ = some (.int .i64 a1_0) := (blk_cell BK256.out 0).trans rfl; have hcz33_1 : w30.cell? ⟨gb256, 1, none⟩ = some (.int .i64 a1_1) := (blk_cell BK256.out 1).trans rfl; have hcz33_2 : w30.cell? ⟨gb256, 2, none⟩ = some (.int .i64 a1_2) := (blk_cell BK256.out 2).trans rfl; have hfz33_0 := blk_frozen BK256.out 0; have hfz33_1 := blk_frozen BK256.out 1; have hfz33_2 := blk_frozen BK256.out 2) | (go_at_call 48; (with_reducible refine (impl_IsRule.calls k a1_0 a1_1 a1_2 false _ A15.out).mono ?_); rintro e w34 ⟨rfl, hb⟩; have n0_ := z6_A (Kd.V_below z6_21 hb); have n1_ := z6_A (blk_below (g := gb255) (o := .cells #[.int .i64 a0_0, .slice A0_1 l0_1.length c0_1] 30 (0, 0)) z6_3 hb); have n2_ := z6_A (blk_below (g := gb256) (o := .cells #[.int .i64 a1_0, .int .i64 a1_1, .int .i64 a1_2] 32 (0, 0)) z6_4 hb); have n3_ := z6_A (blk_below (g := gb257) (o := .cells #[.slice none 0 0, .slice none 0 0, .int .i64 0] 93 (0, 0)) z6_5 hb); have n4_ := z6_A (blk_below (g := gb258) (o := .cells #[.slice none 0 0, .slice none 0 0, .int .i64 0] 93 (0, 0)) z6_6 hb); have n5_ := z6_A (below_step z6_2 hb); clear HO0_1 BK255 BK256 BK257 BK258 HB; revert n0_ n1_ n2_ n3_ n4_ n5_; intro HO0_1 BK255 BK256 BK257 BK258 HB; (try clear hb); (try clear hb2); (try clear hk); (try clear hi)))
    go_meet
    case rel => exact ⟨_, (true), z6_42, H', ⟨by first | omega | exact Nat.le_refl _⟩, ⟨z6_28⟩, ⟨z6_3⟩, ⟨z6_4⟩, ⟨z6_5⟩, ⟨z6_6⟩, ⟨z6_2⟩⟩
  ·replace c14 := Bool.eq_false_iff.mpr c14
   subst c14
   have H1 : (impl_runRule.j0 k l2 true a0_0 l0_1 a1_0 a1_1 a1_2 0) = some (r1, r2, r3, r4) := z6_46
   clear H
   have H := H1
   clear H1
   have H' := z6_A H
   clear H
   have hnb35 := NB255_256.out
   have hnc35 := NB256_255.out
   have hnb36 := NB255_257.out
   have hnc36 := NB257_255.out
   have hnb37 := NB255_258.out
   have hnc37 := NB258_255.out
   have hcz38_0 : w8.cell? ⟨gb255, 0, none⟩ = some (.int .i64 a0_0) := (blk_cell BK255.out 0).trans rfl
   have hcz38_1 : w8.cell? ⟨gb255, 1, none⟩ = some (.slice A0_1 l0_1.length c0_1) := (blk_cell BK255.out 1).trans rfl
   have hfz38_0 := blk_frozen BK255.out 0
   have hfz38_1 := blk_frozen BK255.out 1
   go_wp2_with (first | ((with_reducible refine gate_callee (f := 36) rfl ?_); refine goesL_ (some 17) rfl rfl Try.func36 z6_19 rfl #[.agg #[.int .i64 a0_0, .slice A0_1 l0_1.length c0_1]] rfl z6_16 ?_; (with_reducible refine (impl_IsFlow.calls k a0_0 _ _ l0_1 false _ ?side1 ?side2 A13.out).mono ?_); (case side1 => refine (Kd.V_reads' (e := 3) (base := w.heap.size) (ok := fun k_ => (((((P0_1_ k_ ∨ w.heap.size ≤ k_) ∧ k_ ≠ gb255) ∧ k_ ≠ gb256) ∧ k_ ≠ gb257) ∧ k_ ≠ gb258)) (n := l0_1.length) (c := c0_1) ?_).2.2; exact z6_8); (case side2 => exact (Kd.V_reads' HO0_1.out).2.1); rintro e w39 ⟨rfl, hb⟩; refine ⟨_, rfl, ?_⟩; have n0_ := z6_A (Kd.V_below z6_8 hb); have n1_ := z6_A (blk_below (g := gb255) (o := .cells #[.int .i64 a0_0, .slice A0_1 l0_1.length c0_1] 30 (0, 0)) z6_12 hb); have n2_ := z6_A (blk_below (g := gb256) (o := .cells #[.int .i64 a1_0, .int .i64 a1_1, .int .i64 a1_2] 32 (0, 0)) z6_11 hb); have n3_ := z6_A (blk_below (g := gb257) (o := .cells #[.slice none 0 0, .slice none 0 0, .int .i64 0] 93 (0, 0)) z6_10 hb); have n4_ := z6_A (blk_below (g := gb258) (o := .cells #[.slice none 0 0, .slice none 0 0, .int .i64 0] 93 (0, 0)) z6_14 hb); have n5_ := z6_A (below_step z6_2 hb); clear HO0_1 BK255 BK256 BK257 BK258 HB; revert n0_ n1_ n2_ n3_ n4_ n5_; intro HO0_1 BK255 BK256 BK257 BK258 HB; (try clear hb); (try clear hb2); (try clear hk); (try clear hi)))
   go_meet
   case rel => exact ⟨_, (true), z6_42, H', ⟨by first | omega | exact Nat.le_refl _⟩, ⟨z6_28⟩, ⟨z6_3⟩, ⟨z6_4⟩, ⟨z6_5⟩, ⟨z6_6⟩, ⟨z6_2⟩⟩
 case rest =>
  clear HC4
  (try clear c1); (try clear c2); (try clear p2); (try clear c3); (try clear c6); (try clear c9); (try clear c10); (try clear c11); (try clear c14); (try clear c16); (try clear c17); (try clear c18); (try clear c19); (try clear c22); (try clear c23); (try clear c26); (try clear c27); (try clear c28); (try clear c31); (try clear c32); (try clear c35); (try clear c36); (try clear c37); (try clear hcz12_0); (try clear hcz12_1); (try clear hcz12_2); (try clear hcz20_0); (try clear hcz20_1); (try clear hcz24_0); (try clear hcz24_1); (try clear hcz24_2); (try clear hcz29_0); (try clear hcz29_1); (try clear hcz33_0); (try clear hcz33_1); (try clear hcz33_2); (try clear hcz38_0); (try clear hcz38_1); (try clear hfz12_0); (try clear hfz12_1); (try clear hfz12_2); (try clear hfz20_0); (try clear hfz20_1); (try clear hfz24_0); (try clear hfz24_1); (try clear hfz24_2); (try clear hfz29_0); (try clear hfz29_1); (try clear hfz33_0); (try clear hfz33_1); (try clear hfz33_2); (try clear hfz38_0); (try clear hfz38_1)
  obtain ⟨kq, x28_3, rfl, HA, HJ3, HO_256001, BK255, BK256, BK257, BK258, HB⟩ := hcut
  cases kq with
  | zero => exact absurd HA.out (by simp [impl_runRule.j0])
  | succ kj3 =>
   have H := HA.out
   clear HA
   simp only [impl_runRule.j0] at H
   by_cases c40 : x28_3 = true
   ·subst c40
    have H1 : (some (([] : List Int), ([] : List Int), 0, false)) = some (r1, r2, r3, r4) := by rw [if_pos rfl] at H; exact H
    clear H
    have H := H1
    clear H1
    simp only [Option.some.injEq, Prod.mk.injEq] at H
    obtain ⟨rfl, rfl, rfl, rfl⟩ := H
    have hnb41 := NB257_255.out
    have hnc41 := NB255_257.out
    have hnb42 := NB257_256.out
    have hnc42 := NB256_257.out
    have hnb43 := NB257_258.out
    have hnc43 := NB258_257.out
    have hcz44_0 : wc.cell? ⟨gb257, 0, none⟩ = some (.slice none 0 0) := (blk_cell BK257.out 0).trans rfl
    have hcz44_1 : wc.cell? ⟨gb257, 1, none⟩ = some (.slice none 0 0) := (blk_cell BK257.out 1).trans rfl
    have hcz44_2 : wc.cell? ⟨gb257, 2, none⟩ = some (.int .i64 0) := (blk_cell BK257.out 2).trans rfl
    have hfz44_0 := blk_frozen BK257.out 0
    have hfz44_1 := blk_frozen BK257.out 1
    have hfz44_2 := blk_frozen BK257.out 2
    go_wp2
    refine bodyPost_ret (results_ct rfl _ _ gb257 93 #[.slice none 0 0, .slice none 0 0, .int .i64 0] (0, 0) _ rfl (by (with_reducible repeat (first | refine blk_drewN ?_ _ | refine blk_drew ?_ | refine blk_alloc ?_ _)); refine blk_put (cs := #[.slice none 0 0, .slice none 0 0, .int .i64 0]) ?_ 2 _ rfl; (with_reducible repeat (first | refine blk_drewN ?_ _ | refine blk_drew ?_ | refine blk_alloc ?_ _)); refine blk_put (cs := #[.slice none 0 0, .slice none 0 0, .int .i64 0]) ?_ 1 _ rfl; (with_reducible repeat (first | refine blk_drewN ?_ _ | refine blk_drew ?_ | refine blk_alloc ?_ _)); refine blk_put (cs := #[.slice none 0 0, .slice none 0 0, .int .i64 0]) ?_ 0 _ rfl; (with_reducible repeat (first | refine blk_drewN ?_ _ | refine blk_drew ?_ | refine blk_alloc ?_ _)); exact BK257.out) Try.underlying93 rfl z6_19) rfl ?_
    exact ⟨_, _, z6_36, z6_20, z6_20, z6_2⟩
   ·replace c40 := Bool.eq_false_iff.mpr c40
    subst c40
    have H1 : (impl_runRule.l0 kj3 l2 (l2.length : Int) 0 a0_0 l0_1 a1_0 a1_1 a1_2 ([] : List Int) ([] : List Int) 0) = some (r1, r2, r3, r4) := z6_46
    clear H
    have H := H1
    clear H1
    have H' := z6_A H
    clear H
    go_wp2
    go_loopg [32] kj3 (fun kq v32 w' => ∃ (x32_2 : Int) (x256000_2 : Int) (x256001_2 : List Int) (x258002_2 : Int) (x259000_2 : List Int) (x259001_2 : List Int) (x259002_2 : Int) (u256001 : Value) (u259000 : Value) (u259001 : Value), v32 = .int .i64 x32_2 ∧ Aside0 (impl_runRule.l0 kq l2 (l2.length : Int) x32_2 x256000_2 x256001_2 a1_0 a1_1 a1_2 x259000_2 x259001_2 x259002_2 = some (r1, r2, r3, r4)) ∧ Aside0 (kq ≤ kj3) ∧ Aside0 (Kd.V (Kd.int .i64) 3 w' w.heap.size (fun k_ => (P0_1_ k_ ∨ w.heap.size ≤ k_) ∧ z6_V k_ u259000 ∧ z6_V k_ u259001 ∧ k_ ≠ gb255 ∧ k_ ≠ gb256 ∧ k_ ≠ gb257 ∧ k_ ≠ gb258) u256001 x256001_2) ∧ Aside0 (Kd.R (Kd.int .i64) 3 w' w.heap.size (fun k_ => (w.heap.size ≤ k_) ∧ z6_V k_ u259001) u259000 x259000_2) ∧ Aside0 (Kd.R (Kd.int .i64) 3 w' w.heap.size (fun k_ => (w.heap.size ≤ k_) ∧ z6_V k_ u259000) u259001 x259001_2) ∧ Aside0 (w'.heap[gb255]? = some (.cells #[.int .i64 x256000_2, u256001] 30 (0, 0))) ∧ Aside0 (w'.heap[gb256]? = some (.cells #[.int .i64 a1_0, .int .i64 a1_1, .int .i64 a1_2] 32 (0, 0))) ∧ Aside0 (w'.heap[gb257]? = some (.cells #[(.slice none 0 0), (.slice none 0 0), .int .i64 x258002_2] 93 (0, 0))) ∧ Aside0 (w'.heap[gb258]? = some (.cells #[u259000, u259001, .int .i64 x259002_2] 93 (0, 0))) ∧ Aside0 (Below w.heap.size w w'))
    case atStart => exact ⟨(0), (a0_0), (l0_1), (0), (([] : List Int)), (([] : List Int)), (0), (.slice A0_1 l0_1.length c0_1), (.slice none 0 0), (.slice none 0 0), z6_42, H', ⟨Nat.le_refl _⟩, ⟨by (with_reducible repeat (first | apply Kd.V_alloc | apply Kd.V_drewN | apply Kd.V_drew)); exact Kd.V_mono HO_256001.out (fun _ hk => ⟨hk.1, ⟨(by simp [Value.ownBlock]), ⟨(by simp [Value.ownBlock]), ⟨hk.2.1, ⟨hk.2.2.1, ⟨hk.2.2.2.1, hk.2.2.2.2⟩⟩⟩⟩⟩⟩)⟩, ⟨z6_20⟩, ⟨z6_20⟩, ⟨z6_3⟩, ⟨z6_4⟩, ⟨z6_5⟩, ⟨z6_6⟩, ⟨z6_2⟩⟩
    case round =>
     clear H'
     (try clear c1); (try clear c2); (try clear p2); (try clear c3); (try clear c4); (try clear c6); (try clear c9); (try clear c10); (try clear c11); (try clear c14); (try clear c16); (try clear c17); (try clear c18); (try clear c19); (try clear c22); (try clear c23); (try clear c26); (try clear c27); (try clear c28); (try clear c31); (try clear c32); (try clear c35); (try clear c36); (try clear c37); (try clear c40); (try clear c41); (try clear c42); (try clear c43); (try clear hcz12_0); (try clear hcz12_1); (try clear hcz12_2); (try clear hcz20_0); (try clear hcz20_1); (try clear hcz24_0); (try clear hcz24_1); (try clear hcz24_2); (try clear hcz29_0); (try clear hcz29_1); (try clear hcz33_0); (try clear hcz33_1); (try clear hcz33_2); (try clear hcz38_0); (try clear hcz38_1); (try clear hcz44_0); (try clear hcz44_1); (try clear hcz44_2); (try clear hfz12_0); (try clear hfz12_1); (try clear hfz12_2); (try clear hfz20_0); (try clear hfz20_1); (try clear hfz24_0); (try clear hfz24_1); (try clear hfz24_2); (try clear hfz29_0); (try clear hfz29_1); (try clear hfz33_0); (try clear hfz33_1); (try clear hfz33_2); (try clear hfz38_0); (try clear hfz38_1); (try clear hfz44_0); (try clear hfz44_1); (try clear hfz44_2); (try clear p2)
     obtain ⟨x32_2, x256000_2, x256001_2, x258002_2, x259000_2, x259001_2, x259002_2, u256001, u259000, u259001, rfl, HA, HK2, HO_256001, HO_259000, HO_259001, BK255, BK256, BK257, BK258, HB⟩ := hrel
     cases gk with
     | zero => exact absurd HA.out (by simp [impl_runRule.l0])
     | succ k2 =>
      have H := HA.out
      clear HA
      simp only [impl_runRule.l0] at H
      by_cases c45 : x32_2 < (l2.length : Int)
      ·rw [if_pos c45] at H
       have c45b0 : decide (x32_2 < (l2.length : Int)) = true := decide_eq_true c45
       clear c45
       by_cases c46 : 0 ≤ x32_2
       ·rw [if_pos c46] at H
        have c46b0 : decide (0 ≤ x32_2) = true := decide_eq_true c46
        clear c46
        by_cases c47 : x32_2 < (l2.length : Int)
        ·rw [if_pos c47] at H
         have c47b0 : decide (x32_2 < (l2.length : Int)) = true := decide_eq_true c47
         clear c47
         replace H := Option.bind_eq_some_iff.mp H
         obtain ⟨t262, A480, H⟩ := H
         (try dsimp only at H)
         have A48 := z6_A A480
         clear A480
         replace H := Option.bind_eq_some_iff.mp H
         obtain ⟨t263, A490, H⟩ := H
         (try dsimp only at H)
         have A49 := z6_A A490
         clear A490
         replace H := Option.bind_eq_some_iff.mp H
         obtain ⟨⟨t264, t265, t268, t269⟩, A500, H⟩ := H
         (try dsimp only at H)
         have A50 := z6_A A500
         clear A500
         by_cases c51 : t269 = true
         ·subst c51
          have H1 : ((some (([t263] : List Int) : List Int)).bind fun y271 => (if x259000_2.length + y271.length < 17592186044416 then ((some (([t264] : List Int) : List Int)).bind fun y277 => (if x259001_2.length + y277.length < 17592186044416 then (impl_runRule.l0 k2 l2 (l2.length : Int) (wrap64 (x32_2 + 1)) t264 t265 a1_0 a1_1 a1_2 (x259000_2 ++ y271) (x259001_2 ++ y277) (wrap64 (x259002_2 + t268))) else (none))) else (none))) = some (r1, r2, r3, r4) := by rw [if_pos rfl] at H; exact H
          clear H
          have H := H1
          clear H1
          obtain ⟨y271, hy271⟩ : ∃ y_ : List Int, y_ = (([t263] : List Int)) := ⟨_, rfl⟩
          replace H : (if x259000_2.length + y271.length < 17592186044416 then ((some (([t264] : List Int) : List Int)).bind fun y277 => (if x259001_2.length + y277.length < 17592186044416 then (impl_runRule.l0 k2 l2 (l2.length : Int) (wrap64 (x32_2 + 1)) t264 t265 a1_0 a1_1 a1_2 (x259000_2 ++ y271) (x259001_2 ++ y277) (wrap64 (x259002_2 + t268))) else (none))) else (none)) = some (r1, r2, r3, r4) := by first | (rw [hy271]; with_reducible exact H) | (have H2_ := (Option.bind_some _ _).symm.trans H; rw [hy271]; with_reducible exact H2_) | (have H2_ := (Option.bind_some _ _).symm.trans H; with_reducible exact H2_) | with_reducible exact H | (rw [hy271]; exact H) | exact H
          have Ny271 := z6_A hy271
          clear hy271
          by_cases c52 : x259000_2.length + y271.length < 17592186044416
          ·rw [if_pos c52] at H
           have LMc52 := z6_A c52
           clear c52
           obtain ⟨y274, hy274⟩ : ∃ y_ : List Int, y_ = (x259000_2 ++ y271) := ⟨_, rfl⟩
           replace H : ((some (([t264] : List Int) : List Int)).bind fun y277 => (if x259001_2.length + y277.length < 17592186044416 then (impl_runRule.l0 k2 l2 (l2.length : Int) (wrap64 (x32_2 + 1)) t264 t265 a1_0 a1_1 a1_2 y274 (x259001_2 ++ y277) (wrap64 (x259002_2 + t268))) else (none))) = some (r1, r2, r3, r4) := by first | (rw [hy274]; with_reducible exact H) | (have H2_ := (Option.bind_some _ _).symm.trans H; rw [hy274]; with_reducible exact H2_) | (have H2_ := (Option.bind_some _ _).symm.trans H; with_reducible exact H2_) | with_reducible exact H | (rw [hy274]; exact H) | exact H
           have Ny274 := z6_A hy274
           clear hy274
           obtain ⟨y277, hy277⟩ : ∃ y_ : List Int, y_ = (([t264] : List Int)) := ⟨_, rfl⟩
           replace H : (if x259001_2.length + y277.length < 17592186044416 then (impl_runRule.l0 k2 l2 (l2.length : Int) (wrap64 (x32_2 + 1)) t264 t265 a1_0 a1_1 a1_2 y274 (x259001_2 ++ y277) (wrap64 (x259002_2 + t268))) else (none)) = some (r1, r2, r3, r4) := by first | (rw [hy277]; with_reducible exact H) | (have H2_ := (Option.bind_some _ _).symm.trans H; rw [hy277]; with_reducible exact H2_) | (have H2_ := (Option.bind_some _ _).symm.trans H; with_reducible exact H2_) | with_reducible exact H | (rw [hy277]; exact H) | exact H
           have Ny277 := z6_A hy277
           clear hy277
           by_cases c53 : x259001_2.length + y277.length < 17592186044416
           ·rw [if_pos c53] at H
            have LMc53 := z6_A c53
            clear c53
            obtain ⟨y280, hy280⟩ : ∃ y_ : List Int, y_ = (x259001_2 ++ y277) := ⟨_, rfl⟩
            replace H : (impl_runRule.l0 k2 l2 (l2.length : Int) (wrap64 (x32_2 + 1)) t264 t265 a1_0 a1_1 a1_2 y274 y280 (wrap64 (x259002_2 + t268))) = some (r1, r2, r3, r4) := by first | (rw [hy280]; with_reducible exact H) | (have H2_ := (Option.bind_some _ _).symm.trans H; rw [hy280]; with_reducible exact H2_) | (have H2_ := (Option.bind_some _ _).symm.trans H; with_reducible exact H2_) | with_reducible exact H | (rw [hy280]; exact H) | exact H
            have Ny280 := z6_A hy280
            clear hy280
            have H' := z6_A H
            clear H
            have p261 : 0 ≤ (x32_2 : Int) := of_decide_eq_true z6_47
            have q261 : x32_2 < (l2.length : Int) := of_decide_eq_true z6_47
            obtain ⟨ad261, e261, hx261_0⟩ := Kd.at_int HR2.out x32_2 p261 q261
            cases e261
            replace hx261_0 := (HB.out.cell (World.block_lt_of_cell? w _ hx261_0)).trans hx261_0
            replace p261 := eq_true p261
            replace q261 := eq_true q261
            try go_wp2
            have n0_ := z6_A (Kd.V_drew HO_256001.out)
            have n1_ := z6_A (Kd.R_drew HO_259000.out)
            have n2_ := z6_A (Kd.R_drew HO_259001.out)
            have n3_ := z6_A (blk_drew BK255.out)
            have n4_ := z6_A (blk_drew BK256.out)
            have n5_ := z6_A (blk_drew BK257.out)
            have n6_ := z6_A (blk_drew BK258.out)
            have n7_ := z6_A (below_drew1 HB.out)
            clear HO_256001
            clear HO_259000
            clear HO_259001
            clear BK255
            clear BK256
            clear BK257
            clear BK258
            clear HB
            have HO_256001 := n0_
            have HO_259000 := n1_
            have HO_259001 := n2_
            have BK255 := n3_
            have BK256 := n4_
            have BK257 := n5_
            have BK258 := n6_
            have HB := n7_
            clear n0_ n1_ n2_ n3_ n4_ n5_ n6_ n7_
            obtain ⟨Ao55, co55, eo55⟩ := Kd.V_slice HO_256001.out
            (first | subst eo55 | (injection eo55 with f1_ f2_ f3_; have f4_ := f1_.symm; have f5_ := f3_.symm; clear f1_ f2_ f3_; subst f4_; subst f5_))
            refine start_ (n := 9) (S := fun w' => w'.cell? ⟨gb256, 0, none⟩ = some (.int .i64 a1_0) ∧ w'.cell? ⟨gb256, 1, none⟩ = some (.int .i64 a1_1) ∧ w'.cell? ⟨gb256, 2, none⟩ = some (.int .i64 a1_2) ∧ w'.cell? ⟨gb255, 0, none⟩ = some (.int .i64 x256000_2) ∧ w'.cell? ⟨gb255, 1, none⟩ = some (.slice Ao55 x256001_2.length co55)) (ds := []) #[false, false, false, false, false, false, false, false, false] z6_19 rfl rfl ⟨(blk_cell BK256.out 0).trans rfl, (blk_cell BK256.out 1).trans rfl, (blk_cell BK256.out 2).trans rfl, (blk_cell BK255.out 0).trans rfl, (blk_cell BK255.out 1).trans rfl⟩ (fun hHeld => ?_); refine with_tabW impl_runRule.tab7 impl_runRule.bits7 (fun HT_ HW_ => ?_)
            generalize wr.drew = w54 at HO_256001 HO_259000 HO_259001 BK255 BK256 BK257 BK258 HB hHeld ⊢
            refine pure_ (i := 1) (N := some 37) (v := ?_) (a' := ?_) #[false, true, false, false, false, false, false, false, false] rfl rfl (any_of HT_.out z6_19) (fun _ _ _ h => h) (Or.inl ⟨z6_41, ?_⟩) ?_ ?_
            rotate_left
            ·intro w'
             go_simp
             with_reducible rfl
            rotate_left
            ·simp only [Act.put, List.setIfInBounds_toArray, List.set_cons_zero, List.set_cons_succ, i64_w, i32_w]
             rfl
            refine pure_ (i := 3) (N := some 39) (v := ?_) (a' := ?_) #[false, true, false, true, false, false, false, false, false] rfl rfl (any_of HT_.out z6_19) (fun _ _ _ h => h) (Or.inl ⟨z6_41, ?_⟩) ?_ ?_
            rotate_left
            ·intro w'
             go_simp
             with_reducible rfl
            rotate_left
            ·simp only [Act.put, List.setIfInBounds_toArray, List.set_cons_zero, List.set_cons_succ, i64_w, i32_w]
             rfl
            refine take_ (i := 0) (N := some 36) (v := ?_) (a' := ?_) #[true, true, false, true, false, false, false, false, false] rfl rfl (take_ofW HT_.out HW_.out z6_19) (fun _ _ _ h => h) (Or.inl ⟨z6_41, ?_⟩) hHeld ?_ ?_
            rotate_left
            ·rintro w' ⟨s0, s1, s2, s3, s4⟩
             go_simp
             with_reducible rfl
            rotate_left
            ·simp only [Act.put, List.setIfInBounds_toArray, List.set_cons_zero, List.set_cons_succ, i64_w, i32_w]
             rfl
            refine take_ (i := 2) (N := some 38) (v := ?_) (a' := ?_) #[true, true, true, true, false, false, false, false, false] rfl rfl (take_ofW HT_.out HW_.out z6_19) (fun _ _ _ h => h) (Or.inl ⟨z6_41, ?_⟩) hHeld ?_ ?_
            rotate_left
            ·rintro w' ⟨s0, s1, s2, s3, s4⟩
             go_simp
             with_reducible rfl
            rotate_left
            ·simp only [Act.put, List.setIfInBounds_toArray, List.set_cons_zero, List.set_cons_succ, i64_w, i32_w]
             rfl
            refine take_ (i := 4) (N := some 40) (v := ?_) (a' := ?_) #[true, true, true, true, true, false, false, false, false] rfl rfl (take_ofW HT_.out HW_.out z6_19) (fun _ _ _ h => h) (Or.inl ⟨z6_41, ?_⟩) hHeld ?_ ?_
            rotate_left
            ·rintro w' ⟨s0, s1, s2, s3, s4⟩
             go_simp
             with_reducible rfl
            rotate_left
            ·simp only [Act.put, List.setIfInBounds_toArray, List.set_cons_zero, List.set_cons_succ, i64_w, i32_w]
             rfl
            refine one_ (i := 5) (N := some 41) #[true, true, true, true, true, true, false, false, false] rfl rfl (one_of HT_.out z6_19) z6_27 (fun K hK => ?_)
            refine goes_ Try.func67 z6_19 rfl #[.slice Ao55 x256001_2.length co55] z6_41 rfl rfl z6_16 ?_
            with_reducible refine (impl_total.calls k2 _ _ x256001_2 t262 _ ?side1 ?side2 A48.out).mono ?_
            (case side1 => have zh := (Kd.V_reads' HO_256001.out).2.2; exact z6_C)
            (case side2 => exact (Kd.V_reads' HO_256001.out).2.1)
            rintro e w' ⟨rfl, ⟨nd, rfl⟩⟩
            refine ⟨_, rfl, ?_⟩
            refine hK.out _ _ ⟨(blk_cell BK256.out 0).trans rfl, (blk_cell BK256.out 1).trans rfl, (blk_cell BK256.out 2).trans rfl, (blk_cell BK255.out 0).trans rfl, (blk_cell BK255.out 1).trans rfl⟩ (fun hHeld => ?_)
            clear hK K
            refine norm_ (a' := ?_) ?_ ?_
            rotate_left
            ·show Act.put _ (some 41) _ = _
             simp only [Act.put, List.setIfInBounds_toArray, List.set_cons_zero, List.set_cons_succ, i64_w, i32_w]
             rfl
            refine pure_ (i := 6) (N := some 42) (v := ?_) (a' := ?_) #[true, true, true, true, true, true, true, false, false] rfl rfl (any_of HT_.out z6_19) (fun _ _ _ h => h) (Or.inl ⟨z6_41, ?_⟩) ?_ ?_
            rotate_left
            ·intro w'
             go_simp
             with_reducible rfl
            rotate_left
            ·simp only [Act.put, List.setIfInBounds_toArray, List.set_cons_zero, List.set_cons_succ, i64_w, i32_w]
             rfl
            refine one_ (i := 7) (N := some 43) #[true, true, true, true, true, true, true, true, false] rfl rfl (one_of HT_.out z6_19) z6_27 (fun K hK => ?_)
            refine goes_ Try.func95 z6_19 rfl #[.agg #[.int .i64 a1_0, .int .i64 a1_1, .int .i64 a1_2], .int .i64 (wrap64 (x256000_2 + t262))] z6_41 rfl rfl z6_16 ?_
            with_reducible refine (impl_Rule_order.calls k2 a1_0 a1_1 a1_2 (wrap64 (x256000_2 + t262)) t263 _ A49.out).mono ?_
            rintro e w56 ⟨rfl, hb⟩
            refine ⟨_, rfl, ?_⟩
            have n0_ := z6_A (Kd.V_below z6_17 hb)
            have n1_ := z6_A (Kd.R_below z6_9 hb)
            have n2_ := z6_A (Kd.R_below z6_7 hb)
            have n3_ := z6_A (blk_below (g := gb255) (o := .cells #[.int .i64 x256000_2, .slice Ao55 x256001_2.length co55] 30 (0, 0)) z6_3 hb)
            have n4_ := z6_A (blk_below (g := gb256) (o := .cells #[.int .i64 a1_0, .int .i64 a1_1, .int .i64 a1_2] 32 (0, 0)) z6_4 hb)
            have n5_ := z6_A (blk_below (g := gb257) (o := .cells #[.slice none 0 0, .slice none 0 0, .int .i64 x258002_2] 93 (0, 0)) z6_5 hb)
            have n6_ := z6_A (blk_below (g := gb258) (o := .cells #[u259000, u259001, .int .i64 x259002_2] 93 (0, 0)) z6_6 hb)
            have n7_ := z6_A (below_step z6_2 hb)
            clear HO_256001
            clear HO_259000
            clear HO_259001
            clear BK255
            clear BK256
            clear BK257
            clear BK258
            clear HB
            have HO_256001 := n0_
            have HO_259000 := n1_
            have HO_259001 := n2_
            have BK255 := n3_
            have BK256 := n4_
            have BK257 := n5_
            have BK258 := n6_
            have HB := n7_
            clear n0_ n1_ n2_ n3_ n4_ n5_ n6_ n7_
            (try clear hb)
            (try clear hb2)
            (try clear hk)
            (try clear hi)
            refine hK.out _ _ ⟨(blk_cell BK256.out 0).trans rfl, (blk_cell BK256.out 1).trans rfl, (blk_cell BK256.out 2).trans rfl, (blk_cell BK255.out 0).trans rfl, (blk_cell BK255.out 1).trans rfl⟩ (fun hHeld => ?_)
            clear hK K
            refine norm_ (a' := ?_) ?_ ?_
            rotate_left
            ·show Act.put _ (some 43) _ = _
             simp only [Act.put, List.setIfInBounds_toArray, List.set_cons_zero, List.set_cons_succ, i64_w, i32_w]
             rfl
            refine pure_ (i := 8) (N := some 11) (v := ?_) (a' := ?_) #[true, true, true, true, true, true, true, true, true] rfl rfl (any_of HT_.out z6_19) (fun _ _ _ h => h) (Or.inl ⟨z6_41, ?_⟩) ?_ ?_
            rotate_left
            ·intro w'
             go_simp
             with_reducible rfl
            rotate_left
            ·simp only [Act.put, List.setIfInBounds_toArray, List.set_cons_zero, List.set_cons_succ, i64_w, i32_w]
             rfl
            refine done_ (done_of HT_.out z6_19) ?_
            have hnb57 := NB255_256.out
            have hnc57 := NB256_255.out
            have hnb58 := NB255_257.out
            have hnc58 := NB257_255.out
            have hnb59 := NB255_258.out
            have hnc59 := NB258_255.out
            have hcz60_0 : w56.cell? ⟨gb255, 0, none⟩ = some (.int .i64 x256000_2) := (blk_cell BK255.out 0).trans rfl
            have hcz60_1 : w56.cell? ⟨gb255, 1, none⟩ = some (.slice Ao55 x256001_2.length co55) := (blk_cell BK255.out 1).trans rfl
            have hfz60_0 := blk_frozen BK255.out 0
            have hfz60_1 := blk_frozen BK255.out 1
            try go_wp2_with (first | ((with_reducible refine gate_callee (f := 76) rfl ?_); refine goesL_ (some 48) rfl rfl Try.func76 z6_19 rfl #[.agg #[.int .i64 x256000_2, .slice Ao55 x256001_2.length co55], .int .i64 t263, .int .i64 (rd l2 x32_2)] rfl z6_16 ?_; (with_reducible refine (impl_Flow_day.calls k2 x256000_2 _ _ x256001_2 t263 (rd l2 x32_2) t264 t265 t268 true _ ?side1 ?side2 A50.out).mono ?_); (case side1 => have zh := (Kd.V_reads' HO_256001.out).2.2; exact z6_C); (case side2 => exact (Kd.V_reads' HO_256001.out).2.1); rintro e w61 ⟨v266, rfl, ho0, hb⟩; refine ⟨_, rfl, ?_⟩; have n0_ := z6_A (Kd.V_elder' z6_17 (Kd.Q_base ho0) hb); have n1_ := z6_A (Kd.R_elder' z6_9 (Kd.Q_base ho0) hb); have n2_ := z6_A (Kd.R_elder' z6_7 (Kd.Q_base ho0) hb); have n3_ := z6_A (Kd.Q_lower (Kd.Q_new' (Kd.Q_new' (Kd.Q_newM (M := fun k_ => (w.heap.size ≤ k_)) ho0 (below_size z6_2) (fun k_ h_ => h_)) (Kd.R_lt z6_9)) (Kd.R_lt z6_7)) (below_size z6_2)); have n4_ := z6_A (blk_below (g := gb255) (o := .cells #[.int .i64 x256000_2, .slice Ao55 x256001_2.length co55] 30 (0, 0)) z6_3 hb); have n5_ := z6_A (blk_below (g := gb256) (o := .cells #[.int .i64 a1_0, .int .i64 a1_1, .int .i64 a1_2] 32 (0, 0)) z6_4 hb); have n6_ := z6_A (blk_below (g := gb257) (o := .cells #[.slice none 0 0, .slice none 0 0, .int .i64 x258002_2] 93 (0, 0)) z6_5 hb); have n7_ := z6_A (blk_below (g := gb258) (o := .cells #[u259000, u259001, .int .i64 x259002_2] 93 (0, 0)) z6_6 hb); have n8_ := z6_A (below_step z6_2 hb); clear HO_256001 HO_259000 HO_259001 BK255 BK256 BK257 BK258 HB; revert n0_ n1_ n2_ n3_ n4_ n5_ n6_ n7_ n8_; intro HO_256001 HO_259000 HO_259001 HO267 BK255 BK256 BK257 BK258 HB; (try clear hb); (try clear hb2); (try clear hk); (try clear hi); (try clear ho0)) | ((with_reducible refine gate_dst (N := 12) rfl ?_); (try (refine gate_guard z6_41 ?_; dsimp only)); refine box_event ?hg (N := 12) ?hd (cs := #[.int .i64 0, .slice none 0 0]) (t := 30) ?hr ?_; (case hd => rfl); (case hg => rfl); (case hr => first | (go_simp; done) | (go_simp; rfl)); intro gb270 hg w62 hbox hb; have n0_ := z6_A (Kd.V_below (Kd.V_elderB z6_17 gb270 (Nat.le_of_eq hg.symm)) hb); have n1_ := z6_A (Kd.R_below z6_9 hb); have n2_ := z6_A (Kd.R_below z6_7 hb); have n3_ := z6_A (Kd.Q_below z6_13 hb); have n4_ := z6_A (blk_below (g := gb255) (o := .cells #[.int .i64 x256000_2, .slice Ao55 x256001_2.length co55] 30 (0, 0)) z6_3 hb); have n5_ := z6_A (blk_below (g := gb256) (o := .cells #[.int .i64 a1_0, .int .i64 a1_1, .int .i64 a1_2] 32 (0, 0)) z6_4 hb); have n6_ := z6_A (blk_below (g := gb257) (o := .cells #[.slice none 0 0, .slice none 0 0, .int .i64 x258002_2] 93 (0, 0)) z6_5 hb); have n7_ := z6_A (blk_below (g := gb258) (o := .cells #[u259000, u259001, .int .i64 x259002_2] 93 (0, 0)) z6_6 hb); have n8_ := z6_A (below_step z6_2 hb); have n9_ := z6_A (hbox); have n10_ := z6_A ((z6_52 : w.heap.size ≤ gb270)); have n11_ := z6_A ((z6_52 : w.heap.size ≤ gb270)); have n12_ := z6_A ((by rw [hg]; exact Nat.ne_of_lt (blk_lt (g := gb255) (o := .cells #[.int .i64 x256000_2, .slice Ao55 x256001_2.length co55] 30 (0, 0)) z6_3) : gb255 ≠ gb270)); have n13_ := z6_A ((by rw [hg]; exact Nat.ne_of_gt (blk_lt (g := gb255) (o := .cells #[.int .i64 x256000_2, .slice Ao55 x256001_2.length co55] 30 (0, 0)) z6_3) : gb270 ≠ gb255)); have n14_ := z6_A ((z6_25 : gb256 ≠ gb270)); have n15_ := z6_A ((z6_26 : gb270 ≠ gb256)); have n16_ := z6_A ((z6_48 : gb257 ≠ gb270)); have n17_ := z6_A ((z6_49 : gb270 ≠ gb257)); have n18_ := z6_A ((z6_50 : gb258 ≠ gb270)); have n19_ := z6_A ((z6_51 : gb270 ≠ gb258)); clear HO_256001 HO_259000 HO_259001 HO267 BK255 BK256 BK257 BK258 HB; revert n0_ n1_ n2_ n3_ n4_ n5_ n6_ n7_ n8_ n9_ n10_ n11_ n12_ n13_ n14_ n15_ n16_ n17_ n18_ n19_; intro HO_256001 HO_259000 HO_259001 HO267 BK255 BK256 BK257 BK258 HB BK270 GW270 GE270 NB255_270 NB270_255 NB256_270 NB270_256 NB257_270 NB270_257 NB258_270 NB270_258; clear hb hbox hg; have hnb63 := NB270_255.out; have hnc63 := NB255_270.out; have hnb64 := NB270_256.out; have hnc64 := NB256_270.out; have hnb65 := NB270_257.out; have hnc65 := NB257_270.out; have hnb66 := NB270_258.out; have hnc66 := NB258_270.out; have hcz67_0 : w62.cell? ⟨gb270, 0, none⟩ = some (.int .i64 0) := (blk_cell BK270.out 0).trans rfl; have hcz67_1 : w62.cell? ⟨gb270, 1, none⟩ = some (.slice none 0 0) := (blk_cell BK270.out 1).trans rfl; have hfz67_0 := blk_frozen BK270.out 0; have hfz67_1 := blk_frozen BK270.out 1; obtain ⟨Ao68, co68, eo68, _⟩ := Kd.Q_slice HO267.out; subst eo68; have hcz69_0 : w62.cell? ⟨gb255, 0, none⟩ = some (.int .i64 x256000_2) := (blk_cell BK255.out 0).trans rfl; have hcz69_1 : w62.cell? ⟨gb255, 1, none⟩ = some (.slice Ao55 x256001_2.length co55) := (blk_cell BK255.out 1).trans rfl; have hfz69_0 := blk_frozen BK255.out 0; have hfz69_1 := blk_frozen BK255.out 1; obtain ⟨Ao70, co70, eo70⟩ := Kd.R_slice HO_259000.out; subst eo70; obtain ⟨Ao71, co71, eo71⟩ := Kd.R_slice HO_259001.out; subst eo71))
            have n0_ : Aside0 (Kd.V (Kd.int .i64) 3 ((((w62.setCell ⟨gb270, 0, none⟩ (.int .i64 t264)).setCell ⟨gb270, 1, none⟩ (.slice Ao68 t265.length co68)).setCell ⟨gb255, 0, none⟩ (.int .i64 t264)).setCell ⟨gb255, 1, none⟩ (.slice Ao68 t265.length co68)) w.heap.size (fun k_ => (P0_1_ k_ ∨ w.heap.size ≤ k_) ∧ z6_S k_ Ao70 x259000_2.length co70 ∧ z6_S k_ Ao71 x259001_2.length co71 ∧ z6_S k_ Ao68 t265.length co68 ∧ k_ ≠ gb255 ∧ k_ ≠ gb256 ∧ k_ ≠ gb257 ∧ k_ ≠ gb258 ∧ k_ ≠ gb270) (.slice Ao55 x256001_2.length co55) x256001_2) := ⟨by (with_reducible repeat (first | apply Kd.V_alloc | apply Kd.V_drewN | apply Kd.V_drew)); exact Kd.V_mono (Kd.V_far (p := ⟨gb255, 1, none⟩) (Kd.V_far (p := ⟨gb255, 0, none⟩) (Kd.V_far (p := ⟨gb270, 1, none⟩) (Kd.V_far (p := ⟨gb270, 0, none⟩) (Kd.V_mono (Kd.V_mono HO_256001.out (fun k_ hk => (⟨hk, hk.2⟩ : _ ∧ k_ ≠ gb270))) (fun k_ hk => (⟨hk, hk.1.1.1.2.2.2.1⟩ : _ ∧ k_ ≠ gb255))) (fun _ hk => hk.1.2) (.int .i64 t264)) (fun _ hk => hk.1.2) (.slice Ao68 t265.length co68)) (fun _ hk => hk.2) (.int .i64 t264)) (fun _ hk => hk.2) (.slice Ao68 t265.length co68)) (fun _ hk => ⟨hk.1.1.1.1.1, ⟨hk.1.1.1.1.2.1, ⟨hk.1.1.1.1.2.2.1, ⟨hk.1.1.1.2, ⟨hk.1.1.1.1.2.2.2.1, ⟨hk.1.1.1.1.2.2.2.2.1, ⟨hk.1.1.1.1.2.2.2.2.2.1, ⟨hk.1.1.1.1.2.2.2.2.2.2, hk.1.1.2⟩⟩⟩⟩⟩⟩⟩⟩)⟩
            have n1_ : Aside0 (Kd.R (Kd.int .i64) 3 ((((w62.setCell ⟨gb270, 0, none⟩ (.int .i64 t264)).setCell ⟨gb270, 1, none⟩ (.slice Ao68 t265.length co68)).setCell ⟨gb255, 0, none⟩ (.int .i64 t264)).setCell ⟨gb255, 1, none⟩ (.slice Ao68 t265.length co68)) w.heap.size (fun k_ => (w.heap.size ≤ k_) ∧ z6_S k_ Ao71 x259001_2.length co71 ∧ z6_S k_ Ao68 t265.length co68) (.slice Ao70 x259000_2.length co70) x259000_2) := ⟨by (with_reducible repeat (first | apply Kd.R_alloc | apply Kd.R_drewN | apply Kd.R_drew)); exact Kd.R_mono (Kd.R_far (p := ⟨gb255, 1, none⟩) (Kd.R_far (p := ⟨gb255, 0, none⟩) (Kd.R_far (p := ⟨gb270, 1, none⟩) (Kd.R_far (p := ⟨gb270, 0, none⟩) (Kd.R_types (Kd.R_types HO_259000.out BK270.out z6_27) BK255.out z6_27) (fun _ hk => hk.1.2) (.int .i64 t264)) (fun _ hk => hk.1.2) (.slice Ao68 t265.length co68)) (fun _ hk => hk.2) (.int .i64 t264)) (fun _ hk => hk.2) (.slice Ao68 t265.length co68)) (fun _ hk => ⟨hk.1.1.1.1, ⟨hk.1.1.1.2, hk.1.1.2⟩⟩)⟩
            have n2_ : Aside0 (Kd.R (Kd.int .i64) 3 ((((w62.setCell ⟨gb270, 0, none⟩ (.int .i64 t264)).setCell ⟨gb270, 1, none⟩ (.slice Ao68 t265.length co68)).setCell ⟨gb255, 0, none⟩ (.int .i64 t264)).setCell ⟨gb255, 1, none⟩ (.slice Ao68 t265.length co68)) w.heap.size (fun k_ => (w.heap.size ≤ k_) ∧ z6_S k_ Ao70 x259000_2.length co70 ∧ z6_S k_ Ao68 t265.length co68) (.slice Ao71 x259001_2.length co71) x259001_2) := ⟨by (with_reducible repeat (first | apply Kd.R_alloc | apply Kd.R_drewN | apply Kd.R_drew)); exact Kd.R_mono (Kd.R_far (p := ⟨gb255, 1, none⟩) (Kd.R_far (p := ⟨gb255, 0, none⟩) (Kd.R_far (p := ⟨gb270, 1, none⟩) (Kd.R_far (p := ⟨gb270, 0, none⟩) (Kd.R_types (Kd.R_types HO_259001.out BK270.out z6_27) BK255.out z6_27) (fun _ hk => hk.1.2) (.int .i64 t264)) (fun _ hk => hk.1.2) (.slice Ao68 t265.length co68)) (fun _ hk => hk.2) (.int .i64 t264)) (fun _ hk => hk.2) (.slice Ao68 t265.length co68)) (fun _ hk => ⟨hk.1.1.1.1, ⟨hk.1.1.1.2, hk.1.1.2⟩⟩)⟩
            have n3_ : Aside0 (Kd.Q (Kd.int .i64) 3 ((((w62.setCell ⟨gb270, 0, none⟩ (.int .i64 t264)).setCell ⟨gb270, 1, none⟩ (.slice Ao68 t265.length co68)).setCell ⟨gb255, 0, none⟩ (.int .i64 t264)).setCell ⟨gb255, 1, none⟩ (.slice Ao68 t265.length co68)) w.heap.size (fun k_ => (w.heap.size ≤ k_) ∧ z6_S k_ Ao70 x259000_2.length co70 ∧ z6_S k_ Ao71 x259001_2.length co71) (.slice Ao68 t265.length co68) t265) := ⟨by (with_reducible repeat (first | apply Kd.Q_alloc | apply Kd.Q_drewN | apply Kd.Q_drew)); exact Kd.Q_mono (Kd.Q_far (p := ⟨gb255, 1, none⟩) (Kd.Q_far (p := ⟨gb255, 0, none⟩) (Kd.Q_far (p := ⟨gb270, 1, none⟩) (Kd.Q_far (p := ⟨gb270, 0, none⟩) (Kd.Q_types (Kd.Q_types HO267.out BK270.out z6_27) BK255.out z6_27) (fun _ hk => hk.1.2) (.int .i64 t264)) (fun _ hk => hk.1.2) (.slice Ao68 t265.length co68)) (fun _ hk => hk.2) (.int .i64 t264)) (fun _ hk => hk.2) (.slice Ao68 t265.length co68)) (fun _ hk => ⟨hk.1.1.1.1.1, ⟨hk.1.1.1.2, hk.1.1.2⟩⟩)⟩
            have n4_ : Aside0 (((((w62.setCell ⟨gb270, 0, none⟩ (.int .i64 t264)).setCell ⟨gb270, 1, none⟩ (.slice Ao68 t265.length co68)).setCell ⟨gb255, 0, none⟩ (.int .i64 t264)).setCell ⟨gb255, 1, none⟩ (.slice Ao68 t265.length co68)).heap[gb255]? = some (.cells #[.int .i64 t264, .slice Ao68 t265.length co68] 30 (0, 0))) := ⟨by (with_reducible repeat (first | refine blk_drewN ?_ _ | refine blk_drew ?_ | refine blk_alloc ?_ _)); refine blk_put (cs := #[.int .i64 t264, .slice Ao55 x256001_2.length co55]) ?_ 1 _ rfl; (with_reducible repeat (first | refine blk_drewN ?_ _ | refine blk_drew ?_ | refine blk_alloc ?_ _)); refine blk_put (cs := #[.int .i64 x256000_2, .slice Ao55 x256001_2.length co55]) ?_ 0 _ rfl; (with_reducible repeat (first | refine blk_drewN ?_ _ | refine blk_drew ?_ | refine blk_alloc ?_ _)); refine blk_far ?_ NB255_270.out _; (with_reducible repeat (first | refine blk_drewN ?_ _ | refine blk_drew ?_ | refine blk_alloc ?_ _)); refine blk_far ?_ NB255_270.out _; (with_reducible repeat (first | refine blk_drewN ?_ _ | refine blk_drew ?_ | refine blk_alloc ?_ _)); exact BK255.out⟩
            have n5_ : Aside0 (((((w62.setCell ⟨gb270, 0, none⟩ (.int .i64 t264)).setCell ⟨gb270, 1, none⟩ (.slice Ao68 t265.length co68)).setCell ⟨gb255, 0, none⟩ (.int .i64 t264)).setCell ⟨gb255, 1, none⟩ (.slice Ao68 t265.length co68)).heap[gb256]? = some (.cells #[.int .i64 a1_0, .int .i64 a1_1, .int .i64 a1_2] 32 (0, 0))) := ⟨by (with_reducible repeat (first | refine blk_drewN ?_ _ | refine blk_drew ?_ | refine blk_alloc ?_ _)); refine blk_far ?_ NB256_255.out _; (with_reducible repeat (first | refine blk_drewN ?_ _ | refine blk_drew ?_ | refine blk_alloc ?_ _)); refine blk_far ?_ NB256_255.out _; (with_reducible repeat (first | refine blk_drewN ?_ _ | refine blk_drew ?_ | refine blk_alloc ?_ _)); refine blk_far ?_ NB256_270.out _; (with_reducible repeat (first | refine blk_drewN ?_ _ | refine blk_drew ?_ | refine blk_alloc ?_ _)); refine blk_far ?_ NB256_270.out _; (with_reducible repeat (first | refine blk_drewN ?_ _ | refine blk_drew ?_ | refine blk_alloc ?_ _)); exact BK256.out⟩
            have n6_ : Aside0 (((((w62.setCell ⟨gb270, 0, none⟩ (.int .i64 t264)).setCell ⟨gb270, 1, none⟩ (.slice Ao68 t265.length co68)).setCell ⟨gb255, 0, none⟩ (.int .i64 t264)).setCell ⟨gb255, 1, none⟩ (.slice Ao68 t265.length co68)).heap[gb257]? = some (.cells #[.slice none 0 0, .slice none 0 0, .int .i64 x258002_2] 93 (0, 0))) := ⟨by (with_reducible repeat (first | refine blk_drewN ?_ _ | refine blk_drew ?_ | refine blk_alloc ?_ _)); refine blk_far ?_ NB257_255.out _; (with_reducible repeat (first | refine blk_drewN ?_ _ | refine blk_drew ?_ | refine blk_alloc ?_ _)); refine blk_far ?_ NB257_255.out _; (with_reducible repeat (first | refine blk_drewN ?_ _ | refine blk_drew ?_ | refine blk_alloc ?_ _)); refine blk_far ?_ NB257_270.out _; (with_reducible repeat (first | refine blk_drewN ?_ _ | refine blk_drew ?_ | refine blk_alloc ?_ _)); refine blk_far ?_ NB257_270.out _; (with_reducible repeat (first | refine blk_drewN ?_ _ | refine blk_drew ?_ | refine blk_alloc ?_ _)); exact BK257.out⟩
            have n7_ : Aside0 (((((w62.setCell ⟨gb270, 0, none⟩ (.int .i64 t264)).setCell ⟨gb270, 1, none⟩ (.slice Ao68 t265.length co68)).setCell ⟨gb255, 0, none⟩ (.int .i64 t264)).setCell ⟨gb255, 1, none⟩ (.slice Ao68 t265.length co68)).heap[gb258]? = some (.cells #[.slice Ao70 x259000_2.length co70, .slice Ao71 x259001_2.length co71, .int .i64 x259002_2] 93 (0, 0))) := ⟨by (with_reducible repeat (first | refine blk_drewN ?_ _ | refine blk_drew ?_ | refine blk_alloc ?_ _)); refine blk_far ?_ NB258_255.out _; (with_reducible repeat (first | refine blk_drewN ?_ _ | refine blk_drew ?_ | refine blk_alloc ?_ _)); refine blk_far ?_ NB258_255.out _; (with_reducible repeat (first | refine blk_drewN ?_ _ | refine blk_drew ?_ | refine blk_alloc ?_ _)); refine blk_far ?_ NB258_270.out _; (with_reducible repeat (first | refine blk_drewN ?_ _ | refine blk_drew ?_ | refine blk_alloc ?_ _)); refine blk_far ?_ NB258_270.out _; (with_reducible repeat (first | refine blk_drewN ?_ _ | refine blk_drew ?_ | refine blk_alloc ?_ _)); exact BK258.out⟩
            have n8_ : Aside0 (((((w62.setCell ⟨gb270, 0, none⟩ (.int .i64 t264)).setCell ⟨gb270, 1, none⟩ (.slice Ao68 t265.length co68)).setCell ⟨gb255, 0, none⟩ (.int .i64 t264)).setCell ⟨gb255, 1, none⟩ (.slice Ao68 t265.length co68)).heap[gb270]? = some (.cells #[.int .i64 t264, .slice Ao68 t265.length co68] 30 (0, 0))) := ⟨by (with_reducible repeat (first | refine blk_drewN ?_ _ | refine blk_drew ?_ | refine blk_alloc ?_ _)); refine blk_far ?_ NB270_255.out _; (with_reducible repeat (first | refine blk_drewN ?_ _ | refine blk_drew ?_ | refine blk_alloc ?_ _)); refine blk_far ?_ NB270_255.out _; (with_reducible repeat (first | refine blk_drewN ?_ _ | refine blk_drew ?_ | refine blk_alloc ?_ _)); refine blk_put (cs := #[.int .i64 t264, .slice none 0 0]) ?_ 1 _ rfl; (with_reducible repeat (first | refine blk_drewN ?_ _ | refine blk_drew ?_ | refine blk_alloc ?_ _)); refine blk_put (cs := #[.int .i64 0, .slice none 0 0]) ?_ 0 _ rfl; (with_reducible repeat (first | refine blk_drewN ?_ _ | refine blk_drew ?_ | refine blk_alloc ?_ _)); exact BK270.out⟩
            have n9_ : Aside0 (Below w.heap.size w ((((w62.setCell ⟨gb270, 0, none⟩ (.int .i64 t264)).setCell ⟨gb270, 1, none⟩ (.slice Ao68 t265.length co68)).setCell ⟨gb255, 0, none⟩ (.int .i64 t264)).setCell ⟨gb255, 1, none⟩ (.slice Ao68 t265.length co68))) := ⟨z6_1⟩
            (try clear HO_256001)
            (try clear HO_259000)
            (try clear HO_259001)
            (try clear HO267)
            (try clear BK255)
            (try clear BK256)
            (try clear BK257)
            (try clear BK258)
            (try clear BK270)
            (try clear HB)
            generalize ((((w62.setCell ⟨gb270, 0, none⟩ (.int .i64 t264)).setCell ⟨gb270, 1, none⟩ (.slice Ao68 t265.length co68)).setCell ⟨gb255, 0, none⟩ (.int .i64 t264)).setCell ⟨gb255, 1, none⟩ (.slice Ao68 t265.length co68)) = w72 at n0_ n1_ n2_ n3_ n4_ n5_ n6_ n7_ n8_ n9_ ⊢
            have HO_256001 := n0_
            have HO_259000 := n1_
            have HO_259001 := n2_
            have HO267 := n3_
            have BK255 := n4_
            have BK256 := n5_
            have BK257 := n6_
            have BK258 := n7_
            have BK270 := n8_
            have HB := n9_
            clear n0_ n1_ n2_ n3_ n4_ n5_ n6_ n7_ n8_ n9_
            have n0_ := z6_A (Kd.V_drew HO_256001.out)
            have n1_ := z6_A (Kd.R_drew HO_259000.out)
            have n2_ := z6_A (Kd.R_drew HO_259001.out)
            have n3_ := z6_A (Kd.Q_drew HO267.out)
            have n4_ := z6_A (blk_drew BK255.out)
            have n5_ := z6_A (blk_drew BK256.out)
            have n6_ := z6_A (blk_drew BK257.out)
            have n7_ := z6_A (blk_drew BK258.out)
            have n8_ := z6_A (blk_drew BK270.out)
            have n9_ := z6_A (below_drew1 HB.out)
            clear HO_256001
            clear HO_259000
            clear HO_259001
            clear HO267
            clear BK255
            clear BK256
            clear BK257
            clear BK258
            clear BK270
            clear HB
            have HO_256001 := n0_
            have HO_259000 := n1_
            have HO_259001 := n2_
            have HO267 := n3_
            have BK255 := n4_
            have BK256 := n5_
            have BK257 := n6_
            have BK258 := n7_
            have BK270 := n8_
            have HB := n9_
            clear n0_ n1_ n2_ n3_ n4_ n5_ n6_ n7_ n8_ n9_
            refine start_ (n := 21) (S := fun w' => w'.cell? ⟨gb258, 0, none⟩ = some (.slice Ao70 x259000_2.length co70) ∧ w'.cell? ⟨gb258, 1, none⟩ = some (.slice Ao71 x259001_2.length co71) ∧ w'.cell? ⟨gb258, 2, none⟩ = some (.int .i64 x259002_2) ∧ w'.cell? ⟨gb270, 0, none⟩ = some (.int .i64 t264) ∧ w'.cell? ⟨gb270, 1, none⟩ = some (.slice Ao68 t265.length co68)) (ds := [16, 18, 20]) #[false, false, false, false, false, false, false, false, false, false, false, false, false, false, false, false, false, false, false, false, false] z6_19 rfl rfl ⟨(blk_cell BK258.out 0).trans rfl, (blk_cell BK258.out 1).trans rfl, (blk_cell BK258.out 2).trans rfl, (blk_cell BK270.out 0).trans rfl, (blk_cell BK270.out 1).trans rfl⟩ (fun hHeld => ?_); refine with_tabW impl_runRule.tab12 impl_runRule.bits12 (fun HT_ HW_ => ?_)
            generalize w72.drew = w73 at HO_256001 HO_259000 HO_259001 HO267 BK255 BK256 BK257 BK258 BK270 HB hHeld ⊢
            refine pure_ (i := 0) (N := some 56) (v := ?_) (a' := ?_) #[true, false, false, false, false, false, false, false, false, false, false, false, false, false, false, false, false, false, false, false, false] rfl rfl (any_of HT_.out z6_19) (fun _ _ _ h => h) (Or.inl ⟨z6_41, ?_⟩) ?_ ?_
            rotate_left
            ·intro w'
             go_simp
             with_reducible rfl
            rotate_left
            ·simp only [Act.put, List.setIfInBounds_toArray, List.set_cons_zero, List.set_cons_succ, i64_w, i32_w]
             rfl
            refine pure_ (i := 2) (N := some 58) (v := ?_) (a' := ?_) #[true, false, true, false, false, false, false, false, false, false, false, false, false, false, false, false, false, false, false, false, false] rfl rfl (any_of HT_.out z6_19) (fun _ _ _ h => h) (Or.inl ⟨z6_41, ?_⟩) ?_ ?_
            rotate_left
            ·intro w'
             go_simp
             with_reducible rfl
            rotate_left
            ·simp only [Act.put, List.setIfInBounds_toArray, List.set_cons_zero, List.set_cons_succ, i64_w, i32_w]
             rfl
            refine pure_ (i := 5) (N := some 61) (v := ?_) (a' := ?_) #[true, false, true, false, false, true, false, false, false, false, false, false, false, false, false, false, false, false, false, false, false] rfl rfl (any_of HT_.out z6_19) (fun _ _ _ h => h) (Or.inl ⟨z6_41, ?_⟩) ?_ ?_
            rotate_left
            ·intro w'
             go_simp
             with_reducible rfl
            rotate_left
            ·simp only [Act.put, List.setIfInBounds_toArray, List.set_cons_zero, List.set_cons_succ, i64_w, i32_w]
             rfl
            refine pure_ (i := 7) (N := some 63) (v := ?_) (a' := ?_) #[true, false, true, false, false, true, false, true, false, false, false, false, false, false, false, false, false, false, false, false, false] rfl rfl (any_of HT_.out z6_19) (fun _ _ _ h => h) (Or.inl ⟨z6_41, ?_⟩) ?_ ?_
            rotate_left
            ·intro w'
             go_simp
             with_reducible rfl
            rotate_left
            ·simp only [Act.put, List.setIfInBounds_toArray, List.set_cons_zero, List.set_cons_succ, i64_w, i32_w]
             rfl
            refine pure_ (i := 11) (N := some 67) (v := ?_) (a' := ?_) #[true, false, true, false, false, true, false, true, false, false, false, true, false, false, false, false, false, false, false, false, false] rfl rfl (any_of HT_.out z6_19) (fun _ _ _ h => h) (Or.inl ⟨z6_41, ?_⟩) ?_ ?_
            rotate_left
            ·intro w'
             go_simp
             with_reducible rfl
            rotate_left
            ·simp only [Act.put, List.setIfInBounds_toArray, List.set_cons_zero, List.set_cons_succ, i64_w, i32_w]
             rfl
            refine pure_ (i := 13) (N := some 69) (v := ?_) (a' := ?_) #[true, false, true, false, false, true, false, true, false, false, false, true, false, true, false, false, false, false, false, false, false] rfl rfl (any_of HT_.out z6_19) (fun _ _ _ h => h) (Or.inl ⟨z6_41, ?_⟩) ?_ ?_
            rotate_left
            ·intro w'
             go_simp
             with_reducible rfl
            rotate_left
            ·simp only [Act.put, List.setIfInBounds_toArray, List.set_cons_zero, List.set_cons_succ, i64_w, i32_w]
             rfl
            refine take_ (i := 1) (N := some 57) (v := ?_) (a' := ?_) #[true, true, true, false, false, true, false, true, false, false, false, true, false, true, false, false, false, false, false, false, false] rfl rfl (take_ofW HT_.out HW_.out z6_19) (fun _ _ _ h => h) (Or.inl ⟨z6_41, ?_⟩) hHeld ?_ ?_
            rotate_left
            ·rintro w' ⟨s0, s1, s2, s3, s4⟩
             go_simp
             with_reducible rfl
            rotate_left
            ·simp only [Act.put, List.setIfInBounds_toArray, List.set_cons_zero, List.set_cons_succ, i64_w, i32_w]
             rfl
            refine take_ (i := 6) (N := some 62) (v := ?_) (a' := ?_) #[true, true, true, false, false, true, true, true, false, false, false, true, false, true, false, false, false, false, false, false, false] rfl rfl (take_ofW HT_.out HW_.out z6_19) (fun _ _ _ h => h) (Or.inl ⟨z6_41, ?_⟩) hHeld ?_ ?_
            rotate_left
            ·rintro w' ⟨s0, s1, s2, s3, s4⟩
             go_simp
             with_reducible rfl
            rotate_left
            ·simp only [Act.put, List.setIfInBounds_toArray, List.set_cons_zero, List.set_cons_succ, i64_w, i32_w]
             rfl
            refine take_ (i := 8) (N := some 64) (v := ?_) (a' := ?_) #[true, true, true, false, false, true, true, true, true, false, false, true, false, true, false, false, false, false, false, false, false] rfl rfl (take_ofW HT_.out HW_.out z6_19) (fun _ _ _ h => h) (Or.inl ⟨z6_41, ?_⟩) hHeld ?_ ?_
            rotate_left
            ·rintro w' ⟨s0, s1, s2, s3, s4⟩
             go_simp
             with_reducible rfl
            rotate_left
            ·simp only [Act.put, List.setIfInBounds_toArray, List.set_cons_zero, List.set_cons_succ, i64_w, i32_w]
             rfl
            refine take_ (i := 12) (N := some 68) (v := ?_) (a' := ?_) #[true, true, true, false, false, true, true, true, true, false, false, true, true, true, false, false, false, false, false, false, false] rfl rfl (take_ofW HT_.out HW_.out z6_19) (fun _ _ _ h => h) (Or.inl ⟨z6_41, ?_⟩) hHeld ?_ ?_
            rotate_left
            ·rintro w' ⟨s0, s1, s2, s3, s4⟩
             go_simp
             with_reducible rfl
            rotate_left
            ·simp only [Act.put, List.setIfInBounds_toArray, List.set_cons_zero, List.set_cons_succ, i64_w, i32_w]
             rfl
            refine pure_ (i := 14) (N := some 70) (v := ?_) (a' := ?_) #[true, true, true, false, false, true, true, true, true, false, false, true, true, true, true, false, false, false, false, false, false] rfl rfl (any_of HT_.out z6_19) (fun _ _ _ h => h) (Or.inl ⟨z6_41, ?_⟩) ?_ ?_
            rotate_left
            ·intro w'
             go_simp
             with_reducible rfl
            rotate_left
            ·simp only [Act.put, List.setIfInBounds_toArray, List.set_cons_zero, List.set_cons_succ, i64_w, i32_w]
             rfl
            refine join_ (σ := Value × Value × Value) 6 #[true, true, true, true, true, true, true, true, true, true, false, true, true, true, true, true, false, false, false, false, false] (fun s_ => [(59, s_.1), (60, s_.2.1), (65, s_.2.2), (71, .pointer (some ⟨gb258, 0, none⟩))]) (fun s_ w' => (w'.cell? ⟨gb258, 0, none⟩ = some (.slice Ao70 x259000_2.length co70) ∧ w'.cell? ⟨gb258, 1, none⟩ = some (.slice Ao71 x259001_2.length co71) ∧ w'.cell? ⟨gb258, 2, none⟩ = some (.int .i64 x259002_2) ∧ w'.cell? ⟨gb270, 0, none⟩ = some (.int .i64 t264) ∧ w'.cell? ⟨gb270, 1, none⟩ = some (.slice Ao68 t265.length co68)) ∧ (Kd.Q (Kd.int .i64) 3 w' w.heap.size (fun k_ => (w.heap.size ≤ k_) ∧ some k_ ≠ (s_.1 : Value).ownBlock ∧ some k_ ≠ (s_.2.1 : Value).ownBlock ∧ some k_ ≠ (s_.2.2 : Value).ownBlock ∧ z6_S k_ Ao71 x259001_2.length co71) (.slice Ao68 t265.length co68) t265) ∧ (Kd.R (Kd.int .i64) 3 w' w.heap.size (fun k_ => (w.heap.size ≤ k_) ∧ z6_S k_ Ao68 t265.length co68 ∧ some k_ ≠ (s_.2.1 : Value).ownBlock ∧ some k_ ≠ (s_.2.2 : Value).ownBlock ∧ z6_S k_ Ao71 x259001_2.length co71) s_.1 y271) ∧ (Kd.R (Kd.int .i64) 3 w' w.heap.size (fun k_ => (w.heap.size ≤ k_) ∧ z6_S k_ Ao68 t265.length co68 ∧ some k_ ≠ (s_.1 : Value).ownBlock ∧ some k_ ≠ (s_.2.2 : Value).ownBlock ∧ z6_S k_ Ao71 x259001_2.length co71) s_.2.1 y274) ∧ (Kd.R (Kd.int .i64) 3 w' w.heap.size (fun k_ => (w.heap.size ≤ k_) ∧ z6_S k_ Ao68 t265.length co68 ∧ some k_ ≠ (s_.1 : Value).ownBlock ∧ some k_ ≠ (s_.2.1 : Value).ownBlock ∧ z6_S k_ Ao71 x259001_2.length co71) s_.2.2 y277) ∧ (Kd.V (Kd.int .i64) 3 w' w.heap.size (fun k_ => (P0_1_ k_ ∨ w.heap.size ≤ k_) ∧ z6_S k_ Ao68 t265.length co68 ∧ some k_ ≠ (s_.1 : Value).ownBlock ∧ some k_ ≠ (s_.2.1 : Value).ownBlock ∧ some k_ ≠ (s_.2.2 : Value).ownBlock ∧ z6_S k_ Ao71 x259001_2.length co71 ∧ k_ ≠ gb255 ∧ k_ ≠ gb256 ∧ k_ ≠ gb257 ∧ k_ ≠ gb258 ∧ k_ ≠ gb270) (.slice Ao55 x256001_2.length co55) x256001_2) ∧ (Kd.R (Kd.int .i64) 3 w' w.heap.size (fun k_ => (w.heap.size ≤ k_) ∧ z6_S k_ Ao68 t265.length co68 ∧ some k_ ≠ (s_.1 : Value).ownBlock ∧ some k_ ≠ (s_.2.1 : Value).ownBlock ∧ some k_ ≠ (s_.2.2 : Value).ownBlock) (.slice Ao71 x259001_2.length co71) x259001_2) ∧ (w'.heap[gb255]? = some (.cells #[.int .i64 t264, .slice Ao68 t265.length co68] 30 (0, 0))) ∧ (w'.heap[gb256]? = some (.cells #[.int .i64 a1_0, .int .i64 a1_1, .int .i64 a1_2] 32 (0, 0))) ∧ (w'.heap[gb257]? = some (.cells #[.slice none 0 0, .slice none 0 0, .int .i64 x258002_2] 93 (0, 0))) ∧ (w'.heap[gb258]? = some (.cells #[.slice Ao70 x259000_2.length co70, .slice Ao71 x259001_2.length co71, .int .i64 x259002_2] 93 (0, 0))) ∧ (w'.heap[gb270]? = some (.cells #[.int .i64 t264, .slice Ao68 t265.length co68] 30 (0, 0))) ∧ (Below w.heap.size w w')) ?_ ?_
            rotate_left
            ·intro hCont
             refine two_ (i := 3) (j := 9) (Ni := some 59) (Nj := some 65) #[true, true, true, true, false, true, true, true, true, false, false, true, true, true, true, false, false, false, false, false, false] #[true, true, true, false, false, true, true, true, true, true, false, true, true, true, true, false, false, false, false, false, false] rfl rfl rfl rfl (two_of HT_.out z6_19) z6_27 z6_27 (fun K hK => ?_) (fun K hK => ?_)
             ·skip
              refine Kd.R_lit_step (Kd.int .i64) _ 3 ?hg (N := 59) ?hd (xs := ([t263] : List Int)) (inner := [.int .i64 t263]) (ok := fun _ => True) (okp := fun _ => True) ?hr ?hp (fun _ hk => hk) trivial (Below.refl _ _) (Nat.le_refl _) (by simp) ?_; (case hd => rfl); (case hg => rfl); (case hr => first | (go_simp; done) | (go_simp; rfl)); (case hp => exact (Reps.one (show Kd.M (Kd.int .i64) _ _ _ t263 [.int .i64 t263] from rfl) (Reps.none _ _)))
              intro v272 w74 ho75 hb hg_ hnew_
              clear hg_ hnew_
              (first | rw [← Ny271.out] at ho75 | (simp only [Int.reduceToNat] at ho75; rw [← Ny271.out] at ho75))
              have n0_ := z6_A (Kd.V_elder' z6_17 (Kd.R_base ho75) hb)
              have n1_ := z6_A (Kd.R_elder' z6_9 (Kd.R_base ho75) hb)
              have n2_ := z6_A (Kd.R_elder' z6_7 (Kd.R_base ho75) hb)
              have n3_ := z6_A (Kd.Q_elder' z6_13 (Kd.R_base ho75) hb)
              have n4_ := z6_A (Kd.R_lower (Kd.R_new' (Kd.R_new' (Kd.R_new' (Kd.R_newM (M := fun k_ => (w.heap.size ≤ k_)) ho75 (below_size z6_1) (fun k_ h_ => h_)) (Kd.R_lt z6_9)) (Kd.R_lt z6_7)) (Kd.Q_lt z6_13)) (below_size z6_1))
              have n5_ := z6_A (blk_below (g := gb255) (o := .cells #[.int .i64 t264, .slice Ao68 t265.length co68] 30 (0, 0)) z6_3 hb)
              have n6_ := z6_A (blk_below (g := gb256) (o := .cells #[.int .i64 a1_0, .int .i64 a1_1, .int .i64 a1_2] 32 (0, 0)) z6_4 hb)
              have n7_ := z6_A (blk_below (g := gb257) (o := .cells #[.slice none 0 0, .slice none 0 0, .int .i64 x258002_2] 93 (0, 0)) z6_5 hb)
              have n8_ := z6_A (blk_below (g := gb258) (o := .cells #[.slice Ao70 x259000_2.length co70, .slice Ao71 x259001_2.length co71, .int .i64 x259002_2] 93 (0, 0)) z6_6 hb)
              have n9_ := z6_A (blk_below (g := gb270) (o := .cells #[.int .i64 t264, .slice Ao68 t265.length co68] 30 (0, 0)) z6_15 hb)
              have n10_ := z6_A (below_step z6_1 hb)
              clear HO_256001
              clear HO_259000
              clear HO_259001
              clear HO267
              clear BK255
              clear BK256
              clear BK257
              clear BK258
              clear BK270
              clear HB
              have HO_256001 := n0_
              have HO_259000 := n1_
              have HO_259001 := n2_
              have HO267 := n3_
              have HO273 := n4_
              have BK255 := n5_
              have BK256 := n6_
              have BK257 := n7_
              have BK258 := n8_
              have BK270 := n9_
              have HB := n10_
              clear n0_ n1_ n2_ n3_ n4_ n5_ n6_ n7_ n8_ n9_ n10_
              clear hb ho75
              obtain ⟨Ao77, co77, eo77⟩ := Kd.R_slice HO273.out
              (first | subst eo77 | (injection eo77 with f1_ f2_ f3_; have f4_ := f1_.symm; have f5_ := f3_.symm; clear f1_ f2_ f3_; subst f4_; subst f5_))
              refine hK.out _ _ ⟨(blk_cell BK258.out 0).trans rfl, (blk_cell BK258.out 1).trans rfl, (blk_cell BK258.out 2).trans rfl, (blk_cell BK270.out 0).trans rfl, (blk_cell BK270.out 1).trans rfl⟩ (fun hHeld => ?_)
              clear hK K
              refine norm_ (a' := ?_) ?_ ?_
              rotate_left
              ·show Act.put _ (some 59) _ = _
               simp only [Act.put, List.setIfInBounds_toArray, List.set_cons_zero, List.set_cons_succ, i64_w, i32_w]
               rfl
              refine two_ (i := 4) (j := 9) (Ni := some 60) (Nj := some 65) #[true, true, true, true, true, true, true, true, true, false, false, true, true, true, true, false, false, false, false, false, false] #[true, true, true, true, false, true, true, true, true, true, false, true, true, true, true, false, false, false, false, false, false] rfl rfl rfl rfl (two_of HT_.out z6_19) z6_27 z6_27 (fun K hK => ?_) (fun K hK => ?_)
              ·skip
               refine Kd.R_append_rows_step (Kd.int .i64) (w0 := w) w.heap.size z6_41 (.tmp 57) (.tmp 59) 22 3 (.int .i64 0) 8 rfl Try.underlying22 info3 rfl z6_27 (by omega) (.slice Ao70 x259000_2.length co70) x259000_2 y271 _ _ _ (fun k_ => (w.heap.size ≤ k_) ∧ z6_S k_ Ao71 x259001_2.length co71 ∧ z6_S k_ Ao68 t265.length co68 ∧ z6_S k_ Ao77 y271.length co77) (fun _ => False) rfl rfl ?aO ?aR (fun _ _ h => h) (fun _ h => h.elim) ?aF ?aB ?aS ?aL ?_
               (case aR => have zh := (Kd.R_reads' HO273.out).2.2; exact z6_C)
               (case aB => exact z6_1)
               (case aF => exact (fun k_ hk => ⟨(Nat.le_trans (below_size z6_1) hk), Kd.fresh' (Kd.R_lt z6_7) k_ hk, Kd.fresh' (Kd.Q_lt z6_13) k_ hk, Kd.fresh' (Kd.R_lt z6_18) k_ hk⟩))
               (case aO => exact (by (with_reducible repeat (first | apply Kd.R_alloc | apply Kd.R_drewN | apply Kd.R_drew)); exact Kd.R_mono HO_259000.out (fun _ hk => ⟨hk.1.1, ⟨hk.1.2.1, ⟨hk.1.2.2, hk.2⟩⟩⟩)))
               (case aS => exact (below_size z6_1))
               (case aL => have := LMc52.out; omega)
               intro v275 w76 ho hb hg hat
               rw [← Ny274.out] at ho
               have n0_ := z6_A (Kd.V_afterv (ok := (fun k_ => (P0_1_ k_ ∨ w.heap.size ≤ k_) ∧ z6_S k_ Ao71 x259001_2.length co71 ∧ z6_S k_ Ao68 t265.length co68 ∧ z6_S k_ Ao77 y271.length co77 ∧ k_ ≠ gb255 ∧ k_ ≠ gb256 ∧ k_ ≠ gb257 ∧ k_ ≠ gb258 ∧ k_ ≠ gb270)) (by (with_reducible repeat (first | apply Kd.V_alloc | apply Kd.V_drewN | apply Kd.V_drew)); exact Kd.V_mono HO_256001.out (fun _ hk => ⟨⟨hk.1.1, ⟨hk.1.2.2.1, ⟨hk.1.2.2.2.1, ⟨hk.2, ⟨hk.1.2.2.2.2.1, ⟨hk.1.2.2.2.2.2.1, ⟨hk.1.2.2.2.2.2.2.1, ⟨hk.1.2.2.2.2.2.2.2.1, hk.1.2.2.2.2.2.2.2.2⟩⟩⟩⟩⟩⟩⟩⟩, hk.1.2.1⟩)) hg hat)
               have n1_ := z6_A (Kd.R_after (ok := (fun k_ => (w.heap.size ≤ k_) ∧ z6_S k_ Ao68 t265.length co68 ∧ z6_S k_ Ao77 y271.length co77)) (by (with_reducible repeat (first | apply Kd.R_alloc | apply Kd.R_drewN | apply Kd.R_drew)); exact Kd.R_mono HO_259001.out (fun _ hk => ⟨⟨hk.1.1, ⟨hk.1.2.2, hk.2⟩⟩, hk.1.2.1⟩)) hg hat)
               have n2_ := z6_A (blk_grown (g := gb255) (o := .cells #[.int .i64 t264, .slice Ao68 t265.length co68] 30 (0, 0)) z6_3 hg (Kd.R_ne HO_259000.out BK255.out z6_27))
               have n3_ := z6_A (blk_grown (g := gb256) (o := .cells #[.int .i64 a1_0, .int .i64 a1_1, .int .i64 a1_2] 32 (0, 0)) z6_4 hg (Kd.R_ne HO_259000.out BK256.out z6_27))
               have n4_ := z6_A (blk_grown (g := gb257) (o := .cells #[.slice none 0 0, .slice none 0 0, .int .i64 x258002_2] 93 (0, 0)) z6_5 hg (Kd.R_ne HO_259000.out BK257.out z6_27))
               have n5_ := z6_A (blk_grown (g := gb258) (o := .cells #[.slice Ao70 x259000_2.length co70, .slice Ao71 x259001_2.length co71, .int .i64 x259002_2] 93 (0, 0)) z6_6 hg (Kd.R_ne HO_259000.out BK258.out z6_27))
               have n6_ := z6_A (Kd.Q_after (ok := (fun k_ => (w.heap.size ≤ k_) ∧ z6_S k_ Ao71 x259001_2.length co71 ∧ z6_S k_ Ao77 y271.length co77)) (by (with_reducible repeat (first | apply Kd.Q_alloc | apply Kd.Q_drewN | apply Kd.Q_drew)); exact Kd.Q_mono HO267.out (fun _ hk => ⟨⟨hk.1.1, ⟨hk.1.2.2, hk.2⟩⟩, hk.1.2.1⟩)) hg hat)
               have n7_ := z6_A (blk_grown (g := gb270) (o := .cells #[.int .i64 t264, .slice Ao68 t265.length co68] 30 (0, 0)) z6_15 hg (Kd.R_ne HO_259000.out BK270.out z6_27))
               have n8_ := z6_A (Kd.R_after (ok := (fun k_ => (w.heap.size ≤ k_) ∧ z6_S k_ Ao71 x259001_2.length co71 ∧ z6_S k_ Ao68 t265.length co68)) (by (with_reducible repeat (first | apply Kd.R_alloc | apply Kd.R_drewN | apply Kd.R_drew)); exact Kd.R_mono HO273.out (fun _ hk => ⟨⟨hk.1.1.1.1, ⟨hk.1.2, hk.2⟩⟩, hk.1.1.2⟩)) hg hat)
               have n9_ := z6_A (hb)
               have n10_ := z6_A (ho)
               clear HO_256001
               clear HO_259001
               clear BK255
               clear BK256
               clear BK257
               clear BK258
               clear HO267
               clear BK270
               clear HO273
               clear HB
               clear HO_259000
               have HO_256001 := n0_
               have HO_259001 := n1_
               have BK255 := n2_
               have BK256 := n3_
               have BK257 := n4_
               have BK258 := n5_
               have HO267 := n6_
               have BK270 := n7_
               have HO273 := n8_
               have HB := n9_
               have HO276 := n10_
               clear n0_ n1_ n2_ n3_ n4_ n5_ n6_ n7_ n8_ n9_ n10_
               clear ho hb hg hat
               refine hK.out _ _ ⟨(blk_cell BK258.out 0).trans rfl, (blk_cell BK258.out 1).trans rfl, (blk_cell BK258.out 2).trans rfl, (blk_cell BK270.out 0).trans rfl, (blk_cell BK270.out 1).trans rfl⟩ (fun hHeld => ?_)
               clear hK K
               refine norm_ (a' := ?_) ?_ ?_
               rotate_left
               ·show Act.put _ (some 60) _ = _
                simp only [Act.put, List.setIfInBounds_toArray, List.set_cons_zero, List.set_cons_succ, i64_w, i32_w]
                rfl
               refine pure_ (i := 15) (N := some 71) (v := ?_) (a' := ?_) #[true, true, true, true, true, true, true, true, true, false, false, true, true, true, true, true, false, false, false, false, false] rfl rfl (any_of HT_.out z6_19) (fun _ _ _ h => h) (Or.inl ⟨z6_41, ?_⟩) ?_ ?_
               rotate_left
               ·intro w'
                go_simp
                with_reducible rfl
               rotate_left
               ·simp only [Act.put, List.setIfInBounds_toArray, List.set_cons_zero, List.set_cons_succ, i64_w, i32_w]
                rfl
               refine one_ (i := 9) (N := some 65) #[true, true, true, true, true, true, true, true, true, true, false, true, true, true, true, true, false, false, false, false, false] rfl rfl (one_of HT_.out z6_19) z6_27 (fun K hK => ?_)
               refine Kd.R_lit_step (Kd.int .i64) _ 3 ?hg (N := 65) ?hd (xs := ([t264] : List Int)) (inner := [.int .i64 t264]) (ok := fun _ => True) (okp := fun _ => True) ?hr ?hp (fun _ hk => hk) trivial (Below.refl _ _) (Nat.le_refl _) (by simp) ?_; (case hd => rfl); (case hg => rfl); (case hr => first | (go_simp; done) | (go_simp; rfl)); (case hp => exact (Reps.one (show Kd.M (Kd.int .i64) _ _ _ t264 [.int .i64 t264] from rfl) (Reps.none _ _)))
               intro v278 w78 ho79 hb hg_ hnew_
               clear hg_ hnew_
               (first | rw [← Ny277.out] at ho79 | (simp only [Int.reduceToNat] at ho79; rw [← Ny277.out] at ho79))
               have n0_ := z6_A (Kd.V_elder' z6_17 (Kd.R_base ho79) hb)
               have n1_ := z6_A (Kd.R_elder' z6_7 (Kd.R_base ho79) hb)
               have n2_ := z6_A (Kd.Q_elder' z6_13 (Kd.R_base ho79) hb)
               have n3_ := z6_A (Kd.R_elder' z6_18 (Kd.R_base ho79) hb)
               have n4_ := z6_A (Kd.R_elder' z6_34 (Kd.R_base ho79) hb)
               have n5_ := z6_A (Kd.R_lower (Kd.R_new' (Kd.R_new' (Kd.R_new' (Kd.R_new' (Kd.R_newM (M := fun k_ => (w.heap.size ≤ k_)) ho79 (below_size z6_1) (fun k_ h_ => h_)) (Kd.R_lt z6_7)) (Kd.Q_lt z6_13)) (Kd.R_lt z6_18)) (Kd.R_lt z6_34)) (below_size z6_1))
               have n6_ := z6_A (blk_below (g := gb255) (o := .cells #[.int .i64 t264, .slice Ao68 t265.length co68] 30 (0, 0)) z6_3 hb)
               have n7_ := z6_A (blk_below (g := gb256) (o := .cells #[.int .i64 a1_0, .int .i64 a1_1, .int .i64 a1_2] 32 (0, 0)) z6_4 hb)
               have n8_ := z6_A (blk_below (g := gb257) (o := .cells #[.slice none 0 0, .slice none 0 0, .int .i64 x258002_2] 93 (0, 0)) z6_5 hb)
               have n9_ := z6_A (blk_below (g := gb258) (o := .cells #[.slice Ao70 x259000_2.length co70, .slice Ao71 x259001_2.length co71, .int .i64 x259002_2] 93 (0, 0)) z6_6 hb)
               have n10_ := z6_A (blk_below (g := gb270) (o := .cells #[.int .i64 t264, .slice Ao68 t265.length co68] 30 (0, 0)) z6_15 hb)
               have n11_ := z6_A (below_step z6_1 hb)
               clear HO_256001
               clear HO_259001
               clear HO267
               clear HO273
               clear HO276
               clear BK255
               clear BK256
               clear BK257
               clear BK258
               clear BK270
               clear HB
               have HO_256001 := n0_
               have HO_259001 := n1_
               have HO267 := n2_
               have HO273 := n3_
               have HO276 := n4_
               have HO279 := n5_
               have BK255 := n6_
               have BK256 := n7_
               have BK257 := n8_
               have BK258 := n9_
               have BK270 := n10_
               have HB := n11_
               clear n0_ n1_ n2_ n3_ n4_ n5_ n6_ n7_ n8_ n9_ n10_ n11_
               clear hb ho79
               refine hK.out _ _ ⟨(blk_cell BK258.out 0).trans rfl, (blk_cell BK258.out 1).trans rfl, (blk_cell BK258.out 2).trans rfl, (blk_cell BK270.out 0).trans rfl, (blk_cell BK270.out 1).trans rfl⟩ (fun hHeld => ?_)
               clear hK K
               refine norm_ (a' := ?_) ?_ ?_
               rotate_left
               ·show Act.put _ (some 65) _ = _
                simp only [Act.put, List.setIfInBounds_toArray, List.set_cons_zero, List.set_cons_succ, i64_w, i32_w]
                rfl
               exact norm_ z6_35 (hCont (.slice Ao77 y271.length co77, v275, v278) _ ⟨hHeld, (by (with_reducible repeat (first | apply Kd.Q_alloc | apply Kd.Q_drewN | apply Kd.Q_drew)); exact Kd.Q_mono HO267.out (fun _ hk => ⟨hk.1.1.1, ⟨hk.1.1.2.2, ⟨hk.1.2, ⟨hk.2, hk.1.1.2.1⟩⟩⟩⟩)), (by (with_reducible repeat (first | apply Kd.R_alloc | apply Kd.R_drewN | apply Kd.R_drew)); exact Kd.R_mono HO273.out (fun _ hk => ⟨hk.1.1.1, ⟨hk.1.1.2.2, ⟨hk.1.2, ⟨hk.2, hk.1.1.2.1⟩⟩⟩⟩)), (by (with_reducible repeat (first | apply Kd.R_alloc | apply Kd.R_drewN | apply Kd.R_drew)); exact Kd.R_mono HO276.out (fun _ hk => ⟨hk.1.1, ⟨hk.1.2.2.1, ⟨hk.1.2.2.2, ⟨hk.2, hk.1.2.1⟩⟩⟩⟩)), (by (with_reducible repeat (first | apply Kd.R_alloc | apply Kd.R_drewN | apply Kd.R_drew)); exact Kd.R_mono HO279.out (fun _ hk => ⟨hk.1.1.1.1.1, ⟨hk.1.1.2, ⟨hk.1.2, ⟨hk.2, hk.1.1.1.2⟩⟩⟩⟩)), (by (with_reducible repeat (first | apply Kd.V_alloc | apply Kd.V_drewN | apply Kd.V_drew)); exact Kd.V_mono HO_256001.out (fun _ hk => ⟨hk.1.1.1, ⟨hk.1.1.2.2.1, ⟨hk.1.1.2.2.2.1, ⟨hk.1.2, ⟨hk.2, ⟨hk.1.1.2.1, ⟨hk.1.1.2.2.2.2.1, ⟨hk.1.1.2.2.2.2.2.1, ⟨hk.1.1.2.2.2.2.2.2.1, ⟨hk.1.1.2.2.2.2.2.2.2.1, hk.1.1.2.2.2.2.2.2.2.2⟩⟩⟩⟩⟩⟩⟩⟩⟩⟩)), (by (with_reducible repeat (first | apply Kd.R_alloc | apply Kd.R_drewN | apply Kd.R_drew)); exact Kd.R_mono HO_259001.out (fun _ hk => ⟨hk.1.1.1, ⟨hk.1.1.2.1, ⟨hk.1.1.2.2, ⟨hk.1.2, hk.2⟩⟩⟩⟩)), z6_3, z6_4, z6_5, z6_6, z6_15, z6_1⟩)
              ·skip
               refine Kd.R_lit_step (Kd.int .i64) _ 3 ?hg (N := 65) ?hd (xs := ([t264] : List Int)) (inner := [.int .i64 t264]) (ok := fun _ => True) (okp := fun _ => True) ?hr ?hp (fun _ hk => hk) trivial (Below.refl _ _) (Nat.le_refl _) (by simp) ?_; (case hd => rfl); (case hg => rfl); (case hr => first | (go_simp; done) | (go_simp; rfl)); (case hp => exact (Reps.one (show Kd.M (Kd.int .i64) _ _ _ t264 [.int .i64 t264] from rfl) (Reps.none _ _)))
               intro v278 w76 ho77 hb hg_ hnew_
               clear hg_ hnew_
               (first | rw [← Ny277.out] at ho77 | (simp only [Int.reduceToNat] at ho77; rw [← Ny277.out] at ho77))
               have n0_ := z6_A (Kd.V_elder' z6_17 (Kd.R_base ho77) hb)
               have n1_ := z6_A (Kd.R_elder' z6_9 (Kd.R_base ho77) hb)
               have n2_ := z6_A (Kd.R_elder' z6_7 (Kd.R_base ho77) hb)
               have n3_ := z6_A (Kd.Q_elder' z6_13 (Kd.R_base ho77) hb)
               have n4_ := z6_A (Kd.R_elder' z6_18 (Kd.R_base ho77) hb)
               have n5_ := z6_A (Kd.R_lower (Kd.R_new' (Kd.R_new' (Kd.R_new' (Kd.R_new' (Kd.R_newM (M := fun k_ => (w.heap.size ≤ k_)) ho77 (below_size z6_1) (fun k_ h_ => h_)) (Kd.R_lt z6_9)) (Kd.R_lt z6_7)) (Kd.Q_lt z6_13)) (Kd.R_lt z6_18)) (below_size z6_1))
               have n6_ := z6_A (blk_below (g := gb255) (o := .cells #[.int .i64 t264, .slice Ao68 t265.length co68] 30 (0, 0)) z6_3 hb)
               have n7_ := z6_A (blk_below (g := gb256) (o := .cells #[.int .i64 a1_0, .int .i64 a1_1, .int .i64 a1_2] 32 (0, 0)) z6_4 hb)
               have n8_ := z6_A (blk_below (g := gb257) (o := .cells #[.slice none 0 0, .slice none 0 0, .int .i64 x258002_2] 93 (0, 0)) z6_5 hb)
               have n9_ := z6_A (blk_below (g := gb258) (o := .cells #[.slice Ao70 x259000_2.length co70, .slice Ao71 x259001_2.length co71, .int .i64 x259002_2] 93 (0, 0)) z6_6 hb)
               have n10_ := z6_A (blk_below (g := gb270) (o := .cells #[.int .i64 t264, .slice Ao68 t265.length co68] 30 (0, 0)) z6_15 hb)
               have n11_ := z6_A (below_step z6_1 hb)
               clear HO_256001
               clear HO_259000
               clear HO_259001
               clear HO267
               clear HO273
               clear BK255
               clear BK256
               clear BK257
               clear BK258
               clear BK270
               clear HB
               have HO_256001 := n0_
               have HO_259000 := n1_
               have HO_259001 := n2_
               have HO267 := n3_
               have HO273 := n4_
               have HO279 := n5_
               have BK255 := n6_
               have BK256 := n7_
               have BK257 := n8_
               have BK258 := n9_
               have BK270 := n10_
               have HB := n11_
               clear n0_ n1_ n2_ n3_ n4_ n5_ n6_ n7_ n8_ n9_ n10_ n11_
               clear hb ho77
               obtain ⟨Ao79, co79, eo79⟩ := Kd.R_slice HO273.out
               (first | subst eo79 | (injection eo79 with f1_ f2_ f3_; have f4_ := f1_.symm; have f5_ := f3_.symm; clear f1_ f2_ f3_; subst f4_; subst f5_))
               refine hK.out _ _ ⟨(blk_cell BK258.out 0).trans rfl, (blk_cell BK258.out 1).trans rfl, (blk_cell BK258.out 2).trans rfl, (blk_cell BK270.out 0).trans rfl, (blk_cell BK270.out 1).trans rfl⟩ (fun hHeld => ?_)
               clear hK K
               refine norm_ (a' := ?_) ?_ ?_
               rotate_left
               ·show Act.put _ (some 65) _ = _
                simp only [Act.put, List.setIfInBounds_toArray, List.set_cons_zero, List.set_cons_succ, i64_w, i32_w]
                rfl
               refine one_ (i := 4) (N := some 60) #[true, true, true, true, true, true, true, true, true, true, false, true, true, true, true, false, false, false, false, false, false] rfl rfl (one_of HT_.out z6_19) z6_27 (fun K hK => ?_)
               refine Kd.R_append_rows_step (Kd.int .i64) (w0 := w) w.heap.size z6_41 (.tmp 57) (.tmp 59) 22 3 (.int .i64 0) 8 rfl Try.underlying22 info3 rfl z6_27 (by omega) (.slice Ao70 x259000_2.length co70) x259000_2 y271 _ _ _ (fun k_ => (w.heap.size ≤ k_) ∧ z6_S k_ Ao71 x259001_2.length co71 ∧ z6_S k_ Ao68 t265.length co68 ∧ z6_S k_ Ao79 y271.length co79 ∧ z6_V k_ v278) (fun _ => False) rfl rfl ?aO ?aR (fun _ _ h => h) (fun _ h => h.elim) ?aF ?aB ?aS ?aL ?_
               (case aR => have zh := (Kd.R_reads' HO273.out).2.2; exact z6_C)
               (case aB => exact z6_1)
               (case aF => exact (fun k_ hk => ⟨(Nat.le_trans (below_size z6_1) hk), Kd.fresh' (Kd.R_lt z6_7) k_ hk, Kd.fresh' (Kd.Q_lt z6_13) k_ hk, Kd.fresh' (Kd.R_lt z6_18) k_ hk, Kd.fresh' (Kd.R_lt z6_23) k_ hk⟩))
               (case aO => exact z6_38)
               (case aS => exact (below_size z6_1))
               (case aL => have := LMc52.out; omega)
               intro v275 w78 ho hb hg hat
               rw [← Ny274.out] at ho
               have n0_ := z6_A (Kd.V_afterv (ok := (fun k_ => (P0_1_ k_ ∨ w.heap.size ≤ k_) ∧ z6_S k_ Ao71 x259001_2.length co71 ∧ z6_S k_ Ao68 t265.length co68 ∧ z6_S k_ Ao79 y271.length co79 ∧ z6_V k_ v278 ∧ k_ ≠ gb255 ∧ k_ ≠ gb256 ∧ k_ ≠ gb257 ∧ k_ ≠ gb258 ∧ k_ ≠ gb270)) z6_30 hg hat)
               have n1_ := z6_A (Kd.R_after (ok := (fun k_ => (w.heap.size ≤ k_) ∧ z6_S k_ Ao68 t265.length co68 ∧ z6_S k_ Ao79 y271.length co79 ∧ z6_V k_ v278)) z6_37 hg hat)
               have n2_ := z6_A (blk_grown (g := gb255) (o := .cells #[.int .i64 t264, .slice Ao68 t265.length co68] 30 (0, 0)) z6_3 hg (Kd.R_ne HO_259000.out BK255.out z6_27))
               have n3_ := z6_A (blk_grown (g := gb256) (o := .cells #[.int .i64 a1_0, .int .i64 a1_1, .int .i64 a1_2] 32 (0, 0)) z6_4 hg (Kd.R_ne HO_259000.out BK256.out z6_27))
               have n4_ := z6_A (blk_grown (g := gb257) (o := .cells #[.slice none 0 0, .slice none 0 0, .int .i64 x258002_2] 93 (0, 0)) z6_5 hg (Kd.R_ne HO_259000.out BK257.out z6_27))
               have n5_ := z6_A (blk_grown (g := gb258) (o := .cells #[.slice Ao70 x259000_2.length co70, .slice Ao71 x259001_2.length co71, .int .i64 x259002_2] 93 (0, 0)) z6_6 hg (Kd.R_ne HO_259000.out BK258.out z6_27))
               have n6_ := z6_A (Kd.Q_after (ok := (fun k_ => (w.heap.size ≤ k_) ∧ z6_S k_ Ao71 x259001_2.length co71 ∧ z6_S k_ Ao79 y271.length co79 ∧ z6_V k_ v278)) z6_45 hg hat)
               have n7_ := z6_A (blk_grown (g := gb270) (o := .cells #[.int .i64 t264, .slice Ao68 t265.length co68] 30 (0, 0)) z6_15 hg (Kd.R_ne HO_259000.out BK270.out z6_27))
               have n8_ := z6_A (Kd.R_after (ok := (fun k_ => (w.heap.size ≤ k_) ∧ z6_S k_ Ao71 x259001_2.length co71 ∧ z6_S k_ Ao68 t265.length co68 ∧ z6_V k_ v278)) z6_40 hg hat)
               have n9_ := z6_A (Kd.R_after (ok := (fun k_ => (w.heap.size ≤ k_) ∧ z6_S k_ Ao71 x259001_2.length co71 ∧ z6_S k_ Ao68 t265.length co68 ∧ z6_S k_ Ao79 y271.length co79)) z6_39 hg hat)
               have n10_ := z6_A (hb)
               have n11_ := z6_A (ho)
               clear HO_256001
               clear HO_259001
               clear BK255
               clear BK256
               clear BK257
               clear BK258
               clear HO267
               clear BK270
               clear HO273
               clear HO279
               clear HB
               clear HO_259000
               have HO_256001 := n0_
               have HO_259001 := n1_
               have BK255 := n2_
               have BK256 := n3_
               have BK257 := n4_
               have BK258 := n5_
               have HO267 := n6_
               have BK270 := n7_
               have HO273 := n8_
               have HO279 := n9_
               have HB := n10_
               have HO276 := n11_
               clear n0_ n1_ n2_ n3_ n4_ n5_ n6_ n7_ n8_ n9_ n10_ n11_
               clear ho hb hg hat
               refine hK.out _ _ ⟨(blk_cell BK258.out 0).trans rfl, (blk_cell BK258.out 1).trans rfl, (blk_cell BK258.out 2).trans rfl, (blk_cell BK270.out 0).trans rfl, (blk_cell BK270.out 1).trans rfl⟩ (fun hHeld => ?_)
               clear hK K
               refine norm_ (a' := ?_) ?_ ?_
               rotate_left
               ·show Act.put _ (some 60) _ = _
                simp only [Act.put, List.setIfInBounds_toArray, List.set_cons_zero, List.set_cons_succ, i64_w, i32_w]
                rfl
               refine pure_ (i := 15) (N := some 71) (v := ?_) (a' := ?_) #[true, true, true, true, true, true, true, true, true, true, false, true, true, true, true, true, false, false, false, false, false] rfl rfl (any_of HT_.out z6_19) (fun _ _ _ h => h) (Or.inl ⟨z6_41, ?_⟩) ?_ ?_
               rotate_left
               ·intro w'
                go_simp
                with_reducible rfl
               rotate_left
               ·simp only [Act.put, List.setIfInBounds_toArray, List.set_cons_zero, List.set_cons_succ, i64_w, i32_w]
                rfl
               exact norm_ z6_35 (hCont (.slice Ao79 y271.length co79, v275, v278) _ ⟨hHeld, (by (with_reducible repeat (first | apply Kd.Q_alloc | apply Kd.Q_drewN | apply Kd.Q_drew)); exact Kd.Q_mono HO267.out (fun _ hk => ⟨hk.1.1, ⟨hk.1.2.2.1, ⟨hk.2, ⟨hk.1.2.2.2, hk.1.2.1⟩⟩⟩⟩)), z6_44, (by (with_reducible repeat (first | apply Kd.R_alloc | apply Kd.R_drewN | apply Kd.R_drew)); exact Kd.R_mono HO276.out (fun _ hk => ⟨hk.1, ⟨hk.2.2.1, ⟨hk.2.2.2.1, ⟨hk.2.2.2.2, hk.2.1⟩⟩⟩⟩)), z6_43, (by (with_reducible repeat (first | apply Kd.V_alloc | apply Kd.V_drewN | apply Kd.V_drew)); exact Kd.V_mono HO_256001.out (fun _ hk => ⟨hk.1.1, ⟨hk.1.2.2.1, ⟨hk.1.2.2.2.1, ⟨hk.2, ⟨hk.1.2.2.2.2.1, ⟨hk.1.2.1, ⟨hk.1.2.2.2.2.2.1, ⟨hk.1.2.2.2.2.2.2.1, ⟨hk.1.2.2.2.2.2.2.2.1, ⟨hk.1.2.2.2.2.2.2.2.2.1, hk.1.2.2.2.2.2.2.2.2.2⟩⟩⟩⟩⟩⟩⟩⟩⟩⟩)), (by (with_reducible repeat (first | apply Kd.R_alloc | apply Kd.R_drewN | apply Kd.R_drew)); exact Kd.R_mono HO_259001.out (fun _ hk => ⟨hk.1.1, ⟨hk.1.2.1, ⟨hk.1.2.2.1, ⟨hk.2, hk.1.2.2.2⟩⟩⟩⟩)), z6_3, z6_4, z6_5, z6_6, z6_15, z6_1⟩)
             ·skip
              refine Kd.R_lit_step (Kd.int .i64) _ 3 ?hg (N := 65) ?hd (xs := ([t264] : List Int)) (inner := [.int .i64 t264]) (ok := fun _ => True) (okp := fun _ => True) ?hr ?hp (fun _ hk => hk) trivial (Below.refl _ _) (Nat.le_refl _) (by simp) ?_; (case hd => rfl); (case hg => rfl); (case hr => first | (go_simp; done) | (go_simp; rfl)); (case hp => exact (Reps.one (show Kd.M (Kd.int .i64) _ _ _ t264 [.int .i64 t264] from rfl) (Reps.none _ _)))
              intro v278 w74 ho75 hb hg_ hnew_
              clear hg_ hnew_
              (first | rw [← Ny277.out] at ho75 | (simp only [Int.reduceToNat] at ho75; rw [← Ny277.out] at ho75))
              have n0_ := z6_A (Kd.V_elder' z6_17 (Kd.R_base ho75) hb)
              have n1_ := z6_A (Kd.R_elder' z6_9 (Kd.R_base ho75) hb)
              have n2_ := z6_A (Kd.R_elder' z6_7 (Kd.R_base ho75) hb)
              have n3_ := z6_A (Kd.Q_elder' z6_13 (Kd.R_base ho75) hb)
              have n4_ := z6_A (Kd.R_lower (Kd.R_new' (Kd.R_new' (Kd.R_new' (Kd.R_newM (M := fun k_ => (w.heap.size ≤ k_)) ho75 (below_size z6_1) (fun k_ h_ => h_)) (Kd.R_lt z6_9)) (Kd.R_lt z6_7)) (Kd.Q_lt z6_13)) (below_size z6_1))
              have n5_ := z6_A (blk_below (g := gb255) (o := .cells #[.int .i64 t264, .slice Ao68 t265.length co68] 30 (0, 0)) z6_3 hb)
              have n6_ := z6_A (blk_below (g := gb256) (o := .cells #[.int .i64 a1_0, .int .i64 a1_1, .int .i64 a1_2] 32 (0, 0)) z6_4 hb)
              have n7_ := z6_A (blk_below (g := gb257) (o := .cells #[.slice none 0 0, .slice none 0 0, .int .i64 x258002_2] 93 (0, 0)) z6_5 hb)
              have n8_ := z6_A (blk_below (g := gb258) (o := .cells #[.slice Ao70 x259000_2.length co70, .slice Ao71 x259001_2.length co71, .int .i64 x259002_2] 93 (0, 0)) z6_6 hb)
              have n9_ := z6_A (blk_below (g := gb270) (o := .cells #[.int .i64 t264, .slice Ao68 t265.length co68] 30 (0, 0)) z6_15 hb)
              have n10_ := z6_A (below_step z6_1 hb)
              clear HO_256001
              clear HO_259000
              clear HO_259001
              clear HO267
              clear BK255
              clear BK256
              clear BK257
              clear BK258
              clear BK270
              clear HB
              have HO_256001 := n0_
              have HO_259000 := n1_
              have HO_259001 := n2_
              have HO267 := n3_
              have HO279 := n4_
              have BK255 := n5_
              have BK256 := n6_
              have BK257 := n7_
              have BK258 := n8_
              have BK270 := n9_
              have HB := n10_
              clear n0_ n1_ n2_ n3_ n4_ n5_ n6_ n7_ n8_ n9_ n10_
              clear hb ho75
              refine hK.out _ _ ⟨(blk_cell BK258.out 0).trans rfl, (blk_cell BK258.out 1).trans rfl, (blk_cell BK258.out 2).trans rfl, (blk_cell BK270.out 0).trans rfl, (blk_cell BK270.out 1).trans rfl⟩ (fun hHeld => ?_)
              clear hK K
              refine norm_ (a' := ?_) ?_ ?_
              rotate_left
              ·show Act.put _ (some 65) _ = _
               simp only [Act.put, List.setIfInBounds_toArray, List.set_cons_zero, List.set_cons_succ, i64_w, i32_w]
               rfl
              refine one_ (i := 3) (N := some 59) #[true, true, true, true, false, true, true, true, true, true, false, true, true, true, true, false, false, false, false, false, false] rfl rfl (one_of HT_.out z6_19) z6_27 (fun K hK => ?_)
              refine Kd.R_lit_step (Kd.int .i64) _ 3 ?hg (N := 59) ?hd (xs := ([t263] : List Int)) (inner := [.int .i64 t263]) (ok := fun _ => True) (okp := fun _ => True) ?hr ?hp (fun _ hk => hk) trivial (Below.refl _ _) (Nat.le_refl _) (by simp) ?_; (case hd => rfl); (case hg => rfl); (case hr => first | (go_simp; done) | (go_simp; rfl)); (case hp => exact (Reps.one (show Kd.M (Kd.int .i64) _ _ _ t263 [.int .i64 t263] from rfl) (Reps.none _ _)))
              intro v272 w76 ho77 hb hg_ hnew_
              clear hg_ hnew_
              (first | rw [← Ny271.out] at ho77 | (simp only [Int.reduceToNat] at ho77; rw [← Ny271.out] at ho77))
              have n0_ := z6_A (Kd.V_elder' z6_17 (Kd.R_base ho77) hb)
              have n1_ := z6_A (Kd.R_elder' z6_9 (Kd.R_base ho77) hb)
              have n2_ := z6_A (Kd.R_elder' z6_7 (Kd.R_base ho77) hb)
              have n3_ := z6_A (Kd.Q_elder' z6_13 (Kd.R_base ho77) hb)
              have n4_ := z6_A (Kd.R_elder' z6_23 (Kd.R_base ho77) hb)
              have n5_ := z6_A (Kd.R_lower (Kd.R_new' (Kd.R_new' (Kd.R_new' (Kd.R_new' (Kd.R_newM (M := fun k_ => (w.heap.size ≤ k_)) ho77 (below_size z6_1) (fun k_ h_ => h_)) (Kd.R_lt z6_9)) (Kd.R_lt z6_7)) (Kd.Q_lt z6_13)) (Kd.R_lt z6_23)) (below_size z6_1))
              have n6_ := z6_A (blk_below (g := gb255) (o := .cells #[.int .i64 t264, .slice Ao68 t265.length co68] 30 (0, 0)) z6_3 hb)
              have n7_ := z6_A (blk_below (g := gb256) (o := .cells #[.int .i64 a1_0, .int .i64 a1_1, .int .i64 a1_2] 32 (0, 0)) z6_4 hb)
              have n8_ := z6_A (blk_below (g := gb257) (o := .cells #[.slice none 0 0, .slice none 0 0, .int .i64 x258002_2] 93 (0, 0)) z6_5 hb)
              have n9_ := z6_A (blk_below (g := gb258) (o := .cells #[.slice Ao70 x259000_2.length co70, .slice Ao71 x259001_2.length co71, .int .i64 x259002_2] 93 (0, 0)) z6_6 hb)
              have n10_ := z6_A (blk_below (g := gb270) (o := .cells #[.int .i64 t264, .slice Ao68 t265.length co68] 30 (0, 0)) z6_15 hb)
              have n11_ := z6_A (below_step z6_1 hb)
              clear HO_256001
              clear HO_259000
              clear HO_259001
              clear HO267
              clear HO279
              clear BK255
              clear BK256
              clear BK257
              clear BK258
              clear BK270
              clear HB
              have HO_256001 := n0_
              have HO_259000 := n1_
              have HO_259001 := n2_
              have HO267 := n3_
              have HO279 := n4_
              have HO273 := n5_
              have BK255 := n6_
              have BK256 := n7_
              have BK257 := n8_
              have BK258 := n9_
              have BK270 := n10_
              have HB := n11_
              clear n0_ n1_ n2_ n3_ n4_ n5_ n6_ n7_ n8_ n9_ n10_ n11_
              clear hb ho77
              obtain ⟨Ao79, co79, eo79⟩ := Kd.R_slice HO273.out
              (first | subst eo79 | (injection eo79 with f1_ f2_ f3_; have f4_ := f1_.symm; have f5_ := f3_.symm; clear f1_ f2_ f3_; subst f4_; subst f5_))
              refine hK.out _ _ ⟨(blk_cell BK258.out 0).trans rfl, (blk_cell BK258.out 1).trans rfl, (blk_cell BK258.out 2).trans rfl, (blk_cell BK270.out 0).trans rfl, (blk_cell BK270.out 1).trans rfl⟩ (fun hHeld => ?_)
              clear hK K
              refine norm_ (a' := ?_) ?_ ?_
              rotate_left
              ·show Act.put _ (some 59) _ = _
               simp only [Act.put, List.setIfInBounds_toArray, List.set_cons_zero, List.set_cons_succ, i64_w, i32_w]
               rfl
              refine one_ (i := 4) (N := some 60) #[true, true, true, true, true, true, true, true, true, true, false, true, true, true, true, false, false, false, false, false, false] rfl rfl (one_of HT_.out z6_19) z6_27 (fun K hK => ?_)
              refine Kd.R_append_rows_step (Kd.int .i64) (w0 := w) w.heap.size z6_41 (.tmp 57) (.tmp 59) 22 3 (.int .i64 0) 8 rfl Try.underlying22 info3 rfl z6_27 (by omega) (.slice Ao70 x259000_2.length co70) x259000_2 y271 _ _ _ (fun k_ => (w.heap.size ≤ k_) ∧ z6_S k_ Ao71 x259001_2.length co71 ∧ z6_S k_ Ao68 t265.length co68 ∧ z6_V k_ v278 ∧ z6_S k_ Ao79 y271.length co79) (fun _ => False) rfl rfl ?aO ?aR (fun _ _ h => h) (fun _ h => h.elim) ?aF ?aB ?aS ?aL ?_
              (case aR => have zh := (Kd.R_reads' HO273.out).2.2; exact z6_C)
              (case aB => exact z6_1)
              (case aF => exact (fun k_ hk => ⟨(Nat.le_trans (below_size z6_1) hk), Kd.fresh' (Kd.R_lt z6_7) k_ hk, Kd.fresh' (Kd.Q_lt z6_13) k_ hk, Kd.fresh' (Kd.R_lt z6_23) k_ hk, Kd.fresh' (Kd.R_lt z6_18) k_ hk⟩))
              (case aO => exact z6_38)
              (case aS => exact (below_size z6_1))
              (case aL => have := LMc52.out; omega)
              intro v275 w78 ho hb hg hat
              rw [← Ny274.out] at ho
              have n0_ := z6_A (Kd.V_afterv (ok := (fun k_ => (P0_1_ k_ ∨ w.heap.size ≤ k_) ∧ z6_S k_ Ao71 x259001_2.length co71 ∧ z6_S k_ Ao68 t265.length co68 ∧ z6_V k_ v278 ∧ z6_S k_ Ao79 y271.length co79 ∧ k_ ≠ gb255 ∧ k_ ≠ gb256 ∧ k_ ≠ gb257 ∧ k_ ≠ gb258 ∧ k_ ≠ gb270)) z6_30 hg hat)
              have n1_ := z6_A (Kd.R_after (ok := (fun k_ => (w.heap.size ≤ k_) ∧ z6_S k_ Ao68 t265.length co68 ∧ z6_V k_ v278 ∧ z6_S k_ Ao79 y271.length co79)) z6_37 hg hat)
              have n2_ := z6_A (blk_grown (g := gb255) (o := .cells #[.int .i64 t264, .slice Ao68 t265.length co68] 30 (0, 0)) z6_3 hg (Kd.R_ne HO_259000.out BK255.out z6_27))
              have n3_ := z6_A (blk_grown (g := gb256) (o := .cells #[.int .i64 a1_0, .int .i64 a1_1, .int .i64 a1_2] 32 (0, 0)) z6_4 hg (Kd.R_ne HO_259000.out BK256.out z6_27))
              have n4_ := z6_A (blk_grown (g := gb257) (o := .cells #[.slice none 0 0, .slice none 0 0, .int .i64 x258002_2] 93 (0, 0)) z6_5 hg (Kd.R_ne HO_259000.out BK257.out z6_27))
              have n5_ := z6_A (blk_grown (g := gb258) (o := .cells #[.slice Ao70 x259000_2.length co70, .slice Ao71 x259001_2.length co71, .int .i64 x259002_2] 93 (0, 0)) z6_6 hg (Kd.R_ne HO_259000.out BK258.out z6_27))
              have n6_ := z6_A (Kd.Q_after (ok := (fun k_ => (w.heap.size ≤ k_) ∧ z6_S k_ Ao71 x259001_2.length co71 ∧ z6_V k_ v278 ∧ z6_S k_ Ao79 y271.length co79)) z6_45 hg hat)
              have n7_ := z6_A (blk_grown (g := gb270) (o := .cells #[.int .i64 t264, .slice Ao68 t265.length co68] 30 (0, 0)) z6_15 hg (Kd.R_ne HO_259000.out BK270.out z6_27))
              have n8_ := z6_A (Kd.R_after (ok := (fun k_ => (w.heap.size ≤ k_) ∧ z6_S k_ Ao71 x259001_2.length co71 ∧ z6_S k_ Ao68 t265.length co68 ∧ z6_S k_ Ao79 y271.length co79)) z6_39 hg hat)
              have n9_ := z6_A (Kd.R_after (ok := (fun k_ => (w.heap.size ≤ k_) ∧ z6_S k_ Ao71 x259001_2.length co71 ∧ z6_S k_ Ao68 t265.length co68 ∧ z6_V k_ v278)) z6_40 hg hat)
              have n10_ := z6_A (hb)
              have n11_ := z6_A (ho)
              clear HO_256001
              clear HO_259001
              clear BK255
              clear BK256
              clear BK257
              clear BK258
              clear HO267
              clear BK270
              clear HO279
              clear HO273
              clear HB
              clear HO_259000
              have HO_256001 := n0_
              have HO_259001 := n1_
              have BK255 := n2_
              have BK256 := n3_
              have BK257 := n4_
              have BK258 := n5_
              have HO267 := n6_
              have BK270 := n7_
              have HO279 := n8_
              have HO273 := n9_
              have HB := n10_
              have HO276 := n11_
              clear n0_ n1_ n2_ n3_ n4_ n5_ n6_ n7_ n8_ n9_ n10_ n11_
              clear ho hb hg hat
              refine hK.out _ _ ⟨(blk_cell BK258.out 0).trans rfl, (blk_cell BK258.out 1).trans rfl, (blk_cell BK258.out 2).trans rfl, (blk_cell BK270.out 0).trans rfl, (blk_cell BK270.out 1).trans rfl⟩ (fun hHeld => ?_)
              clear hK K
              refine norm_ (a' := ?_) ?_ ?_
              rotate_left
              ·show Act.put _ (some 60) _ = _
               simp only [Act.put, List.setIfInBounds_toArray, List.set_cons_zero, List.set_cons_succ, i64_w, i32_w]
               rfl
              refine pure_ (i := 15) (N := some 71) (v := ?_) (a' := ?_) #[true, true, true, true, true, true, true, true, true, true, false, true, true, true, true, true, false, false, false, false, false] rfl rfl (any_of HT_.out z6_19) (fun _ _ _ h => h) (Or.inl ⟨z6_41, ?_⟩) ?_ ?_
              rotate_left
              ·intro w'
               go_simp
               with_reducible rfl
              rotate_left
              ·simp only [Act.put, List.setIfInBounds_toArray, List.set_cons_zero, List.set_cons_succ, i64_w, i32_w]
               rfl
              exact norm_ z6_35 (hCont (.slice Ao79 y271.length co79, v275, v278) _ ⟨hHeld, (by (with_reducible repeat (first | apply Kd.Q_alloc | apply Kd.Q_drewN | apply Kd.Q_drew)); exact Kd.Q_mono HO267.out (fun _ hk => ⟨hk.1.1, ⟨hk.1.2.2.2, ⟨hk.2, ⟨hk.1.2.2.1, hk.1.2.1⟩⟩⟩⟩)), z6_44, (by (with_reducible repeat (first | apply Kd.R_alloc | apply Kd.R_drewN | apply Kd.R_drew)); exact Kd.R_mono HO276.out (fun _ hk => ⟨hk.1, ⟨hk.2.2.1, ⟨hk.2.2.2.2, ⟨hk.2.2.2.1, hk.2.1⟩⟩⟩⟩)), z6_43, (by (with_reducible repeat (first | apply Kd.V_alloc | apply Kd.V_drewN | apply Kd.V_drew)); exact Kd.V_mono HO_256001.out (fun _ hk => ⟨hk.1.1, ⟨hk.1.2.2.1, ⟨hk.1.2.2.2.2.1, ⟨hk.2, ⟨hk.1.2.2.2.1, ⟨hk.1.2.1, ⟨hk.1.2.2.2.2.2.1, ⟨hk.1.2.2.2.2.2.2.1, ⟨hk.1.2.2.2.2.2.2.2.1, ⟨hk.1.2.2.2.2.2.2.2.2.1, hk.1.2.2.2.2.2.2.2.2.2⟩⟩⟩⟩⟩⟩⟩⟩⟩⟩)), (by (with_reducible repeat (first | apply Kd.R_alloc | apply Kd.R_drewN | apply Kd.R_drew)); exact Kd.R_mono HO_259001.out (fun _ hk => ⟨hk.1.1, ⟨hk.1.2.1, ⟨hk.1.2.2.2, ⟨hk.2, hk.1.2.2.1⟩⟩⟩⟩)), z6_3, z6_4, z6_5, z6_6, z6_15, z6_1⟩)
            rintro ⟨v272, v275, v278⟩ w80 ⟨hS_, h0_, h1_, h2_, h3_, h4_, h5_, h6_, h7_, h8_, h9_, h10_, h11_⟩
            have n0_ : Aside0 (Kd.Q (Kd.int .i64) 3 w80 w.heap.size (fun k_ => (w.heap.size ≤ k_) ∧ z6_V k_ v272 ∧ z6_V k_ v275 ∧ z6_V k_ v278 ∧ z6_S k_ Ao71 x259001_2.length co71) (.slice Ao68 t265.length co68) t265) := ⟨h0_⟩
            have n1_ : Aside0 (Kd.R (Kd.int .i64) 3 w80 w.heap.size (fun k_ => (w.heap.size ≤ k_) ∧ z6_S k_ Ao68 t265.length co68 ∧ z6_V k_ v275 ∧ z6_V k_ v278 ∧ z6_S k_ Ao71 x259001_2.length co71) v272 y271) := ⟨h1_⟩
            have n2_ : Aside0 (Kd.R (Kd.int .i64) 3 w80 w.heap.size (fun k_ => (w.heap.size ≤ k_) ∧ z6_S k_ Ao68 t265.length co68 ∧ z6_V k_ v272 ∧ z6_V k_ v278 ∧ z6_S k_ Ao71 x259001_2.length co71) v275 y274) := ⟨h2_⟩
            have n3_ : Aside0 (Kd.R (Kd.int .i64) 3 w80 w.heap.size (fun k_ => (w.heap.size ≤ k_) ∧ z6_S k_ Ao68 t265.length co68 ∧ z6_V k_ v272 ∧ z6_V k_ v275 ∧ z6_S k_ Ao71 x259001_2.length co71) v278 y277) := ⟨h3_⟩
            have n4_ : Aside0 (Kd.V (Kd.int .i64) 3 w80 w.heap.size (fun k_ => (P0_1_ k_ ∨ w.heap.size ≤ k_) ∧ z6_S k_ Ao68 t265.length co68 ∧ z6_V k_ v272 ∧ z6_V k_ v275 ∧ z6_V k_ v278 ∧ z6_S k_ Ao71 x259001_2.length co71 ∧ k_ ≠ gb255 ∧ k_ ≠ gb256 ∧ k_ ≠ gb257 ∧ k_ ≠ gb258 ∧ k_ ≠ gb270) (.slice Ao55 x256001_2.length co55) x256001_2) := ⟨h4_⟩
            have n5_ : Aside0 (Kd.R (Kd.int .i64) 3 w80 w.heap.size (fun k_ => (w.heap.size ≤ k_) ∧ z6_S k_ Ao68 t265.length co68 ∧ z6_V k_ v272 ∧ z6_V k_ v275 ∧ z6_V k_ v278) (.slice Ao71 x259001_2.length co71) x259001_2) := ⟨h5_⟩
            have n6_ : Aside0 (w80.heap[gb255]? = some (.cells #[.int .i64 t264, .slice Ao68 t265.length co68] 30 (0, 0))) := ⟨h6_⟩
            have n7_ : Aside0 (w80.heap[gb256]? = some (.cells #[.int .i64 a1_0, .int .i64 a1_1, .int .i64 a1_2] 32 (0, 0))) := ⟨h7_⟩
            have n8_ : Aside0 (w80.heap[gb257]? = some (.cells #[.slice none 0 0, .slice none 0 0, .int .i64 x258002_2] 93 (0, 0))) := ⟨h8_⟩
            have n9_ : Aside0 (w80.heap[gb258]? = some (.cells #[.slice Ao70 x259000_2.length co70, .slice Ao71 x259001_2.length co71, .int .i64 x259002_2] 93 (0, 0))) := ⟨h9_⟩
            have n10_ : Aside0 (w80.heap[gb270]? = some (.cells #[.int .i64 t264, .slice Ao68 t265.length co68] 30 (0, 0))) := ⟨h10_⟩
            have n11_ : Aside0 (Below w.heap.size w w80) := ⟨h11_⟩
            clear HO_256001
            clear HO_259000
            clear HO_259001
            clear HO267
            clear BK255
            clear BK256
            clear BK257
            clear BK258
            clear BK270
            clear HB
            clear h0_ h1_ h2_ h3_ h4_ h5_ h6_ h7_ h8_ h9_ h10_ h11_
            have HO267 := n0_
            have HO273 := n1_
            have HO276 := n2_
            have HO279 := n3_
            have HO_256001 := n4_
            have HO_259001 := n5_
            have BK255 := n6_
            have BK256 := n7_
            have BK257 := n8_
            have BK258 := n9_
            have BK270 := n10_
            have HB := n11_
            clear n0_ n1_ n2_ n3_ n4_ n5_ n6_ n7_ n8_ n9_ n10_ n11_
            have hHeld : w80.cell? ⟨gb258, 0, none⟩ = some (.slice Ao70 x259000_2.length co70) ∧ w80.cell? ⟨gb258, 1, none⟩ = some (.slice Ao71 x259001_2.length co71) ∧ w80.cell? ⟨gb258, 2, none⟩ = some (.int .i64 x259002_2) ∧ w80.cell? ⟨gb270, 0, none⟩ = some (.int .i64 t264) ∧ w80.cell? ⟨gb270, 1, none⟩ = some (.slice Ao68 t265.length co68) := hS_
            obtain ⟨Ao82, co82, eo82⟩ := Kd.R_slice HO279.out
            (first | subst eo82 | (injection eo82 with f1_ f2_ f3_; have f4_ := f1_.symm; have f5_ := f3_.symm; clear f1_ f2_ f3_; subst f4_; subst f5_))
            refine norm_ (a' := ?_) ?_ ?_
            rotate_left
            ·simp only [putAll, Act.put, List.setIfInBounds_toArray, List.set_cons_zero, List.set_cons_succ]
             rfl
            refine one_ (i := 10) (N := some 66) #[true, true, true, true, true, true, true, true, true, true, true, true, true, true, true, true, false, false, false, false, false] rfl rfl (one_of HT_.out z6_19) z6_27 (fun K hK => ?_)
            refine Kd.R_append_rows_step (Kd.int .i64) (w0 := w) w.heap.size z6_41 (.tmp 62) (.tmp 65) 22 3 (.int .i64 0) 8 rfl Try.underlying22 info3 rfl z6_27 (by omega) (.slice Ao71 x259001_2.length co71) x259001_2 y277 _ _ _ (fun k_ => (w.heap.size ≤ k_) ∧ z6_S k_ Ao68 t265.length co68 ∧ z6_V k_ v272 ∧ z6_V k_ v275 ∧ z6_S k_ Ao82 y277.length co82) (fun _ => False) rfl rfl ?aO ?aR (fun _ _ h => h) (fun _ h => h.elim) ?aF ?aB ?aS ?aL ?_
            (case aR => have zh := (Kd.R_reads' HO279.out).2.2; exact z6_C)
            (case aB => exact z6_1)
            (case aF => exact (fun k_ hk => ⟨(Nat.le_trans (below_size z6_1) hk), Kd.fresh' (Kd.Q_lt z6_13) k_ hk, Kd.fresh' (Kd.R_lt z6_18) k_ hk, Kd.fresh' (Kd.R_lt z6_34) k_ hk, Kd.fresh' (Kd.R_lt z6_23) k_ hk⟩))
            (case aO => exact z6_7)
            (case aS => exact (below_size z6_1))
            (case aL => have := LMc53.out; omega)
            intro v281 w81 ho hb hg hat
            rw [← Ny280.out] at ho
            have n0_ := z6_A (Kd.V_afterv (ok := (fun k_ => (P0_1_ k_ ∨ w.heap.size ≤ k_) ∧ z6_S k_ Ao68 t265.length co68 ∧ z6_V k_ v272 ∧ z6_V k_ v275 ∧ z6_S k_ Ao82 y277.length co82 ∧ k_ ≠ gb255 ∧ k_ ≠ gb256 ∧ k_ ≠ gb257 ∧ k_ ≠ gb258 ∧ k_ ≠ gb270)) (by (with_reducible repeat (first | apply Kd.V_alloc | apply Kd.V_drewN | apply Kd.V_drew)); exact Kd.V_mono HO_256001.out (fun _ hk => ⟨⟨hk.1, ⟨hk.2.1, ⟨hk.2.2.1, ⟨hk.2.2.2.1, ⟨hk.2.2.2.2.1, ⟨hk.2.2.2.2.2.2.1, ⟨hk.2.2.2.2.2.2.2.1, ⟨hk.2.2.2.2.2.2.2.2.1, ⟨hk.2.2.2.2.2.2.2.2.2.1, hk.2.2.2.2.2.2.2.2.2.2⟩⟩⟩⟩⟩⟩⟩⟩⟩, hk.2.2.2.2.2.1⟩)) hg hat)
            have n1_ := z6_A (blk_grown (g := gb255) (o := .cells #[.int .i64 t264, .slice Ao68 t265.length co68] 30 (0, 0)) z6_3 hg (Kd.R_ne HO_259001.out BK255.out z6_27))
            have n2_ := z6_A (blk_grown (g := gb256) (o := .cells #[.int .i64 a1_0, .int .i64 a1_1, .int .i64 a1_2] 32 (0, 0)) z6_4 hg (Kd.R_ne HO_259001.out BK256.out z6_27))
            have n3_ := z6_A (blk_grown (g := gb257) (o := .cells #[.slice none 0 0, .slice none 0 0, .int .i64 x258002_2] 93 (0, 0)) z6_5 hg (Kd.R_ne HO_259001.out BK257.out z6_27))
            have n4_ := z6_A (blk_grown (g := gb258) (o := .cells #[.slice Ao70 x259000_2.length co70, .slice Ao71 x259001_2.length co71, .int .i64 x259002_2] 93 (0, 0)) z6_6 hg (Kd.R_ne HO_259001.out BK258.out z6_27))
            have n5_ := z6_A (Kd.Q_after (ok := (fun k_ => (w.heap.size ≤ k_) ∧ z6_V k_ v272 ∧ z6_V k_ v275 ∧ z6_S k_ Ao82 y277.length co82)) (by (with_reducible repeat (first | apply Kd.Q_alloc | apply Kd.Q_drewN | apply Kd.Q_drew)); exact Kd.Q_mono HO267.out (fun _ hk => ⟨⟨hk.1, ⟨hk.2.1, ⟨hk.2.2.1, hk.2.2.2.1⟩⟩⟩, hk.2.2.2.2⟩)) hg hat)
            have n6_ := z6_A (blk_grown (g := gb270) (o := .cells #[.int .i64 t264, .slice Ao68 t265.length co68] 30 (0, 0)) z6_15 hg (Kd.R_ne HO_259001.out BK270.out z6_27))
            have n7_ := z6_A (Kd.R_after (ok := (fun k_ => (w.heap.size ≤ k_) ∧ z6_S k_ Ao68 t265.length co68 ∧ z6_V k_ v275 ∧ z6_S k_ Ao82 y277.length co82)) (by (with_reducible repeat (first | apply Kd.R_alloc | apply Kd.R_drewN | apply Kd.R_drew)); exact Kd.R_mono HO273.out (fun _ hk => ⟨⟨hk.1, ⟨hk.2.1, ⟨hk.2.2.1, hk.2.2.2.1⟩⟩⟩, hk.2.2.2.2⟩)) hg hat)
            have n8_ := z6_A (Kd.R_after (ok := (fun k_ => (w.heap.size ≤ k_) ∧ z6_S k_ Ao68 t265.length co68 ∧ z6_V k_ v272 ∧ z6_S k_ Ao82 y277.length co82)) (by (with_reducible repeat (first | apply Kd.R_alloc | apply Kd.R_drewN | apply Kd.R_drew)); exact Kd.R_mono HO276.out (fun _ hk => ⟨⟨hk.1, ⟨hk.2.1, ⟨hk.2.2.1, hk.2.2.2.1⟩⟩⟩, hk.2.2.2.2⟩)) hg hat)
            have n9_ := z6_A (Kd.R_after (ok := (fun k_ => (w.heap.size ≤ k_) ∧ z6_S k_ Ao68 t265.length co68 ∧ z6_V k_ v272 ∧ z6_V k_ v275)) (by (with_reducible repeat (first | apply Kd.R_alloc | apply Kd.R_drewN | apply Kd.R_drew)); exact Kd.R_mono HO279.out (fun _ hk => ⟨⟨hk.1, ⟨hk.2.1, ⟨hk.2.2.1, hk.2.2.2.1⟩⟩⟩, hk.2.2.2.2⟩)) hg hat)
            have n10_ := z6_A (hb)
            have n11_ := z6_A (ho)
            clear HO_256001
            clear BK255
            clear BK256
            clear BK257
            clear BK258
            clear HO267
            clear BK270
            clear HO273
            clear HO276
            clear HO279
            clear HB
            clear HO_259001
            have HO_256001 := n0_
            have BK255 := n1_
            have BK256 := n2_
            have BK257 := n3_
            have BK258 := n4_
            have HO267 := n5_
            have BK270 := n6_
            have HO273 := n7_
            have HO276 := n8_
            have HO279 := n9_
            have HB := n10_
            have HO282 := n11_
            clear n0_ n1_ n2_ n3_ n4_ n5_ n6_ n7_ n8_ n9_ n10_ n11_
            clear ho hb hg hat
            obtain ⟨Ao83, co83, eo83⟩ := Kd.R_slice HO276.out
            (first | subst eo83 | (injection eo83 with f1_ f2_ f3_; have f4_ := f1_.symm; have f5_ := f3_.symm; clear f1_ f2_ f3_; subst f4_; subst f5_))
            obtain ⟨Ao85, co85, eo85⟩ := Kd.R_slice HO282.out
            (first | subst eo85 | (injection eo85 with f1_ f2_ f3_; have f4_ := f1_.symm; have f5_ := f3_.symm; clear f1_ f2_ f3_; subst f4_; subst f5_))
            refine hK.out _ _ ⟨(blk_cell BK258.out 0).trans rfl, (blk_cell BK258.out 1).trans rfl, (blk_cell BK258.out 2).trans rfl, (blk_cell BK270.out 0).trans rfl, (blk_cell BK270.out 1).trans rfl⟩ (fun hHeld => ?_)
            clear hK K
            refine norm_ (a' := ?_) ?_ ?_
            rotate_left
            ·show Act.put _ (some 66) _ = _
             simp only [Act.put, List.setIfInBounds_toArray, List.set_cons_zero, List.set_cons_succ, i64_w, i32_w]
             rfl
            refine last_ (i := 16) (N := none) #[true, true, true, true, true, true, true, true, true, true, true, true, true, true, true, true, true, false, false, false, false] rfl rfl (one_of HT_.out z6_19) z6_27 (fun K hK => ?_)
            have hs84 : w81.cell? ⟨gb258, 0, none⟩ = some (.slice Ao70 x259000_2.length co70) := (blk_cell BK258.out 0).trans rfl
            have hfs84 := blk_frozen BK258.out 0
            have hns84_0 := NB255_258.out
            have hns84_1 := NB256_258.out
            have hns84_2 := NB257_258.out
            have hns84_4 := NB270_258.out
            have hms84_0 := NB258_255.out
            have hms84_1 := NB258_256.out
            have hms84_2 := NB258_257.out
            have hms84_4 := NB258_270.out
            refine skip_ (w1 := ?_) z6_41 rfl ?_ ?_
            rotate_left
            ·go_simp
             rfl
            refine hK.out _ _ ?_
            clear hK K
            refine pure_ (i := 17) (N := some 72) (v := ?_) (a' := ?_) #[true, true, true, true, true, true, true, true, true, true, true, true, true, true, true, true, true, true, false, false, false] rfl rfl (any_of HT_.out z6_19) (fun _ _ _ h => h) (Or.inl ⟨z6_41, ?_⟩) ?_ ?_
            rotate_left
            ·intro w'
             go_simp
             with_reducible rfl
            rotate_left
            ·simp only [Act.put, List.setIfInBounds_toArray, List.set_cons_zero, List.set_cons_succ, i64_w, i32_w]
             rfl
            refine last_ (i := 18) (N := none) #[true, true, true, true, true, true, true, true, true, true, true, true, true, true, true, true, true, true, true, false, false] rfl rfl (one_of HT_.out z6_19) z6_27 (fun K hK => ?_)
            have hs86 : w81.cell? ⟨gb258, 1, none⟩ = some (.slice Ao71 x259001_2.length co71) := (blk_cell BK258.out 1).trans rfl
            have hfs86 := blk_frozen BK258.out 1
            have hns86_0 := NB255_258.out
            have hns86_1 := NB256_258.out
            have hns86_2 := NB257_258.out
            have hns86_4 := NB270_258.out
            have hms86_0 := NB258_255.out
            have hms86_1 := NB258_256.out
            have hms86_2 := NB258_257.out
            have hms86_4 := NB258_270.out
            refine skip_ (w1 := ?_) z6_41 rfl ?_ ?_
            rotate_left
            ·go_simp
             rfl
            refine hK.out _ _ ?_
            clear hK K
            refine pure_ (i := 19) (N := some 73) (v := ?_) (a' := ?_) #[true, true, true, true, true, true, true, true, true, true, true, true, true, true, true, true, true, true, true, true, false] rfl rfl (any_of HT_.out z6_19) (fun _ _ _ h => h) (Or.inl ⟨z6_41, ?_⟩) ?_ ?_
            rotate_left
            ·intro w'
             go_simp
             with_reducible rfl
            rotate_left
            ·simp only [Act.put, List.setIfInBounds_toArray, List.set_cons_zero, List.set_cons_succ, i64_w, i32_w]
             rfl
            refine last_ (i := 20) (N := none) #[true, true, true, true, true, true, true, true, true, true, true, true, true, true, true, true, true, true, true, true, true] rfl rfl (one_of HT_.out z6_19) z6_27 (fun K hK => ?_)
            have hs87 : w81.cell? ⟨gb258, 2, none⟩ = some (.int .i64 x259002_2) := (blk_cell BK258.out 2).trans rfl
            have hfs87 := blk_frozen BK258.out 2
            have hns87_0 := NB255_258.out
            have hns87_1 := NB256_258.out
            have hns87_2 := NB257_258.out
            have hns87_4 := NB270_258.out
            have hms87_0 := NB258_255.out
            have hms87_1 := NB258_256.out
            have hms87_2 := NB258_257.out
            have hms87_4 := NB258_270.out
            refine skip_ (w1 := ?_) z6_41 rfl ?_ ?_
            rotate_left
            ·go_simp
             rfl
            refine hK.out _ _ ?_
            clear hK K
            refine done_ (done_of HT_.out z6_19) ?_
            try go_wp2
            go_roundg k2
            case measure => have := HJ3.out; have := HK2.out; omega
            case rel => exact ⟨(wrap64 (x32_2 + 1)), (t264), (t265), (x258002_2), (y274), (y280), (wrap64 (x259002_2 + t268)), (.slice Ao68 t265.length co68), (.slice Ao83 y274.length co83), (.slice Ao85 y280.length co85), z6_42, H', ⟨by have := HJ3.out; have := HK2.out; omega⟩, ⟨Kd.V_mono (Kd.Q_V (by (with_reducible repeat (first | apply Kd.Q_alloc | apply Kd.Q_drewN | apply Kd.Q_drew)); exact (Kd.Q_far (p := ⟨gb258, 2, none⟩) (Kd.Q_far (p := ⟨gb258, 1, none⟩) (Kd.Q_far (p := ⟨gb258, 0, none⟩) (Kd.Q_types (Kd.Q_types (Kd.Q_types (Kd.Q_types (Kd.Q_types HO267.out BK255.out z6_27) BK256.out z6_27) BK257.out z6_27) BK258.out z6_27) BK258.out z6_27) (fun _ hk => hk.2) (.slice Ao83 y274.length co83)) (fun _ hk => hk.2) (.slice Ao85 y280.length co85)) (fun _ hk => hk.2) (.int .i64 (wrap64 (x259002_2 + t268)))))) (fun k_ hk0 => by have hk := And.intro (hk0.1.1.1.1.1.1.1) (And.intro (hk0.1.1.1.1.1.1.2.2.1) (And.intro (hk0.1.1.1.1.1.2) (And.intro (hk0.1.1.1.1.2) (And.intro (hk0.1.1.1.2) (And.intro (hk0.1.1.2) (hk0.1.2)))))); first | exact ⟨(.inr (hk.1)), hk.2⟩ | exact (.inr (hk)))⟩, ⟨by (with_reducible repeat (first | apply Kd.R_alloc | apply Kd.R_drewN | apply Kd.R_drew)); exact Kd.R_mono (Kd.R_far (p := ⟨gb258, 2, none⟩) (Kd.R_far (p := ⟨gb258, 1, none⟩) (Kd.R_far (p := ⟨gb258, 0, none⟩) (Kd.R_types HO276.out BK258.out z6_27) (fun _ hk => hk.2) (.slice Ao83 y274.length co83)) (fun _ hk => hk.2) (.slice Ao85 y280.length co85)) (fun _ hk => hk.2) (.int .i64 (wrap64 (x259002_2 + t268)))) (fun _ hk => ⟨hk.1.1.1, hk.1.2⟩)⟩, ⟨by (with_reducible repeat (first | apply Kd.R_alloc | apply Kd.R_drewN | apply Kd.R_drew)); exact Kd.R_mono (Kd.R_far (p := ⟨gb258, 2, none⟩) (Kd.R_far (p := ⟨gb258, 1, none⟩) (Kd.R_far (p := ⟨gb258, 0, none⟩) (Kd.R_types HO282.out BK258.out z6_27) (fun _ hk => hk.2) (.slice Ao83 y274.length co83)) (fun _ hk => hk.2) (.slice Ao85 y280.length co85)) (fun _ hk => hk.2) (.int .i64 (wrap64 (x259002_2 + t268)))) (fun _ hk => ⟨hk.1.1, hk.1.2.2.2.1⟩)⟩, ⟨z6_12⟩, ⟨z6_11⟩, ⟨z6_10⟩, ⟨by (with_reducible repeat (first | refine blk_drewN ?_ _ | refine blk_drew ?_ | refine blk_alloc ?_ _)); refine blk_put (cs := #[.slice Ao83 y274.length co83, .slice Ao85 y280.length co85, .int .i64 x259002_2]) ?_ 2 _ rfl; (with_reducible repeat (first | refine blk_drewN ?_ _ | refine blk_drew ?_ | refine blk_alloc ?_ _)); refine blk_put (cs := #[.slice Ao83 y274.length co83, .slice Ao71 x259001_2.length co71, .int .i64 x259002_2]) ?_ 1 _ rfl; (with_reducible repeat (first | refine blk_drewN ?_ _ | refine blk_drew ?_ | refine blk_alloc ?_ _)); refine blk_put (cs := #[.slice Ao70 x259000_2.length co70, .slice Ao71 x259001_2.length co71, .int .i64 x259002_2]) ?_ 0 _ rfl; (with_reducible repeat (first | refine blk_drewN ?_ _ | refine blk_drew ?_ | refine blk_alloc ?_ _)); exact BK258.out⟩, ⟨z6_1⟩⟩
           ·rw [if_neg c53] at H
            exact absurd H (by simp)
          ·rw [if_neg c52] at H
           exact absurd H (by simp)
         ·replace c51 := Bool.eq_false_iff.mpr c51
          subst c51
          have H1 : (some (([] : List Int), ([] : List Int), 0, false)) = some (r1, r2, r3, r4) := z6_46
          clear H
          have H := H1
          clear H1
          simp only [Option.some.injEq, Prod.mk.injEq] at H
          obtain ⟨rfl, rfl, rfl, rfl⟩ := H
          have p261 : 0 ≤ (x32_2 : Int) := of_decide_eq_true z6_47
          have q261 : x32_2 < (l2.length : Int) := of_decide_eq_true z6_47
          obtain ⟨ad261, e261, hx261_0⟩ := Kd.at_int HR2.out x32_2 p261 q261
          cases e261
          replace hx261_0 := (HB.out.cell (World.block_lt_of_cell? w _ hx261_0)).trans hx261_0
          replace p261 := eq_true p261
          replace q261 := eq_true q261
          try go_wp2
          have n0_ := z6_A (Kd.V_drew HO_256001.out)
          have n1_ := z6_A (Kd.R_drew HO_259000.out)
          have n2_ := z6_A (Kd.R_drew HO_259001.out)
          have n3_ := z6_A (blk_drew BK255.out)
          have n4_ := z6_A (blk_drew BK256.out)
          have n5_ := z6_A (blk_drew BK257.out)
          have n6_ := z6_A (blk_drew BK258.out)
          have n7_ := z6_A (below_drew1 HB.out)
          clear HO_256001
          clear HO_259000
          clear HO_259001
          clear BK255
          clear BK256
          clear BK257
          clear BK258
          clear HB
          have HO_256001 := n0_
          have HO_259000 := n1_
          have HO_259001 := n2_
          have BK255 := n3_
          have BK256 := n4_
          have BK257 := n5_
          have BK258 := n6_
          have HB := n7_
          clear n0_ n1_ n2_ n3_ n4_ n5_ n6_ n7_
          obtain ⟨Ao89, co89, eo89⟩ := Kd.V_slice HO_256001.out
          (first | subst eo89 | (injection eo89 with f1_ f2_ f3_; have f4_ := f1_.symm; have f5_ := f3_.symm; clear f1_ f2_ f3_; subst f4_; subst f5_))
          refine start_ (n := 9) (S := fun w' => w'.cell? ⟨gb256, 0, none⟩ = some (.int .i64 a1_0) ∧ w'.cell? ⟨gb256, 1, none⟩ = some (.int .i64 a1_1) ∧ w'.cell? ⟨gb256, 2, none⟩ = some (.int .i64 a1_2) ∧ w'.cell? ⟨gb255, 0, none⟩ = some (.int .i64 x256000_2) ∧ w'.cell? ⟨gb255, 1, none⟩ = some (.slice Ao89 x256001_2.length co89)) (ds := []) #[false, false, false, false, false, false, false, false, false] z6_19 rfl rfl ⟨(blk_cell BK256.out 0).trans rfl, (blk_cell BK256.out 1).trans rfl, (blk_cell BK256.out 2).trans rfl, (blk_cell BK255.out 0).trans rfl, (blk_cell BK255.out 1).trans rfl⟩ (fun hHeld => ?_); refine with_tabW impl_runRule.tab7 impl_runRule.bits7 (fun HT_ HW_ => ?_)
          generalize wr.drew = w88 at HO_256001 HO_259000 HO_259001 BK255 BK256 BK257 BK258 HB hHeld ⊢
          refine pure_ (i := 1) (N := some 37) (v := ?_) (a' := ?_) #[false, true, false, false, false, false, false, false, false] rfl rfl (any_of HT_.out z6_19) (fun _ _ _ h => h) (Or.inl ⟨z6_41, ?_⟩) ?_ ?_
          rotate_left
          ·intro w'
           go_simp
           with_reducible rfl
          rotate_left
          ·simp only [Act.put, List.setIfInBounds_toArray, List.set_cons_zero, List.set_cons_succ, i64_w, i32_w]
           rfl
          refine pure_ (i := 3) (N := some 39) (v := ?_) (a' := ?_) #[false, true, false, true, false, false, false, false, false] rfl rfl (any_of HT_.out z6_19) (fun _ _ _ h => h) (Or.inl ⟨z6_41, ?_⟩) ?_ ?_
          rotate_left
          ·intro w'
           go_simp
           with_reducible rfl
          rotate_left
          ·simp only [Act.put, List.setIfInBounds_toArray, List.set_cons_zero, List.set_cons_succ, i64_w, i32_w]
           rfl
          refine take_ (i := 0) (N := some 36) (v := ?_) (a' := ?_) #[true, true, false, true, false, false, false, false, false] rfl rfl (take_ofW HT_.out HW_.out z6_19) (fun _ _ _ h => h) (Or.inl ⟨z6_41, ?_⟩) hHeld ?_ ?_
          rotate_left
          ·rintro w' ⟨s0, s1, s2, s3, s4⟩
           go_simp
           with_reducible rfl
          rotate_left
          ·simp only [Act.put, List.setIfInBounds_toArray, List.set_cons_zero, List.set_cons_succ, i64_w, i32_w]
           rfl
          refine take_ (i := 2) (N := some 38) (v := ?_) (a' := ?_) #[true, true, true, true, false, false, false, false, false] rfl rfl (take_ofW HT_.out HW_.out z6_19) (fun _ _ _ h => h) (Or.inl ⟨z6_41, ?_⟩) hHeld ?_ ?_
          rotate_left
          ·rintro w' ⟨s0, s1, s2, s3, s4⟩
           go_simp
           with_reducible rfl
          rotate_left
          ·simp only [Act.put, List.setIfInBounds_toArray, List.set_cons_zero, List.set_cons_succ, i64_w, i32_w]
           rfl
          refine take_ (i := 4) (N := some 40) (v := ?_) (a' := ?_) #[true, true, true, true, true, false, false, false, false] rfl rfl (take_ofW HT_.out HW_.out z6_19) (fun _ _ _ h => h) (Or.inl ⟨z6_41, ?_⟩) hHeld ?_ ?_
          rotate_left
          ·rintro w' ⟨s0, s1, s2, s3, s4⟩
           go_simp
           with_reducible rfl
          rotate_left
          ·simp only [Act.put, List.setIfInBounds_toArray, List.set_cons_zero, List.set_cons_succ, i64_w, i32_w]
           rfl
          refine one_ (i := 5) (N := some 41) #[true, true, true, true, true, true, false, false, false] rfl rfl (one_of HT_.out z6_19) z6_27 (fun K hK => ?_)
          refine goes_ Try.func67 z6_19 rfl #[.slice Ao89 x256001_2.length co89] z6_41 rfl rfl z6_16 ?_
          with_reducible refine (impl_total.calls k2 _ _ x256001_2 t262 _ ?side1 ?side2 A48.out).mono ?_
          (case side1 => have zh := (Kd.V_reads' HO_256001.out).2.2; exact z6_C)
          (case side2 => exact (Kd.V_reads' HO_256001.out).2.1)
          rintro e w' ⟨rfl, ⟨nd, rfl⟩⟩
          refine ⟨_, rfl, ?_⟩
          refine hK.out _ _ ⟨(blk_cell BK256.out 0).trans rfl, (blk_cell BK256.out 1).trans rfl, (blk_cell BK256.out 2).trans rfl, (blk_cell BK255.out 0).trans rfl, (blk_cell BK255.out 1).trans rfl⟩ (fun hHeld => ?_)
          clear hK K
          refine norm_ (a' := ?_) ?_ ?_
          rotate_left
          ·show Act.put _ (some 41) _ = _
           simp only [Act.put, List.setIfInBounds_toArray, List.set_cons_zero, List.set_cons_succ, i64_w, i32_w]
           rfl
          refine pure_ (i := 6) (N := some 42) (v := ?_) (a' := ?_) #[true, true, true, true, true, true, true, false, false] rfl rfl (any_of HT_.out z6_19) (fun _ _ _ h => h) (Or.inl ⟨z6_41, ?_⟩) ?_ ?_
          rotate_left
          ·intro w'
           go_simp
           with_reducible rfl
          rotate_left
          ·simp only [Act.put, List.setIfInBounds_toArray, List.set_cons_zero, List.set_cons_succ, i64_w, i32_w]
           rfl
          refine one_ (i := 7) (N := some 43) #[true, true, true, true, true, true, true, true, false] rfl rfl (one_of HT_.out z6_19) z6_27 (fun K hK => ?_)
          refine goes_ Try.func95 z6_19 rfl #[.agg #[.int .i64 a1_0, .int .i64 a1_1, .int .i64 a1_2], .int .i64 (wrap64 (x256000_2 + t262))] z6_41 rfl rfl z6_16 ?_
          with_reducible refine (impl_Rule_order.calls k2 a1_0 a1_1 a1_2 (wrap64 (x256000_2 + t262)) t263 _ A49.out).mono ?_
          rintro e w90 ⟨rfl, hb⟩
          refine ⟨_, rfl, ?_⟩
          have n0_ := z6_A (Kd.V_below z6_17 hb)
          have n1_ := z6_A (Kd.R_below z6_9 hb)
          have n2_ := z6_A (Kd.R_below z6_7 hb)
          have n3_ := z6_A (blk_below (g := gb255) (o := .cells #[.int .i64 x256000_2, .slice Ao89 x256001_2.length co89] 30 (0, 0)) z6_3 hb)
          have n4_ := z6_A (blk_below (g := gb256) (o := .cells #[.int .i64 a1_0, .int .i64 a1_1, .int .i64 a1_2] 32 (0, 0)) z6_4 hb)
          have n5_ := z6_A (blk_below (g := gb257) (o := .cells #[.slice none 0 0, .slice none 0 0, .int .i64 x258002_2] 93 (0, 0)) z6_5 hb)
          have n6_ := z6_A (blk_below (g := gb258) (o := .cells #[u259000, u259001, .int .i64 x259002_2] 93 (0, 0)) z6_6 hb)
          have n7_ := z6_A (below_step z6_2 hb)
          clear HO_256001
          clear HO_259000
          clear HO_259001
          clear BK255
          clear BK256
          clear BK257
          clear BK258
          clear HB
          have HO_256001 := n0_
          have HO_259000 := n1_
          have HO_259001 := n2_
          have BK255 := n3_
          have BK256 := n4_
          have BK257 := n5_
          have BK258 := n6_
          have HB := n7_
          clear n0_ n1_ n2_ n3_ n4_ n5_ n6_ n7_
          (try clear hb)
          (try clear hb2)
          (try clear hk)
          (try clear hi)
          refine hK.out _ _ ⟨(blk_cell BK256.out 0).trans rfl, (blk_cell BK256.out 1).trans rfl, (blk_cell BK256.out 2).trans rfl, (blk_cell BK255.out 0).trans rfl, (blk_cell BK255.out 1).trans rfl⟩ (fun hHeld => ?_)
          clear hK K
          refine norm_ (a' := ?_) ?_ ?_
          rotate_left
          ·show Act.put _ (some 43) _ = _
           simp only [Act.put, List.setIfInBounds_toArray, List.set_cons_zero, List.set_cons_succ, i64_w, i32_w]
           rfl
          refine pure_ (i := 8) (N := some 11) (v := ?_) (a' := ?_) #[true, true, true, true, true, true, true, true, true] rfl rfl (any_of HT_.out z6_19) (fun _ _ _ h => h) (Or.inl ⟨z6_41, ?_⟩) ?_ ?_
          rotate_left
          ·intro w'
           go_simp
           with_reducible rfl
          rotate_left
          ·simp only [Act.put, List.setIfInBounds_toArray, List.set_cons_zero, List.set_cons_succ, i64_w, i32_w]
           rfl
          refine done_ (done_of HT_.out z6_19) ?_
          have hnb91 := NB255_256.out
          have hnc91 := NB256_255.out
          have hnb92 := NB255_257.out
          have hnc92 := NB257_255.out
          have hnb93 := NB255_258.out
          have hnc93 := NB258_255.out
          have hcz94_0 : w90.cell? ⟨gb255, 0, none⟩ = some (.int .i64 x256000_2) := (blk_cell BK255.out 0).trans rfl
          have hcz94_1 : w90.cell? ⟨gb255, 1, none⟩ = some (.slice Ao89 x256001_2.length co89) := (blk_cell BK255.out 1).trans rfl
          have hfz94_0 := blk_frozen BK255.out 0
          have hfz94_1 := blk_frozen BK255.out 1
          try go_wp2_with (first | ((with_reducible refine gate_callee (f := 76) rfl ?_); refine goesL_ (some 48) rfl rfl Try.func76 z6_19 rfl #[.agg #[.int .i64 x256000_2, .slice Ao89 x256001_2.length co89], .int .i64 t263, .int .i64 (rd l2 x32_2)] rfl z6_16 ?_; (with_reducible refine (impl_Flow_day.calls k2 x256000_2 _ _ x256001_2 t263 (rd l2 x32_2) t264 t265 t268 false _ ?side1 ?side2 A50.out).mono ?_); (case side1 => have zh := (Kd.V_reads' HO_256001.out).2.2; exact z6_C); (case side2 => exact (Kd.V_reads' HO_256001.out).2.1); rintro e w95 ⟨v266, rfl, ho0, hb⟩; refine ⟨_, rfl, ?_⟩; have n0_ := z6_A (Kd.V_elder' z6_17 (Kd.Q_base ho0) hb); have n1_ := z6_A (Kd.R_elder' z6_9 (Kd.Q_base ho0) hb); have n2_ := z6_A (Kd.R_elder' z6_7 (Kd.Q_base ho0) hb); have n3_ := z6_A (Kd.Q_lower (Kd.Q_new' (Kd.Q_new' (Kd.Q_newM (M := fun k_ => (w.heap.size ≤ k_)) ho0 (below_size z6_2) (fun k_ h_ => h_)) (Kd.R_lt z6_9)) (Kd.R_lt z6_7)) (below_size z6_2)); have n4_ := z6_A (blk_below (g := gb255) (o := .cells #[.int .i64 x256000_2, .slice Ao89 x256001_2.length co89] 30 (0, 0)) z6_3 hb); have n5_ := z6_A (blk_below (g := gb256) (o := .cells #[.int .i64 a1_0, .int .i64 a1_1, .int .i64 a1_2] 32 (0, 0)) z6_4 hb); have n6_ := z6_A (blk_below (g := gb257) (o := .cells #[.slice none 0 0, .slice none 0 0, .int .i64 x258002_2] 93 (0, 0)) z6_5 hb); have n7_ := z6_A (blk_below (g := gb258) (o := .cells #[u259000, u259001, .int .i64 x259002_2] 93 (0, 0)) z6_6 hb); have n8_ := z6_A (below_step z6_2 hb); clear HO_256001 HO_259000 HO_259001 BK255 BK256 BK257 BK258 HB; revert n0_ n1_ n2_ n3_ n4_ n5_ n6_ n7_ n8_; intro HO_256001 HO_259000 HO_259001 HO267 BK255 BK256 BK257 BK258 HB; (try clear hb); (try clear hb2); (try clear hk); (try clear hi); (try clear ho0)) | ((with_reducible refine gate_dst (N := 12) rfl ?_); (try (refine gate_guard z6_41 ?_; dsimp only)); refine box_event ?hg (N := 12) ?hd (cs := #[.int .i64 0, .slice none 0 0]) (t := 30) ?hr ?_; (case hd => rfl); (case hg => rfl); (case hr => first | (go_simp; done) | (go_simp; rfl)); intro gb270 hg w96 hbox hb; have n0_ := z6_A (Kd.V_below (Kd.V_elderB z6_17 gb270 (Nat.le_of_eq hg.symm)) hb); have n1_ := z6_A (Kd.R_below z6_9 hb); have n2_ := z6_A (Kd.R_below z6_7 hb); have n3_ := z6_A (Kd.Q_below z6_13 hb); have n4_ := z6_A (blk_below (g := gb255) (o := .cells #[.int .i64 x256000_2, .slice Ao89 x256001_2.length co89] 30 (0, 0)) z6_3 hb); have n5_ := z6_A (blk_below (g := gb256) (o := .cells #[.int .i64 a1_0, .int .i64 a1_1, .int .i64 a1_2] 32 (0, 0)) z6_4 hb); have n6_ := z6_A (blk_below (g := gb257) (o := .cells #[.slice none 0 0, .slice none 0 0, .int .i64 x258002_2] 93 (0, 0)) z6_5 hb); have n7_ := z6_A (blk_below (g := gb258) (o := .cells #[u259000, u259001, .int .i64 x259002_2] 93 (0, 0)) z6_6 hb); have n8_ := z6_A (below_step z6_2 hb); have n9_ := z6_A (hbox); have n10_ := z6_A ((z6_52 : w.heap.size ≤ gb270)); have n11_ := z6_A ((z6_52 : w.heap.size ≤ gb270)); have n12_ := z6_A ((by rw [hg]; exact Nat.ne_of_lt (blk_lt (g := gb255) (o := .cells #[.int .i64 x256000_2, .slice Ao89 x256001_2.length co89] 30 (0, 0)) z6_3) : gb255 ≠ gb270)); have n13_ := z6_A ((by rw [hg]; exact Nat.ne_of_gt (blk_lt (g := gb255) (o := .cells #[.int .i64 x256000_2, .slice Ao89 x256001_2.length co89] 30 (0, 0)) z6_3) : gb270 ≠ gb255)); have n14_ := z6_A ((z6_25 : gb256 ≠ gb270)); have n15_ := z6_A ((z6_26 : gb270 ≠ gb256)); have n16_ := z6_A ((z6_48 : gb257 ≠ gb270)); have n17_ := z6_A ((z6_49 : gb270 ≠ gb257)); have n18_ := z6_A ((z6_50 : gb258 ≠ gb270)); have n19_ := z6_A ((z6_51 : gb270 ≠ gb258)); clear HO_256001 HO_259000 HO_259001 HO267 BK255 BK256 BK257 BK258 HB; revert n0_ n1_ n2_ n3_ n4_ n5_ n6_ n7_ n8_ n9_ n10_ n11_ n12_ n13_ n14_ n15_ n16_ n17_ n18_ n19_; intro HO_256001 HO_259000 HO_259001 HO267 BK255 BK256 BK257 BK258 HB BK270 GW270 GE270 NB255_270 NB270_255 NB256_270 NB270_256 NB257_270 NB270_257 NB258_270 NB270_258; clear hb hbox hg; have hnb97 := NB270_255.out; have hnc97 := NB255_270.out; have hnb98 := NB270_256.out; have hnc98 := NB256_270.out; have hnb99 := NB270_257.out; have hnc99 := NB257_270.out; have hnb100 := NB270_258.out; have hnc100 := NB258_270.out; have hcz101_0 : w96.cell? ⟨gb270, 0, none⟩ = some (.int .i64 0) := (blk_cell BK270.out 0).trans rfl; have hcz101_1 : w96.cell? ⟨gb270, 1, none⟩ = some (.slice none 0 0) := (blk_cell BK270.out 1).trans rfl; have hfz101_0 := blk_frozen BK270.out 0; have hfz101_1 := blk_frozen BK270.out 1; obtain ⟨Ao102, co102, eo102, _⟩ := Kd.Q_slice HO267.out; subst eo102; have hnb103 := NB257_256.out; have hnc103 := NB256_257.out; have hnb104 := NB257_258.out; have hnc104 := NB258_257.out; have hcz105_0 : w96.cell? ⟨gb257, 0, none⟩ = some (.slice none 0 0) := (blk_cell BK257.out 0).trans rfl; have hcz105_1 : w96.cell? ⟨gb257, 1, none⟩ = some (.slice none 0 0) := (blk_cell BK257.out 1).trans rfl; have hcz105_2 : w96.cell? ⟨gb257, 2, none⟩ = some (.int .i64 x258002_2) := (blk_cell BK257.out 2).trans rfl; have hfz105_0 := blk_frozen BK257.out 0; have hfz105_1 := blk_frozen BK257.out 1; have hfz105_2 := blk_frozen BK257.out 2))
          refine bodyPost_ret (results_ct rfl _ _ gb257 93 #[.slice none 0 0, .slice none 0 0, .int .i64 0] (0, 0) _ rfl (by (with_reducible repeat (first | refine blk_drewN ?_ _ | refine blk_drew ?_ | refine blk_alloc ?_ _)); refine blk_put (cs := #[.slice none 0 0, .slice none 0 0, .int .i64 x258002_2]) ?_ 2 _ rfl; (with_reducible repeat (first | refine blk_drewN ?_ _ | refine blk_drew ?_ | refine blk_alloc ?_ _)); refine blk_put (cs := #[.slice none 0 0, .slice none 0 0, .int .i64 x258002_2]) ?_ 1 _ rfl; (with_reducible repeat (first | refine blk_drewN ?_ _ | refine blk_drew ?_ | refine blk_alloc ?_ _)); refine blk_put (cs := #[.slice none 0 0, .slice none 0 0, .int .i64 x258002_2]) ?_ 0 _ rfl; (with_reducible repeat (first | refine blk_drewN ?_ _ | refine blk_drew ?_ | refine blk_alloc ?_ _)); refine blk_far ?_ NB257_270.out _; (with_reducible repeat (first | refine blk_drewN ?_ _ | refine blk_drew ?_ | refine blk_alloc ?_ _)); refine blk_far ?_ NB257_270.out _; (with_reducible repeat (first | refine blk_drewN ?_ _ | refine blk_drew ?_ | refine blk_alloc ?_ _)); exact BK257.out) Try.underlying93 rfl z6_19) rfl ?_
          exact ⟨_, _, z6_36, z6_20, z6_20, z6_1⟩
        ·rw [if_neg c47] at H
         exact absurd H (by simp)
       ·rw [if_neg c46] at H
        exact absurd H (by simp)
      ·rw [if_neg c45] at H
       have c45b0 : decide (x32_2 < (l2.length : Int)) = false := decide_eq_false c45
       clear c45
       simp only [Option.some.injEq, Prod.mk.injEq] at H
       obtain ⟨rfl, rfl, rfl, rfl⟩ := H
       have hnb106 := NB258_255.out
       have hnc106 := NB255_258.out
       have hnb107 := NB258_256.out
       have hnc107 := NB256_258.out
       have hnb108 := NB258_257.out
       have hnc108 := NB257_258.out
       have hcz109_0 : wr.cell? ⟨gb258, 0, none⟩ = some (u259000) := (blk_cell BK258.out 0).trans rfl
       have hcz109_1 : wr.cell? ⟨gb258, 1, none⟩ = some (u259001) := (blk_cell BK258.out 1).trans rfl
       have hcz109_2 : wr.cell? ⟨gb258, 2, none⟩ = some (.int .i64 x259002_2) := (blk_cell BK258.out 2).trans rfl
       have hfz109_0 := blk_frozen BK258.out 0
       have hfz109_1 := blk_frozen BK258.out 1
       have hfz109_2 := blk_frozen BK258.out 2
       obtain ⟨Ao110, co110, eo110⟩ := Kd.R_slice HO_259000.out
       subst eo110
       have hnb111 := NB257_255.out
       have hnc111 := NB255_257.out
       have hnb112 := NB257_256.out
       have hnc112 := NB256_257.out
       have hcz113_0 : wr.cell? ⟨gb257, 0, none⟩ = some (.slice none 0 0) := (blk_cell BK257.out 0).trans rfl
       have hcz113_1 : wr.cell? ⟨gb257, 1, none⟩ = some (.slice none 0 0) := (blk_cell BK257.out 1).trans rfl
       have hcz113_2 : wr.cell? ⟨gb257, 2, none⟩ = some (.int .i64 x258002_2) := (blk_cell BK257.out 2).trans rfl
       have hfz113_0 := blk_frozen BK257.out 0
       have hfz113_1 := blk_frozen BK257.out 1
       have hfz113_2 := blk_frozen BK257.out 2
       obtain ⟨Ao114, co114, eo114⟩ := Kd.R_slice HO_259001.out
       subst eo114
       go_wp2
       refine bodyPost_ret (results_ct rfl _ _ gb257 93 #[.slice Ao110 x259000_2.length co110, .slice Ao114 x259001_2.length co114, .int .i64 x259002_2] (0, 0) _ rfl (by (with_reducible repeat (first | refine blk_drewN ?_ _ | refine blk_drew ?_ | refine blk_alloc ?_ _)); refine blk_put (cs := #[.slice Ao110 x259000_2.length co110, .slice Ao114 x259001_2.length co114, .int .i64 x258002_2]) ?_ 2 _ rfl; (with_reducible repeat (first | refine blk_drewN ?_ _ | refine blk_drew ?_ | refine blk_alloc ?_ _)); refine blk_put (cs := #[.slice Ao110 x259000_2.length co110, .slice none 0 0, .int .i64 x258002_2]) ?_ 1 _ rfl; (with_reducible repeat (first | refine blk_drewN ?_ _ | refine blk_drew ?_ | refine blk_alloc ?_ _)); refine blk_put (cs := #[.slice none 0 0, .slice none 0 0, .int .i64 x258002_2]) ?_ 0 _ rfl; (with_reducible repeat (first | refine blk_drewN ?_ _ | refine blk_drew ?_ | refine blk_alloc ?_ _)); exact BK257.out) Try.underlying93 rfl z6_19) rfl ?_
       exact ⟨_, _, z6_36, by (with_reducible repeat (first | apply Kd.R_alloc | apply Kd.R_drewN | apply Kd.R_drew)); exact Kd.R_mono (Kd.R_far (p := ⟨gb257, 2, none⟩) (Kd.R_far (p := ⟨gb257, 1, none⟩) (Kd.R_far (p := ⟨gb257, 0, none⟩) (Kd.R_types HO_259000.out BK257.out z6_27) (fun _ hk => hk.2) (.slice Ao110 x259000_2.length co110)) (fun _ hk => hk.2) (.slice Ao114 x259001_2.length co114)) (fun _ hk => hk.2) (.int .i64 x259002_2)) (fun _ hk => ⟨hk.1.1, hk.1.2⟩), by (with_reducible repeat (first | apply Kd.R_alloc | apply Kd.R_drewN | apply Kd.R_drew)); exact Kd.R_mono (Kd.R_far (p := ⟨gb257, 2, none⟩) (Kd.R_far (p := ⟨gb257, 1, none⟩) (Kd.R_far (p := ⟨gb257, 0, none⟩) (Kd.R_types HO_259001.out BK257.out z6_27) (fun _ hk => hk.2) (.slice Ao110 x259000_2.length co110)) (fun _ hk => hk.2) (.slice Ao114 x259001_2.length co114)) (fun _ hk => hk.2) (.int .i64 x259002_2)) (fun _ hk => ⟨hk.1.1, hk.1.2⟩), z6_2⟩

end Go.Proofs.Ytfgclhojgaaepaa.PFnExactRunRule
