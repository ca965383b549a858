-- A text of this session (its program hook.py, over the kit's print.py): not a print of print.sh
-- THIN: one blank for two
import Derived.Test.YtfgclhojgaaepaaPFnDaysx0
import Derived.Test.YtfgclhojgaaepaaPFnDaysx1
import Derived.Test.YtfgclhojgaaepaaPFnDaysx2
import Derived.Test.YtfgclhojgaaepaaPFnDaysx3
import Derived.Test.YtfgclhojgaaepaaPFnDaysx4
import Derived.Test.YtfgclhojgaaepaaPFnDaysx5
import Derived.Test.YtfgclhojgaaepaaPFnDaysx6
import Derived.Test.YtfgclhojgaaepaaPFnDaysx7
namespace Go.Proofs.Ytfgclhojgaaepaa.PFnDays
open Go.RowKit Go.Proofs.YtfgclhojgaaepaaW.PrintWords Go.Proofs.YtfgclhojgaaepaaW.PrintLast Go.Proofs.YtfgclhojgaaepaaW.PrintMore
attribute [local go_sem] max2_int min2_int max_two min_two max_three min_three max_four min_four   -- for this text's walks alone
set_option linter.unusedVariables false
set_option linter.unusedSimpArgs false

-- SQUEEZED
abbrev z8_S (k : Nat) (A : Option Addr) (n c : Nat) : Prop := some k ≠ (.slice A n c : Value).ownBlock
abbrev z8_V (k : Nat) (v : Value) : Prop := some k ≠ v.ownBlock
theorem z8_A {p : Prop} (h : p) : Aside0 p := Aside0.mk h
theorem z8_C {p : Prop} (h : p := by repeat (first | exact zh | (with_reducible refine Kd.C_alloc ?_ _) | (with_reducible refine Kd.C_drewN ?_ _) | (with_reducible refine Kd.C_drew ?_))) : p := h
theorem z8_1 {p : Prop} (h : p := by repeat (first | (with_reducible first | exact HB.out | apply below_alloc | apply pw_below_drewN | apply below_drew1 | refine below_set ?_ GE427.out | refine below_set ?_ GE433.out | refine below_set ?_ GE439.out) | exact HB.out)) : p := h
theorem z8_2 {p : Prop} (h : p := by (with_reducible repeat (first | refine blk_drewN ?_ _ | refine blk_drew ?_ | refine blk_alloc ?_ _)); exact BK427.out) : p := h
theorem z8_3 {p : Prop} (h : p := by (with_reducible repeat (first | refine blk_drewN ?_ _ | refine blk_drew ?_ | refine blk_alloc ?_ _)); exact BK433.out) : p := h
theorem z8_4 {p : Prop} (h : p := by (with_reducible repeat (first | refine blk_drewN ?_ _ | refine blk_drew ?_ | refine blk_alloc ?_ _)); exact BK439.out) : p := h
theorem z8_5 {p : Prop} (h : p := by (with_reducible repeat (first | apply Kd.Q_alloc | apply Kd.Q_drewN | apply Kd.Q_drew)); exact HO_440001.out) : p := h
theorem z8_6 {p : Prop} (h : p := by (with_reducible repeat (first | apply Kd.Q_alloc | apply Kd.Q_drewN | apply Kd.Q_drew)); exact HO_434001.out) : p := h
theorem z8_7 {p : Prop} (h : p := by (with_reducible repeat (first | apply Kd.Q_alloc | apply Kd.Q_drewN | apply Kd.Q_drew)); exact HO_428001.out) : p := h
theorem z8_8 {p : Prop} (h : p := by (try simp only [List.map_toArray, List.map_cons, List.map_nil]); first | done | rfl | (simp only [List.length_drop, List.length_take]; rfl)) : p := h
theorem z8_9 {p : Prop} (h : p := by (with_reducible repeat (first | apply Kd.R_alloc | apply Kd.R_drewN | apply Kd.R_drew)); exact HO_26.out) : p := h
theorem z8_10 {p : Prop} (h : p := by first | rfl | (simp [errW_none, errW_some] <;> rfl) | (simp [*, errW_none, errW_some] <;> rfl)) : p := h
theorem z8_11 {p : Prop} (h : p := by (with_reducible repeat (first | apply Kd.R_alloc | apply Kd.R_drewN | apply Kd.R_drew)); exact HO_16.out) : p := h
theorem z8_12 {p : Prop} (h : p := by (with_reducible repeat (first | refine blk_drewN ?_ _ | refine blk_drew ?_ | refine blk_alloc ?_ _)); refine blk_put (cs := #[.int .i64 t434, .slice none 0 0]) ?_ 1 _ rfl; (with_reducible repeat (first | refine blk_drewN ?_ _ | refine blk_drew ?_ | refine blk_alloc ?_ _)); refine blk_put (cs := #[.int .i64 0, .slice none 0 0]) ?_ 0 _ rfl; (with_reducible repeat (first | refine blk_drewN ?_ _ | refine blk_drew ?_ | refine blk_alloc ?_ _)); exact BK439.out) : p := h
theorem z8_13 {p : Prop} (h : p := by first | rfl | (simp; done) | (simp [*]; done)) : p := h
theorem z8_14 {p : Prop} (h : p := by (with_reducible repeat (first | apply Kd.R_alloc | apply Kd.R_drewN | apply Kd.R_drew)); exact HO_31.out) : p := h
theorem z8_15 {p : Prop} (h : p := by repeat (first | (with_reducible first | exact HB.out | apply below_alloc | apply pw_below_drewN | apply below_drew1 | refine below_set ?_ GE427.out | refine below_set ?_ GE433.out) | exact HB.out)) : p := h
theorem z8_16 {p : Prop} (h : p := by (with_reducible repeat (first | refine blk_drewN ?_ _ | refine blk_drew ?_ | refine blk_alloc ?_ _)); refine blk_far ?_ NB433_439.out _; (with_reducible repeat (first | refine blk_drewN ?_ _ | refine blk_drew ?_ | refine blk_alloc ?_ _)); refine blk_far ?_ NB433_439.out _; (with_reducible repeat (first | refine blk_drewN ?_ _ | refine blk_drew ?_ | refine blk_alloc ?_ _)); exact BK433.out) : p := h
theorem z8_17 {p : Prop} (h : p := by (with_reducible repeat (first | refine blk_drewN ?_ _ | refine blk_drew ?_ | refine blk_alloc ?_ _)); refine blk_far ?_ NB427_439.out _; (with_reducible repeat (first | refine blk_drewN ?_ _ | refine blk_drew ?_ | refine blk_alloc ?_ _)); refine blk_far ?_ NB427_439.out _; (with_reducible repeat (first | refine blk_drewN ?_ _ | refine blk_drew ?_ | refine blk_alloc ?_ _)); exact BK427.out) : p := h
theorem z8_18 {p : Prop} (h : p := by (with_reducible repeat (first | apply Kd.R_alloc | apply Kd.R_drewN | apply Kd.R_drew)); exact Kd.R_mono (Kd.R_far (p := ⟨gb439, 1, none⟩) (Kd.R_far (p := ⟨gb439, 0, none⟩) (Kd.R_types HO437.out BK439.out (by decide)) (fun _ hk => hk.2) (.int .i64 t434)) (fun _ hk => hk.2) (.slice Ao23 t435.length co23)) (fun _ hk => ⟨hk.1.1.2, hk.1.2⟩)) : p := h
theorem z8_19 {p : Prop} (h : p := by (with_reducible repeat (first | apply Kd.R_alloc | apply Kd.R_drewN | apply Kd.R_drew)); exact Kd.R_mono (Kd.R_far (p := ⟨gb439, 1, none⟩) (Kd.R_far (p := ⟨gb439, 0, none⟩) (Kd.R_types HO424.out BK439.out (by decide)) (fun _ hk => hk.2) (.int .i64 t434)) (fun _ hk => hk.2) (.slice Ao23 t435.length co23)) (fun _ hk => ⟨hk.1.1.2, hk.1.2⟩)) : p := h
theorem z8_20 {p : Prop} (h : p := by (with_reducible repeat (first | apply Kd.Q_alloc | apply Kd.Q_drewN | apply Kd.Q_drew)); exact Kd.Q_mono (Kd.Q_far (p := ⟨gb439, 1, none⟩) (Kd.Q_far (p := ⟨gb439, 0, none⟩) (Kd.Q_types HO431.out BK439.out (by decide)) (fun _ hk => hk.2) (.int .i64 t434)) (fun _ hk => hk.2) (.slice Ao23 t435.length co23)) (fun _ hk => ⟨hk.1.1.2, hk.1.2⟩)) : p := h
theorem z8_21 {p : Prop} (h : p := by repeat (first | (with_reducible first | exact HB.out | apply below_alloc | apply pw_below_drewN | apply below_drew1) | exact HB.out)) : p := h
theorem z8_22 {p : Prop} (h : p := by rw [if_neg (show ¬ (false = true) by decide)] at H; exact H) : p := h
theorem z8_23 {p : Prop} (h : p := by repeat (first | (with_reducible first | exact HB.out | apply below_alloc | apply pw_below_drewN | apply below_drew1 | refine below_set ?_ GE427.out) | exact HB.out)) : p := h
theorem z8_24 {p : Prop} (h : p := by (with_reducible repeat (first | apply Kd.R_alloc | apply Kd.R_drewN | apply Kd.R_drew)); exact (Kd.R_mono (Kd.R_far (p := ⟨gb433, 1, none⟩) (Kd.R_far (p := ⟨gb433, 0, none⟩) (Kd.R_types HO424.out BK433.out (by decide)) (fun _ hk => hk.2) (.int .i64 t428)) (fun _ hk => hk.2) (.slice Ao16 t429.length co16)) (fun _ h_ => h_.1))) : p := h
theorem z8_25 {p : Prop} (h : p := by (with_reducible repeat (first | apply Kd.R_alloc | apply Kd.R_drewN | apply Kd.R_drew)); exact (Kd.R_mono (Kd.R_far (p := ⟨gb427, 1, none⟩) (Kd.R_far (p := ⟨gb427, 0, none⟩) (Kd.R_types HO424.out BK427.out (by decide)) (fun _ hk => hk.2) (.int .i64 t421)) (fun _ hk => hk.2) (.slice Ao11 t422.length co11)) (fun _ h_ => h_.1))) : p := h
theorem z8_26 {p : Prop} (h : p := by have := HJ6.out; have := HJ39.out; have := HJ64.out; have := HJ95.out; have := HJ106.out; have := HK6.out; have := HK7.out; omega) : p := h
theorem z8_27 {p : Prop} (h : p := by kernel_rfl) : p := h
theorem z8_28 {p : Prop} (h : p := by (with_reducible repeat (first | apply Kd.Q_alloc | apply Kd.Q_drewN | apply Kd.Q_drew)); exact Kd.Q_mono HO_440001.out (fun _ hk => ⟨hk.1.2, ⟨hk.1.1.2.1, hk.1.1.2.2⟩⟩)) : p := h
theorem z8_29 {p : Prop} (h : p := by (with_reducible repeat (first | apply Kd.Q_alloc | apply Kd.Q_drewN | apply Kd.Q_drew)); exact Kd.Q_mono HO_434001.out (fun _ hk => ⟨hk.1.2, ⟨hk.1.1.2.1, hk.1.1.2.2⟩⟩)) : p := h
theorem z8_30 {p : Prop} (h : p := by (with_reducible repeat (first | apply Kd.Q_alloc | apply Kd.Q_drewN | apply Kd.Q_drew)); exact Kd.Q_mono HO_428001.out (fun _ hk => ⟨hk.1.2, ⟨hk.1.1.2.1, hk.1.1.2.2⟩⟩)) : p := h
theorem z8_31 {p : Prop} (h : p := by rw [if_pos rfl] at H; exact H) : p := h
theorem z8_32 {p : Prop} (h : p := by (with_reducible repeat (first | apply Kd.Q_alloc | apply Kd.Q_drewN | apply Kd.Q_drew)); exact (Kd.Q_mono (Kd.Q_far (p := ⟨gb433, 1, none⟩) (Kd.Q_far (p := ⟨gb433, 0, none⟩) (Kd.Q_types HO431.out BK433.out (by decide)) (fun _ hk => hk.2) (.int .i64 t428)) (fun _ hk => hk.2) (.slice Ao16 t429.length co16)) (fun _ h_ => h_.1))) : p := h
theorem z8_33 {p : Prop} (h : p := by (with_reducible repeat (first | apply Kd.R_alloc | apply Kd.R_drewN | apply Kd.R_drew)); exact Kd.R_mono HO463.out (fun _ hk => ⟨hk.1.1.1.2, ⟨hk.1.1.2, hk.1.2⟩⟩)) : p := h
theorem z8_34 {p : Prop} (h : p := by (with_reducible repeat (first | apply Kd.Q_alloc | apply Kd.Q_drewN | apply Kd.Q_drew)); exact Kd.Q_mono HO_440001.out (fun _ hk => ⟨hk.1, ⟨hk.2.2.1, hk.2.2.2⟩⟩)) : p := h
theorem z8_35 {p : Prop} (h : p := by (with_reducible repeat (first | apply Kd.Q_alloc | apply Kd.Q_drewN | apply Kd.Q_drew)); exact Kd.Q_mono HO_434001.out (fun _ hk => ⟨hk.1, ⟨hk.2.2.1, hk.2.2.2⟩⟩)) : p := h
theorem z8_36 {p : Prop} (h : p := by (with_reducible repeat (first | apply Kd.Q_alloc | apply Kd.Q_drewN | apply Kd.Q_drew)); exact Kd.Q_mono HO_428001.out (fun _ hk => ⟨hk.1, ⟨hk.2.2.1, hk.2.2.2⟩⟩)) : p := h
theorem z8_37 {p : Prop} (h : p := by (with_reducible repeat (first | apply Kd.R_alloc | apply Kd.R_drewN | apply Kd.R_drew)); exact Kd.R_mono HO_26.out (fun _ hk => ⟨hk.2.1, ⟨hk.2.2.1, hk.2.2.2⟩⟩)) : p := h
theorem z8_38 {p : Prop} (h : p := by (with_reducible repeat (first | apply Kd.Q_alloc | apply Kd.Q_drewN | apply Kd.Q_drew)); exact Kd.Q_mono HO_440001.out (fun _ hk => ⟨hk.2, ⟨hk.1.1, hk.1.2⟩⟩)) : p := h
theorem z8_39 {p : Prop} (h : p := by (with_reducible repeat (first | apply Kd.Q_alloc | apply Kd.Q_drewN | apply Kd.Q_drew)); exact Kd.Q_mono HO_434001.out (fun _ hk => ⟨hk.2, ⟨hk.1.1, hk.1.2⟩⟩)) : p := h
theorem z8_40 {p : Prop} (h : p := by (with_reducible repeat (first | apply Kd.Q_alloc | apply Kd.Q_drewN | apply Kd.Q_drew)); exact Kd.Q_mono HO_428001.out (fun _ hk => ⟨hk.2, ⟨hk.1.1, hk.1.2⟩⟩)) : p := h
theorem z8_41 {p : Prop} (h : p := by (with_reducible repeat (first | apply Kd.R_alloc | apply Kd.R_drewN | apply Kd.R_drew)); exact Kd.R_mono HO453.out (fun _ hk => ⟨hk.1.1.2, ⟨hk.1.2, hk.2⟩⟩)) : p := h
theorem z8_42 {p : Prop} (h : p := by have := HJ6.out; have := HJ39.out; have := HJ64.out; have := HJ95.out; first | omega | exact Nat.le_refl _) : p := h
theorem z8_43 {p : Prop} (h : p := by have := HJ6.out; first | omega | exact Nat.le_refl _) : p := h
theorem z8_44 {p : Prop} (h : p := by (with_reducible repeat (first | apply Kd.R_alloc | apply Kd.R_drewN | apply Kd.R_drew)); exact HO424.out) : p := h
theorem z8_45 {p : Prop} (h : p := by have := HJ6.out; have := HJ39.out; have := HJ64.out; first | omega | exact Nat.le_refl _) : p := h
theorem z8_46 {p : Prop} (h : p := by (with_reducible repeat (first | apply Kd.Q_alloc | apply Kd.Q_drewN | apply Kd.Q_drew)); exact Kd.Q_mono HO_440001.out (fun _ hk => ⟨hk.1.1, ⟨hk.2, ⟨hk.1.2.1, hk.1.2.2⟩⟩⟩)) : p := h
theorem z8_47 {p : Prop} (h : p := by (with_reducible repeat (first | apply Kd.Q_alloc | apply Kd.Q_drewN | apply Kd.Q_drew)); exact Kd.Q_mono HO_434001.out (fun _ hk => ⟨hk.1.1, ⟨hk.2, ⟨hk.1.2.1, hk.1.2.2⟩⟩⟩)) : p := h
theorem z8_48 {p : Prop} (h : p := by (with_reducible repeat (first | apply Kd.Q_alloc | apply Kd.Q_drewN | apply Kd.Q_drew)); exact Kd.Q_mono HO_428001.out (fun _ hk => ⟨hk.1.1, ⟨hk.2, ⟨hk.1.2.1, hk.1.2.2⟩⟩⟩)) : p := h
theorem z8_49 {p : Prop} (h : p := by (with_reducible repeat (first | apply Kd.R_alloc | apply Kd.R_drewN | apply Kd.R_drew)); exact Kd.R_mono HO_26.out (fun _ hk => ⟨hk.2, ⟨hk.1.1, ⟨hk.1.2.1, hk.1.2.2⟩⟩⟩)) : p := h
theorem z8_50 {p : Prop} (h : p := by rw [hg]; exact Nat.ne_of_lt (blk_lt (g := gb427) (o := .cells #[.int .i64 t421, .slice Ao11 t422.length co11] 30 (0, 0)) z8_2)) : p := h
theorem z8_51 {p : Prop} (h : p := by rw [hg]; exact Nat.ne_of_gt (blk_lt (g := gb427) (o := .cells #[.int .i64 t421, .slice Ao11 t422.length co11] 30 (0, 0)) z8_2)) : p := h
theorem z8_52 {p : Prop} (h : p := by (with_reducible repeat (first | apply Kd.R_alloc | apply Kd.R_drewN | apply Kd.R_drew)); exact HO491.out) : p := h
theorem z8_53 {p : Prop} (h : p := by (with_reducible repeat (first | apply Kd.R_alloc | apply Kd.R_drewN | apply Kd.R_drew)); exact HO473.out) : p := h
theorem z8_54 {p : Prop} (h : p := by (with_reducible repeat (first | apply Kd.R_alloc | apply Kd.R_drewN | apply Kd.R_drew)); exact HO463.out) : p := h
theorem z8_55 {p : Prop} (h : p := by (with_reducible repeat (first | apply Kd.R_alloc | apply Kd.R_drewN | apply Kd.R_drew)); exact HO453.out) : p := h
theorem z8_56 {p : Prop} (h : p := by (with_reducible repeat (first | apply Kd.Q_alloc | apply Kd.Q_drewN | apply Kd.Q_drew)); exact HO431.out) : p := h

/-! ### laws_FnDays: function 6 -/
mutual
def laws_FnDays.j0 : Nat → List Int → Int → Int → Bool → Bool → Int → List Int → Int → List Int → Option (Bool)
 | 0, _, _, _, _, _, _, _, _, _ => none
 | k + 1, x0, x4, x5, x7, x81, x428000, x428001, x434000, x434001 => if x81 = true then (some false) else ((impl_PositionOf.f k x428000 x428001).bind fun bt441 => ((spec_PositionOf.f k x428000 x428001).bind fun bt443 => (if bt441.1 = bt443.1 then (if (bt441.2 != bt443.2) = true then (laws_FnDays.j1 k x0 x4 x5 x7 bt441.1 true x428000 x428001 x434000 x434001) else ((impl_IsFlow.f k x428000 x428001).bind fun t445 => (if (bt441.2 != t445) = true then (laws_FnDays.j1 k x0 x4 x5 x7 bt441.1 true x428000 x428001 x434000 x434001) else (if x7 = true then (laws_FnDays.j1 k x0 x4 x5 x7 bt441.1 (!bt441.2) x428000 x428001 x434000 x434001) else (laws_FnDays.j1 k x0 x4 x5 x7 bt441.1 false x428000 x428001 x434000 x434001))))) else (laws_FnDays.j1 k x0 x4 x5 x7 bt441.1 true x428000 x428001 x434000 x434001))))
def laws_FnDays.j1 : Nat → List Int → Int → Int → Bool → Int → Bool → Int → List Int → Int → List Int → Option (Bool)
 | 0, _, _, _, _, _, _, _, _, _, _ => none
 | k + 1, x0, x4, x5, x7, x10, x112, x428000, x428001, x434000, x434001 => if x112 = true then (some false) else (if x7 = true then ((impl_PositionOf.f k x434000 x434001).bind fun bt446 => (if bt446.2 = true then (if bt446.1 = (wrap64 ((wrap64 (x10 + x4)) - x5)) then (if (x434001.length : Int) = (x428001.length : Int) then (laws_FnDays.j2 k x0) else (some false)) else (some false)) else (some false))) else (laws_FnDays.j2 k x0))
def laws_FnDays.j2 : Nat → List Int → Option (Bool)
 | 0, _ => none
 | k + 1, x0 => (spec_DrawBestUpTo.f k x0).bind fun bt448 => ((impl_BestUpTo.f k bt448.1 bt448.2.1 bt448.2.2.1 bt448.2.2.2).bind fun bt454 => ((spec_BestUpTo.f k bt448.1 bt448.2.1 bt448.2.2.1 bt448.2.2.2).bind fun bt457 => (if bt454.1 = bt457.1 then (if bt454.2.1 = bt457.2.1 then (laws_FnDays.j3 k x0 bt448.1 bt448.2.1 bt448.2.2.1 bt448.2.2.2 bt454.1 bt454.2.1 bt454.2.2 (bt454.2.2 != bt457.2.2)) else (laws_FnDays.j3 k x0 bt448.1 bt448.2.1 bt448.2.2.1 bt448.2.2.2 bt454.1 bt454.2.1 bt454.2.2 true)) else (laws_FnDays.j3 k x0 bt448.1 bt448.2.1 bt448.2.2.1 bt448.2.2.2 bt454.1 bt454.2.1 bt454.2.2 true))))
def laws_FnDays.j3 : Nat → List Int → List Int → Int → Int → Int → Int → Int → Bool → Bool → Option (Bool)
 | 0, _, _, _, _, _, _, _, _, _ => none
 | k + 1, x0, x16, x17, x18, x19, x20, x21, x22, x176 => if x176 = true then (some false) else (if x22 = true then ((impl_LeadNeeds.f k x16 x17).bind fun bt460 => ((spec_LeadNeeds.f k x16 x17).bind fun bt464 => (if bt460.2 = true then (if bt464.2 = true then ((laws_rInts.f k bt460.1 bt464.1).bind fun t468 => (laws_FnDays.j4 k x0 x18 x19 x20 x21 bt460.1 (!t468))) else (laws_FnDays.j4 k x0 x18 x19 x20 x21 bt460.1 true)) else (laws_FnDays.j4 k x0 x18 x19 x20 x21 bt460.1 true)))) else ((spec_DrawStockCost.f k x0).bind fun bt487 => ((impl_StockCost.f k bt487.1 bt487.2.1 bt487.2.2).bind fun bt492 => ((spec_StockCost.f k bt487.1 bt487.2.1 bt487.2.2).bind fun bt494 => (if bt492.1 = bt494.1 then (some (bt492.2 == bt494.2)) else (some false))))))
def laws_FnDays.j4 : Nat → List Int → Int → Int → Int → Int → List Int → Bool → Option (Bool)
 | 0, _, _, _, _, _, _, _ => none
 | k + 1, x0, x18, x19, x20, x21, x26, x201 => if x201 = true then (some false) else (laws_FnDays.l0 k x0 x18 x19 x20 x21 x26 0)
def laws_FnDays.l0 : Nat → List Int → Int → Int → Int → Int → List Int → Int → Option (Bool)
 | 0, _, _, _, _, _, _, _ => none
 | k + 1, x0, x18, x19, x20, x21, x26, x30 => if x30 ≤ 200 then (laws_FnDays.l1 k x0 x18 x19 x20 x21 x26 x30 (([] : List Int)) 0) else ((spec_DrawStockCost.f k x0).bind fun bt469 => ((impl_StockCost.f k bt469.1 bt469.2.1 bt469.2.2).bind fun bt474 => ((spec_StockCost.f k bt469.1 bt469.2.1 bt469.2.2).bind fun bt476 => (if bt474.1 = bt476.1 then (some (bt474.2 == bt476.2)) else (some false)))))
def laws_FnDays.l1 : Nat → List Int → Int → Int → Int → Int → List Int → Int → List Int → Int → Option (Bool)
 | 0, _, _, _, _, _, _, _, _, _ => none
 | k + 1, x0, x18, x19, x20, x21, x26, x30, x31, x32 => if x32 < (x26.length : Int) then (if 0 ≤ x32 then (if x31.length < 17592186044416 then (laws_FnDays.l1 k x0 x18 x19 x20 x21 x26 x30 (x31 ++ [wrap64 (x30 - (rd x26 x32))]) (wrap64 (x32 + 1))) else (none)) else (none)) else ((impl_StockCost.f k x31 x18 x19).bind fun bt485 => (if bt485.2 = true then (if bt485.1 < x21 then (some false) else (if x30 = x20 then (if bt485.1 = x21 then (if x30 < x20 then (some false) else (laws_FnDays.l0 k x0 x18 x19 x20 x21 x26 (wrap64 (x30 + 1)))) else (some false)) else (if x30 < x20 then (if bt485.1 = x21 then (some false) else (laws_FnDays.l0 k x0 x18 x19 x20 x21 x26 (wrap64 (x30 + 1)))) else (laws_FnDays.l0 k x0 x18 x19 x20 x21 x26 (wrap64 (x30 + 1)))))) else (some false)))
end
def laws_FnDays.f (k : Nat) (l0 : List Int) : Option (Bool) := (laws_rBig.f l0).bind fun t420 => (if t420 = true then (some true) else ((spec_DrawDayOf.f k l0).bind fun bt421 => ((impl_DayOf.f k bt421.1 bt421.2.1 bt421.2.2.1 bt421.2.2.2).bind fun bt428 => ((spec_DayOf.f k bt421.1 bt421.2.1 bt421.2.2.1 bt421.2.2.2).bind fun bt434 => (if (bt428.2.2 != bt434.2.2) = true then (laws_FnDays.j0 k l0 bt421.2.2.1 bt421.2.2.2 bt428.2.2 true bt421.1 bt421.2.1 bt428.1 bt428.2.1) else (if bt428.1 = bt434.1 then ((laws_rInts.f k bt428.2.1 bt434.2.1).bind fun t440 => (laws_FnDays.j0 k l0 bt421.2.2.1 bt421.2.2.2 bt428.2.2 (!t440) bt421.1 bt421.2.1 bt428.1 bt428.2.1)) else (laws_FnDays.j0 k l0 bt421.2.2.1 bt421.2.2.2 bt428.2.2 true bt421.1 bt421.2.1 bt428.1 bt428.2.1)))))))
theorem laws_FnDays.mono_l : ∀ k, (∀ y0 y1 y2 y3 y4 y5 y6 y7 y8, LeO (laws_FnDays.j0 k y0 y1 y2 y3 y4 y5 y6 y7 y8) (laws_FnDays.j0 (k + 1) y0 y1 y2 y3 y4 y5 y6 y7 y8)) ∧ (∀ y0 y1 y2 y3 y4 y5 y6 y7 y8 y9, LeO (laws_FnDays.j1 k y0 y1 y2 y3 y4 y5 y6 y7 y8 y9) (laws_FnDays.j1 (k + 1) y0 y1 y2 y3 y4 y5 y6 y7 y8 y9)) ∧ (∀ y0, LeO (laws_FnDays.j2 k y0) (laws_FnDays.j2 (k + 1) y0)) ∧ (∀ y0 y1 y2 y3 y4 y5 y6 y7 y8, LeO (laws_FnDays.j3 k y0 y1 y2 y3 y4 y5 y6 y7 y8) (laws_FnDays.j3 (k + 1) y0 y1 y2 y3 y4 y5 y6 y7 y8)) ∧ (∀ y0 y1 y2 y3 y4 y5 y6, LeO (laws_FnDays.j4 k y0 y1 y2 y3 y4 y5 y6) (laws_FnDays.j4 (k + 1) y0 y1 y2 y3 y4 y5 y6)) ∧ (∀ y0 y1 y2 y3 y4 y5 y6, LeO (laws_FnDays.l0 k y0 y1 y2 y3 y4 y5 y6) (laws_FnDays.l0 (k + 1) y0 y1 y2 y3 y4 y5 y6)) ∧ (∀ y0 y1 y2 y3 y4 y5 y6 y7 y8, LeO (laws_FnDays.l1 k y0 y1 y2 y3 y4 y5 y6 y7 y8) (laws_FnDays.l1 (k + 1) y0 y1 y2 y3 y4 y5 y6 y7 y8))
 | 0 => ⟨fun _ _ _ _ _ _ _ _ _ r h => by simp [laws_FnDays.j0] at h, fun _ _ _ _ _ _ _ _ _ _ r h => by simp [laws_FnDays.j1] at h, fun _ r h => by simp [laws_FnDays.j2] at h, fun _ _ _ _ _ _ _ _ _ r h => by simp [laws_FnDays.j3] at h, fun _ _ _ _ _ _ _ r h => by simp [laws_FnDays.j4] at h, fun _ _ _ _ _ _ _ r h => by simp [laws_FnDays.l0] at h, fun _ _ _ _ _ _ _ _ _ r h => by simp [laws_FnDays.l1] at h⟩
 | k + 1 => by
  obtain ⟨ih0, ih1, ih2, ih3, ih4, ih5, ih6⟩ := laws_FnDays.mono_l k
  refine ⟨?_, ?_, ?_, ?_, ?_, ?_, ?_⟩
  ·intro y0 y1 y2 y3 y4 y5 y6 y7 y8
   unfold laws_FnDays.j0
   repeat' first
   | (with_reducible exact ih0 _ _ _ _ _ _ _ _ _)
   | (with_reducible exact ih1 _ _ _ _ _ _ _ _ _ _)
   | (with_reducible exact ih2 _)
   | (with_reducible exact ih3 _ _ _ _ _ _ _ _ _)
   | (with_reducible exact ih4 _ _ _ _ _ _ _)
   | (with_reducible exact ih5 _ _ _ _ _ _ _)
   | (with_reducible exact ih6 _ _ _ _ _ _ _ _ _)
   | (with_reducible exact impl_BestUpTo.mono _ _ _ _ _)
   | (with_reducible exact impl_DayOf.mono _ _ _ _ _)
   | (with_reducible exact impl_IsFlow.mono _ _ _)
   | (with_reducible exact impl_LeadNeeds.mono _ _ _)
   | (with_reducible exact impl_PositionOf.mono _ _ _)
   | (with_reducible exact impl_StockCost.mono _ _ _ _)
   | (with_reducible exact laws_rInts.mono _ _ _)
   | (with_reducible exact spec_BestUpTo.mono _ _ _ _ _)
   | (with_reducible exact spec_DayOf.mono _ _ _ _ _)
   | (with_reducible exact spec_DrawBestUpTo.mono _ _)
   | (with_reducible exact spec_DrawDayOf.mono _ _)
   | (with_reducible exact spec_DrawStockCost.mono _ _)
   | (with_reducible exact spec_LeadNeeds.mono _ _ _)
   | (with_reducible exact spec_PositionOf.mono _ _ _)
   | (with_reducible exact spec_StockCost.mono _ _ _ _)
   | (with_reducible exact LeO.refl _)
   | (with_reducible exact LeO.none _)
   | (with_reducible refine LeO.ite ?_ ?_)
   | (with_reducible refine LeO.bind ?_ (fun _ => ?_))
   | exact ih0 _ _ _ _ _ _ _ _ _
   | exact ih1 _ _ _ _ _ _ _ _ _ _
   | exact ih2 _
   | exact ih3 _ _ _ _ _ _ _ _ _
   | exact ih4 _ _ _ _ _ _ _
   | exact ih5 _ _ _ _ _ _ _
   | exact ih6 _ _ _ _ _ _ _ _ _
   | exact impl_BestUpTo.mono _ _ _ _ _
   | exact impl_DayOf.mono _ _ _ _ _
   | exact impl_IsFlow.mono _ _ _
   | exact impl_LeadNeeds.mono _ _ _
   | exact impl_PositionOf.mono _ _ _
   | exact impl_StockCost.mono _ _ _ _
   | exact laws_rInts.mono _ _ _
   | exact spec_BestUpTo.mono _ _ _ _ _
   | exact spec_DayOf.mono _ _ _ _ _
   | exact spec_DrawBestUpTo.mono _ _
   | exact spec_DrawDayOf.mono _ _
   | exact spec_DrawStockCost.mono _ _
   | exact spec_LeadNeeds.mono _ _ _
   | exact spec_PositionOf.mono _ _ _
   | exact spec_StockCost.mono _ _ _ _
   | exact LeO.none _
   | refine LeO.ite ?_ ?_
   | refine LeO.bind ?_ (fun _ => ?_)
  ·intro y0 y1 y2 y3 y4 y5 y6 y7 y8 y9
   unfold laws_FnDays.j1
   repeat' first
   | (with_reducible exact ih0 _ _ _ _ _ _ _ _ _)
   | (with_reducible exact ih1 _ _ _ _ _ _ _ _ _ _)
   | (with_reducible exact ih2 _)
   | (with_reducible exact ih3 _ _ _ _ _ _ _ _ _)
   | (with_reducible exact ih4 _ _ _ _ _ _ _)
   | (with_reducible exact ih5 _ _ _ _ _ _ _)
   | (with_reducible exact ih6 _ _ _ _ _ _ _ _ _)
   | (with_reducible exact impl_BestUpTo.mono _ _ _ _ _)
   | (with_reducible exact impl_DayOf.mono _ _ _ _ _)
   | (with_reducible exact impl_IsFlow.mono _ _ _)
   | (with_reducible exact impl_LeadNeeds.mono _ _ _)
   | (with_reducible exact impl_PositionOf.mono _ _ _)
   | (with_reducible exact impl_StockCost.mono _ _ _ _)
   | (with_reducible exact laws_rInts.mono _ _ _)
   | (with_reducible exact spec_BestUpTo.mono _ _ _ _ _)
   | (with_reducible exact spec_DayOf.mono _ _ _ _ _)
   | (with_reducible exact spec_DrawBestUpTo.mono _ _)
   | (with_reducible exact spec_DrawDayOf.mono _ _)
   | (with_reducible exact spec_DrawStockCost.mono _ _)
   | (with_reducible exact spec_LeadNeeds.mono _ _ _)
   | (with_reducible exact spec_PositionOf.mono _ _ _)
   | (with_reducible exact spec_StockCost.mono _ _ _ _)
   | (with_reducible exact LeO.refl _)
   | (with_reducible exact LeO.none _)
   | (with_reducible refine LeO.ite ?_ ?_)
   | (with_reducible refine LeO.bind ?_ (fun _ => ?_))
   | exact ih0 _ _ _ _ _ _ _ _ _
   | exact ih1 _ _ _ _ _ _ _ _ _ _
   | exact ih2 _
   | exact ih3 _ _ _ _ _ _ _ _ _
   | exact ih4 _ _ _ _ _ _ _
   | exact ih5 _ _ _ _ _ _ _
   | exact ih6 _ _ _ _ _ _ _ _ _
   | exact impl_BestUpTo.mono _ _ _ _ _
   | exact impl_DayOf.mono _ _ _ _ _
   | exact impl_IsFlow.mono _ _ _
   | exact impl_LeadNeeds.mono _ _ _
   | exact impl_PositionOf.mono _ _ _
   | exact impl_StockCost.mono _ _ _ _
   | exact laws_rInts.mono _ _ _
   | exact spec_BestUpTo.mono _ _ _ _ _
   | exact spec_DayOf.mono _ _ _ _ _
   | exact spec_DrawBestUpTo.mono _ _
   | exact spec_DrawDayOf.mono _ _
   | exact spec_DrawStockCost.mono _ _
   | exact spec_LeadNeeds.mono _ _ _
   | exact spec_PositionOf.mono _ _ _
   | exact spec_StockCost.mono _ _ _ _
   | exact LeO.none _
   | refine LeO.ite ?_ ?_
   | refine LeO.bind ?_ (fun _ => ?_)
  ·intro y0
   unfold laws_FnDays.j2
   repeat' first
   | (with_reducible exact ih0 _ _ _ _ _ _ _ _ _)
   | (with_reducible exact ih1 _ _ _ _ _ _ _ _ _ _)
   | (with_reducible exact ih2 _)
   | (with_reducible exact ih3 _ _ _ _ _ _ _ _ _)
   | (with_reducible exact ih4 _ _ _ _ _ _ _)
   | (with_reducible exact ih5 _ _ _ _ _ _ _)
   | (with_reducible exact ih6 _ _ _ _ _ _ _ _ _)
   | (with_reducible exact impl_BestUpTo.mono _ _ _ _ _)
   | (with_reducible exact impl_DayOf.mono _ _ _ _ _)
   | (with_reducible exact impl_IsFlow.mono _ _ _)
   | (with_reducible exact impl_LeadNeeds.mono _ _ _)
   | (with_reducible exact impl_PositionOf.mono _ _ _)
   | (with_reducible exact impl_StockCost.mono _ _ _ _)
   | (with_reducible exact laws_rInts.mono _ _ _)
   | (with_reducible exact spec_BestUpTo.mono _ _ _ _ _)
   | (with_reducible exact spec_DayOf.mono _ _ _ _ _)
   | (with_reducible exact spec_DrawBestUpTo.mono _ _)
   | (with_reducible exact spec_DrawDayOf.mono _ _)
   | (with_reducible exact spec_DrawStockCost.mono _ _)
   | (with_reducible exact spec_LeadNeeds.mono _ _ _)
   | (with_reducible exact spec_PositionOf.mono _ _ _)
   | (with_reducible exact spec_StockCost.mono _ _ _ _)
   | (with_reducible exact LeO.refl _)
   | (with_reducible exact LeO.none _)
   | (with_reducible refine LeO.ite ?_ ?_)
   | (with_reducible refine LeO.bind ?_ (fun _ => ?_))
   | exact ih0 _ _ _ _ _ _ _ _ _
   | exact ih1 _ _ _ _ _ _ _ _ _ _
   | exact ih2 _
   | exact ih3 _ _ _ _ _ _ _ _ _
   | exact ih4 _ _ _ _ _ _ _
   | exact ih5 _ _ _ _ _ _ _
   | exact ih6 _ _ _ _ _ _ _ _ _
   | exact impl_BestUpTo.mono _ _ _ _ _
   | exact impl_DayOf.mono _ _ _ _ _
   | exact impl_IsFlow.mono _ _ _
   | exact impl_LeadNeeds.mono _ _ _
   | exact impl_PositionOf.mono _ _ _
   | exact impl_StockCost.mono _ _ _ _
   | exact laws_rInts.mono _ _ _
   | exact spec_BestUpTo.mono _ _ _ _ _
   | exact spec_DayOf.mono _ _ _ _ _
   | exact spec_DrawBestUpTo.mono _ _
   | exact spec_DrawDayOf.mono _ _
   | exact spec_DrawStockCost.mono _ _
   | exact spec_LeadNeeds.mono _ _ _
   | exact spec_PositionOf.mono _ _ _
   | exact spec_StockCost.mono _ _ _ _
   | exact LeO.none _
   | refine LeO.ite ?_ ?_
   | refine LeO.bind ?_ (fun _ => ?_)
  ·intro y0 y1 y2 y3 y4 y5 y6 y7 y8
   unfold laws_FnDays.j3
   repeat' first
   | (with_reducible exact ih0 _ _ _ _ _ _ _ _ _)
   | (with_reducible exact ih1 _ _ _ _ _ _ _ _ _ _)
   | (with_reducible exact ih2 _)
   | (with_reducible exact ih3 _ _ _ _ _ _ _ _ _)
   | (with_reducible exact ih4 _ _ _ _ _ _ _)
   | (with_reducible exact ih5 _ _ _ _ _ _ _)
   | (with_reducible exact ih6 _ _ _ _ _ _ _ _ _)
   | (with_reducible exact impl_BestUpTo.mono _ _ _ _ _)
   | (with_reducible exact impl_DayOf.mono _ _ _ _ _)
   | (with_reducible exact impl_IsFlow.mono _ _ _)
   | (with_reducible exact impl_LeadNeeds.mono _ _ _)
   | (with_reducible exact impl_PositionOf.mono _ _ _)
   | (with_reducible exact impl_StockCost.mono _ _ _ _)
   | (with_reducible exact laws_rInts.mono _ _ _)
   | (with_reducible exact spec_BestUpTo.mono _ _ _ _ _)
   | (with_reducible exact spec_DayOf.mono _ _ _ _ _)
   | (with_reducible exact spec_DrawBestUpTo.mono _ _)
   | (with_reducible exact spec_DrawDayOf.mono _ _)
   | (with_reducible exact spec_DrawStockCost.mono _ _)
   | (with_reducible exact spec_LeadNeeds.mono _ _ _)
   | (with_reducible exact spec_PositionOf.mono _ _ _)
   | (with_reducible exact spec_StockCost.mono _ _ _ _)
   | (with_reducible exact LeO.refl _)
   | (with_reducible exact LeO.none _)
   | (with_reducible refine LeO.ite ?_ ?_)
   | (with_reducible refine LeO.bind ?_ (fun _ => ?_))
   | exact ih0 _ _ _ _ _ _ _ _ _
   | exact ih1 _ _ _ _ _ _ _ _ _ _
   | exact ih2 _
   | exact ih3 _ _ _ _ _ _ _ _ _
   | exact ih4 _ _ _ _ _ _ _
   | exact ih5 _ _ _ _ _ _ _
   | exact ih6 _ _ _ _ _ _ _ _ _
   | exact impl_BestUpTo.mono _ _ _ _ _
   | exact impl_DayOf.mono _ _ _ _ _
   | exact impl_IsFlow.mono _ _ _
   | exact impl_LeadNeeds.mono _ _ _
   | exact impl_PositionOf.mono _ _ _
   | exact impl_StockCost.mono _ _ _ _
   | exact laws_rInts.mono _ _ _
   | exact spec_BestUpTo.mono _ _ _ _ _
   | exact spec_DayOf.mono _ _ _ _ _
   | exact spec_DrawBestUpTo.mono _ _
   | exact spec_DrawDayOf.mono _ _
   | exact spec_DrawStockCost.mono _ _
   | exact spec_LeadNeeds.mono _ _ _
   | exact spec_PositionOf.mono _ _ _
   | exact spec_StockCost.mono _ _ _ _
   | exact LeO.none _
   | refine LeO.ite ?_ ?_
   | refine LeO.bind ?_ (fun _ => ?_)
  ·intro y0 y1 y2 y3 y4 y5 y6
   unfold laws_FnDays.j4
   repeat' first
   | (with_reducible exact ih0 _ _ _ _ _ _ _ _ _)
   | (with_reducible exact ih1 _ _ _ _ _ _ _ _ _ _)
   | (with_reducible exact ih2 _)
   | (with_reducible exact ih3 _ _ _ _ _ _ _ _ _)
   | (with_reducible exact ih4 _ _ _ _ _ _ _)
   | (with_reducible exact ih5 _ _ _ _ _ _ _)
   | (with_reducible exact ih6 _ _ _ _ _ _ _ _ _)
   | (with_reducible exact impl_BestUpTo.mono _ _ _ _ _)
   | (with_reducible exact impl_DayOf.mono _ _ _ _ _)
   | (with_reducible exact impl_IsFlow.mono _ _ _)
   | (with_reducible exact impl_LeadNeeds.mono _ _ _)
   | (with_reducible exact impl_PositionOf.mono _ _ _)
   | (with_reducible exact impl_StockCost.mono _ _ _ _)
   | (with_reducible exact laws_rInts.mono _ _ _)
   | (with_reducible exact spec_BestUpTo.mono _ _ _ _ _)
   | (with_reducible exact spec_DayOf.mono _ _ _ _ _)
   | (with_reducible exact spec_DrawBestUpTo.mono _ _)
   | (with_reducible exact spec_DrawDayOf.mono _ _)
   | (with_reducible exact spec_DrawStockCost.mono _ _)
   | (with_reducible exact spec_LeadNeeds.mono _ _ _)
   | (with_reducible exact spec_PositionOf.mono _ _ _)
   | (with_reducible exact spec_StockCost.mono _ _ _ _)
   | (with_reducible exact LeO.refl _)
   | (with_reducible exact LeO.none _)
   | (with_reducible refine LeO.ite ?_ ?_)
   | (with_reducible refine LeO.bind ?_ (fun _ => ?_))
   | exact ih0 _ _ _ _ _ _ _ _ _
   | exact ih1 _ _ _ _ _ _ _ _ _ _
   | exact ih2 _
   | exact ih3 _ _ _ _ _ _ _ _ _
   | exact ih4 _ _ _ _ _ _ _
   | exact ih5 _ _ _ _ _ _ _
   | exact ih6 _ _ _ _ _ _ _ _ _
   | exact impl_BestUpTo.mono _ _ _ _ _
   | exact impl_DayOf.mono _ _ _ _ _
   | exact impl_IsFlow.mono _ _ _
   | exact impl_LeadNeeds.mono _ _ _
   | exact impl_PositionOf.mono _ _ _
   | exact impl_StockCost.mono _ _ _ _
   | exact laws_rInts.mono _ _ _
   | exact spec_BestUpTo.mono _ _ _ _ _
   | exact spec_DayOf.mono _ _ _ _ _
   | exact spec_DrawBestUpTo.mono _ _
   | exact spec_DrawDayOf.mono _ _
   | exact spec_DrawStockCost.mono _ _
   | exact spec_LeadNeeds.mono _ _ _
   | exact spec_PositionOf.mono _ _ _
   | exact spec_StockCost.mono _ _ _ _
   | exact LeO.none _
   | refine LeO.ite ?_ ?_
   | refine LeO.bind ?_ (fun _ => ?_)
  ·intro y0 y1 y2 y3 y4 y5 y6
   unfold laws_FnDays.l0
   repeat' first
   | (with_reducible exact ih0 _ _ _ _ _ _ _ _ _)
   | (with_reducible exact ih1 _ _ _ _ _ _ _ _ _ _)
   | (with_reducible exact ih2 _)
   | (with_reducible exact ih3 _ _ _ _ _ _ _ _ _)
   | (with_reducible exact ih4 _ _ _ _ _ _ _)
   | (with_reducible exact ih5 _ _ _ _ _ _ _)
   | (with_reducible exact ih6 _ _ _ _ _ _ _ _ _)
   | (with_reducible exact impl_BestUpTo.mono _ _ _ _ _)
   | (with_reducible exact impl_DayOf.mono _ _ _ _ _)
   | (with_reducible exact impl_IsFlow.mono _ _ _)
   | (with_reducible exact impl_LeadNeeds.mono _ _ _)
   | (with_reducible exact impl_PositionOf.mono _ _ _)
   | (with_reducible exact impl_StockCost.mono _ _ _ _)
   | (with_reducible exact laws_rInts.mono _ _ _)
   | (with_reducible exact spec_BestUpTo.mono _ _ _ _ _)
   | (with_reducible exact spec_DayOf.mono _ _ _ _ _)
   | (with_reducible exact spec_DrawBestUpTo.mono _ _)
   | (with_reducible exact spec_DrawDayOf.mono _ _)
   | (with_reducible exact spec_DrawStockCost.mono _ _)
   | (with_reducible exact spec_LeadNeeds.mono _ _ _)
   | (with_reducible exact spec_PositionOf.mono _ _ _)
   | (with_reducible exact spec_StockCost.mono _ _ _ _)
   | (with_reducible exact LeO.refl _)
   | (with_reducible exact LeO.none _)
   | (with_reducible refine LeO.ite ?_ ?_)
   | (with_reducible refine LeO.bind ?_ (fun _ => ?_))
   | exact ih0 _ _ _ _ _ _ _ _ _
   | exact ih1 _ _ _ _ _ _ _ _ _ _
   | exact ih2 _
   | exact ih3 _ _ _ _ _ _ _ _ _
   | exact ih4 _ _ _ _ _ _ _
   | exact ih5 _ _ _ _ _ _ _
   | exact ih6 _ _ _ _ _ _ _ _ _
   | exact impl_BestUpTo.mono _ _ _ _ _
   | exact impl_DayOf.mono _ _ _ _ _
   | exact impl_IsFlow.mono _ _ _
   | exact impl_LeadNeeds.mono _ _ _
   | exact impl_PositionOf.mono _ _ _
   | exact impl_StockCost.mono _ _ _ _
   | exact laws_rInts.mono _ _ _
   | exact spec_BestUpTo.mono _ _ _ _ _
   | exact spec_DayOf.mono _ _ _ _ _
   | exact spec_DrawBestUpTo.mono _ _
   | exact spec_DrawDayOf.mono _ _
   | exact spec_DrawStockCost.mono _ _
   | exact spec_LeadNeeds.mono _ _ _
   | exact spec_PositionOf.mono _ _ _
   | exact spec_StockCost.mono _ _ _ _
   | exact LeO.none _
   | refine LeO.ite ?_ ?_
   | refine LeO.bind ?_ (fun _ => ?_)
  ·intro y0 y1 y2 y3 y4 y5 y6 y7 y8
   unfold laws_FnDays.l1
   repeat' first
   | (with_reducible exact ih0 _ _ _ _ _ _ _ _ _)
   | (with_reducible exact ih1 _ _ _ _ _ _ _ _ _ _)
   | (with_reducible exact ih2 _)
   | (with_reducible exact ih3 _ _ _ _ _ _ _ _ _)
   | (with_reducible exact ih4 _ _ _ _ _ _ _)
   | (with_reducible exact ih5 _ _ _ _ _ _ _)
   | (with_reducible exact ih6 _ _ _ _ _ _ _ _ _)
   | (with_reducible exact impl_BestUpTo.mono _ _ _ _ _)
   | (with_reducible exact impl_DayOf.mono _ _ _ _ _)
   | (with_reducible exact impl_IsFlow.mono _ _ _)
   | (with_reducible exact impl_LeadNeeds.mono _ _ _)
   | (with_reducible exact impl_PositionOf.mono _ _ _)
   | (with_reducible exact impl_StockCost.mono _ _ _ _)
   | (with_reducible exact laws_rInts.mono _ _ _)
   | (with_reducible exact spec_BestUpTo.mono _ _ _ _ _)
   | (with_reducible exact spec_DayOf.mono _ _ _ _ _)
   | (with_reducible exact spec_DrawBestUpTo.mono _ _)
   | (with_reducible exact spec_DrawDayOf.mono _ _)
   | (with_reducible exact spec_DrawStockCost.mono _ _)
   | (with_reducible exact spec_LeadNeeds.mono _ _ _)
   | (with_reducible exact spec_PositionOf.mono _ _ _)
   | (with_reducible exact spec_StockCost.mono _ _ _ _)
   | (with_reducible exact LeO.refl _)
   | (with_reducible exact LeO.none _)
   | (with_reducible refine LeO.ite ?_ ?_)
   | (with_reducible refine LeO.bind ?_ (fun _ => ?_))
   | exact ih0 _ _ _ _ _ _ _ _ _
   | exact ih1 _ _ _ _ _ _ _ _ _ _
   | exact ih2 _
   | exact ih3 _ _ _ _ _ _ _ _ _
   | exact ih4 _ _ _ _ _ _ _
   | exact ih5 _ _ _ _ _ _ _
   | exact ih6 _ _ _ _ _ _ _ _ _
   | exact impl_BestUpTo.mono _ _ _ _ _
   | exact impl_DayOf.mono _ _ _ _ _
   | exact impl_IsFlow.mono _ _ _
   | exact impl_LeadNeeds.mono _ _ _
   | exact impl_PositionOf.mono _ _ _
   | exact impl_StockCost.mono _ _ _ _
   | exact laws_rInts.mono _ _ _
   | exact spec_BestUpTo.mono _ _ _ _ _
   | exact spec_DayOf.mono _ _ _ _ _
   | exact spec_DrawBestUpTo.mono _ _
   | exact spec_DrawDayOf.mono _ _
   | exact spec_DrawStockCost.mono _ _
   | exact spec_LeadNeeds.mono _ _ _
   | exact spec_PositionOf.mono _ _ _
   | exact spec_StockCost.mono _ _ _ _
   | exact LeO.none _
   | refine LeO.ite ?_ ?_
   | refine LeO.bind ?_ (fun _ => ?_)
theorem laws_FnDays.mono : ∀ a0 k, LeO (laws_FnDays.f k a0) (laws_FnDays.f (k + 1) a0) := by
 intro a0 k
 obtain ⟨ih0, ih1, ih2, ih3, ih4, ih5, ih6⟩ := laws_FnDays.mono_l k
 unfold laws_FnDays.f
 repeat' first
   | (with_reducible exact ih0 _ _ _ _ _ _ _ _ _)
   | (with_reducible exact ih1 _ _ _ _ _ _ _ _ _ _)
   | (with_reducible exact ih2 _)
   | (with_reducible exact ih3 _ _ _ _ _ _ _ _ _)
   | (with_reducible exact ih4 _ _ _ _ _ _ _)
   | (with_reducible exact ih5 _ _ _ _ _ _ _)
   | (with_reducible exact ih6 _ _ _ _ _ _ _ _ _)
   | (with_reducible exact impl_BestUpTo.mono _ _ _ _ _)
   | (with_reducible exact impl_DayOf.mono _ _ _ _ _)
   | (with_reducible exact impl_IsFlow.mono _ _ _)
   | (with_reducible exact impl_LeadNeeds.mono _ _ _)
   | (with_reducible exact impl_PositionOf.mono _ _ _)
   | (with_reducible exact impl_StockCost.mono _ _ _ _)
   | (with_reducible exact laws_rInts.mono _ _ _)
   | (with_reducible exact spec_BestUpTo.mono _ _ _ _ _)
   | (with_reducible exact spec_DayOf.mono _ _ _ _ _)
   | (with_reducible exact spec_DrawBestUpTo.mono _ _)
   | (with_reducible exact spec_DrawDayOf.mono _ _)
   | (with_reducible exact spec_DrawStockCost.mono _ _)
   | (with_reducible exact spec_LeadNeeds.mono _ _ _)
   | (with_reducible exact spec_PositionOf.mono _ _ _)
   | (with_reducible exact spec_StockCost.mono _ _ _ _)
   | (with_reducible exact LeO.refl _)
   | (with_reducible exact LeO.none _)
   | (with_reducible refine LeO.ite ?_ ?_)
   | (with_reducible refine LeO.bind ?_ (fun _ => ?_))
   | exact ih0 _ _ _ _ _ _ _ _ _
   | exact ih1 _ _ _ _ _ _ _ _ _ _
   | exact ih2 _
   | exact ih3 _ _ _ _ _ _ _ _ _
   | exact ih4 _ _ _ _ _ _ _
   | exact ih5 _ _ _ _ _ _ _
   | exact ih6 _ _ _ _ _ _ _ _ _
   | exact impl_BestUpTo.mono _ _ _ _ _
   | exact impl_DayOf.mono _ _ _ _ _
   | exact impl_IsFlow.mono _ _ _
   | exact impl_LeadNeeds.mono _ _ _
   | exact impl_PositionOf.mono _ _ _
   | exact impl_StockCost.mono _ _ _ _
   | exact laws_rInts.mono _ _ _
   | exact spec_BestUpTo.mono _ _ _ _ _
   | exact spec_DayOf.mono _ _ _ _ _
   | exact spec_DrawBestUpTo.mono _ _
   | exact spec_DrawDayOf.mono _ _
   | exact spec_DrawStockCost.mono _ _
   | exact spec_LeadNeeds.mono _ _ _
   | exact spec_PositionOf.mono _ _ _
   | exact spec_StockCost.mono _ _ _ _
   | exact LeO.none _
   | refine LeO.ite ?_ ?_
   | refine LeO.bind ?_ (fun _ => ?_)
set_option maxHeartbeats 8000000 in
set_option maxRecDepth 100000 in
theorem laws_FnDays.calls (k : Nat) (A0 : Option Addr) (c0 : Nat) (l0 : List Int) (r : Bool) (w : World) (hr0 : Kd.C (Kd.int .u8) w A0 l0.length l0) (hc0 : l0.length ≤ c0) (h : laws_FnDays.f k l0 = some r) :
  Calls Try.prog 6 #[.slice A0 l0.length c0] w fun e w' => e = .returned (.bool r) ∧ Below w.heap.size w w' := by
 have hu30 := Try.underlying30
 have HR0 := z8_A hr0
 have HC0 := z8_A hc0
 clear hr0 hc0
 have HB := z8_A (Below.refl w.heap.size w)
 have H : ((laws_rBig.f l0).bind fun t420 => (if t420 = true then (some true) else ((spec_DrawDayOf.f k l0).bind fun bt421 => ((impl_DayOf.f k bt421.1 bt421.2.1 bt421.2.2.1 bt421.2.2.2).bind fun bt428 => ((spec_DayOf.f k bt421.1 bt421.2.1 bt421.2.2.1 bt421.2.2.2).bind fun bt434 => (if (bt428.2.2 != bt434.2.2) = true then (laws_FnDays.j0 k l0 bt421.2.2.1 bt421.2.2.2 bt428.2.2 true bt421.1 bt421.2.1 bt428.1 bt428.2.1) else (if bt428.1 = bt434.1 then ((laws_rInts.f k bt428.2.1 bt434.2.1).bind fun t440 => (laws_FnDays.j0 k l0 bt421.2.2.1 bt421.2.2.2 bt428.2.2 (!t440) bt421.1 bt421.2.1 bt428.1 bt428.2.1)) else (laws_FnDays.j0 k l0 bt421.2.2.1 bt421.2.2.2 bt428.2.2 true bt421.1 bt421.2.1 bt428.1 bt428.2.1)))))))) = some r := h
 clear h
 replace H := Option.bind_eq_some_iff.mp H
 obtain ⟨t420, A20, H⟩ := H
 (try dsimp only at H)
 have A2 := z8_A A20
 clear A20
 by_cases c3 : t420 = true
 ·subst c3
  have H1 : (some true) = some r := z8_31
  clear H
  have H := H1
  clear H1
  obtain rfl := Option.some.inj H
  go_enter Try.func6, Try.ntmps6
  go_wp2_with (first | ((with_reducible refine gate_callee (f := 29) rfl ?_); refine goesL_ (some 43) rfl rfl Try.func29 z8_27 rfl #[.slice A0 l0.length c0] rfl z8_8 ?_; (with_reducible refine (laws_rBig.calls _ _ l0 true _ ?side1 ?side2 A2.out).mono ?_); (case side1 => have zh := HR0.out; exact z8_C); (case side2 => exact HC0.out); rintro e w' ⟨rfl, ⟨nd, rfl⟩⟩; refine ⟨_, rfl, ?_⟩))
  go_ret
  exact ⟨z8_10, z8_21⟩
 ·replace c3 := Bool.eq_false_iff.mpr c3
  subst c3
  have H1 : ((spec_DrawDayOf.f k l0).bind fun bt421 => ((impl_DayOf.f k bt421.1 bt421.2.1 bt421.2.2.1 bt421.2.2.2).bind fun bt428 => ((spec_DayOf.f k bt421.1 bt421.2.1 bt421.2.2.1 bt421.2.2.2).bind fun bt434 => (if (bt428.2.2 != bt434.2.2) = true then (laws_FnDays.j0 k l0 bt421.2.2.1 bt421.2.2.2 bt428.2.2 true bt421.1 bt421.2.1 bt428.1 bt428.2.1) else (if bt428.1 = bt434.1 then ((laws_rInts.f k bt428.2.1 bt434.2.1).bind fun t440 => (laws_FnDays.j0 k l0 bt421.2.2.1 bt421.2.2.2 bt428.2.2 (!t440) bt421.1 bt421.2.1 bt428.1 bt428.2.1)) else (laws_FnDays.j0 k l0 bt421.2.2.1 bt421.2.2.2 bt428.2.2 true bt421.1 bt421.2.1 bt428.1 bt428.2.1)))))) = some r := z8_22
  clear H
  have H := H1
  clear H1
  replace H := Option.bind_eq_some_iff.mp H
  obtain ⟨⟨t421, t422, t425, t426⟩, A40, H⟩ := H
  (try dsimp only at H)
  have A4 := z8_A A40
  clear A40
  replace H := Option.bind_eq_some_iff.mp H
  obtain ⟨⟨t428, t429, t432⟩, A50, H⟩ := H
  (try dsimp only at H)
  have A5 := z8_A A50
  clear A50
  replace H := Option.bind_eq_some_iff.mp H
  obtain ⟨⟨t434, t435, t438⟩, A60, H⟩ := H
  (try dsimp only at H)
  have A6 := z8_A A60
  clear A60
  have HC7 := z8_A H
  clear H
  go_enter Try.func6, Try.ntmps6
  go_upto_region 6 with (first | ((with_reducible refine gate_callee (f := 29) rfl ?_); refine goesL_ (some 43) rfl rfl Try.func29 z8_27 rfl #[.slice A0 l0.length c0] rfl z8_8 ?_; (with_reducible refine (laws_rBig.calls _ _ l0 false _ ?side1 ?side2 A2.out).mono ?_); (case side1 => have zh := HR0.out; exact z8_C); (case side2 => exact HC0.out); rintro e w' ⟨rfl, ⟨nd, rfl⟩⟩; refine ⟨_, rfl, ?_⟩) | ((with_reducible refine gate_callee (f := 30) rfl ?_); refine goesL_ (some 46) rfl rfl Try.func30 z8_27 rfl #[.slice A0 l0.length c0] rfl z8_8 ?_; (with_reducible refine (spec_DrawDayOf.calls k _ _ l0 t421 t422 t425 t426 _ ?side1 ?side2 A4.out).mono ?_); (case side1 => have zh := HR0.out; exact z8_C); (case side2 => exact HC0.out); rintro e w8 ⟨v423, rfl, ho0, hb⟩; refine ⟨_, rfl, ?_⟩; have n0_ := z8_A (Kd.R_lower ho0 (below_size z8_21)); have n1_ := z8_A (below_step z8_21 hb); clear HB; revert n0_ n1_; intro HO424 HB; (try clear hb); (try clear hb2); (try clear hk); (try clear hi); (try clear ho0)) | ((with_reducible refine gate_dst (N := 3) rfl ?_); (try (refine gate_guard (by rfl) ?_; dsimp only)); refine box_event ?hg (N := 3) ?hd (cs := #[.int .i64 0, .slice none 0 0]) (t := 30) ?hr ?_; (case hd => rfl); (case hg => rfl); (case hr => first | (go_simp; done) | (go_simp; rfl)); intro gb427 hg w9 hbox hb; have n0_ := z8_A (Kd.R_below z8_44 hb); have n1_ := z8_A (below_step z8_21 hb); have n2_ := z8_A (hbox); have n3_ := z8_A ((by rw [hg]; exact (below_size z8_21) : w.heap.size ≤ gb427)); have n4_ := z8_A ((by rw [hg]; exact (below_size z8_21) : w.heap.size ≤ gb427)); clear HO424 HB; revert n0_ n1_ n2_ n3_ n4_; intro HO424 HB BK427 GW427 GE427; clear hb hbox hg; have hcz10_0 : w9.cell? ⟨gb427, 0, none⟩ = some (.int .i64 0) := (blk_cell BK427.out 0).trans rfl; have hcz10_1 : w9.cell? ⟨gb427, 1, none⟩ = some (.slice none 0 0) := (blk_cell BK427.out 1).trans rfl; have hfz10_0 := blk_frozen BK427.out 0; have hfz10_1 := blk_frozen BK427.out 1; obtain ⟨Ao11, co11, eo11⟩ := Kd.R_slice HO424.out; subst eo11) | ((with_reducible refine gate_callee (f := 31) rfl ?_); refine goesL_ (some 54) rfl rfl Try.func31 z8_27 rfl #[.agg #[.int .i64 t421, .slice Ao11 t422.length co11], .int .i64 t425, .int .i64 t426] rfl z8_8 ?_; (with_reducible refine (impl_DayOf.calls k t421 _ _ t422 t425 t426 t428 t429 t432 _ ?side1 ?side2 A5.out).mono ?_); (case side1 => refine (Kd.R_reads' (e := 3) (base := w.heap.size) (ok := fun k_ => True) (n := t422.length) (c := co11) ?_).2.2; exact z8_25); (case side2 => exact (Kd.R_reads' HO424.out).2.1); rintro e w12 ⟨v430, rfl, ho0, hb⟩; refine ⟨_, rfl, ?_⟩; have n0_ := z8_A (Kd.R_elder' z8_25 (Kd.Q_base ho0) hb); have n1_ := z8_A (Kd.Q_lower (Kd.Q_new' ho0 (Kd.R_lt z8_25)) (below_size z8_23)); have n2_ := z8_A (blk_below (g := gb427) (o := .cells #[.int .i64 t421, .slice Ao11 t422.length co11] 30 (0, 0)) (by (with_reducible repeat (first | refine blk_drewN ?_ _ | refine blk_drew ?_ | refine blk_alloc ?_ _)); refine blk_put (cs := #[.int .i64 t421, .slice none 0 0]) ?_ 1 _ rfl; (with_reducible repeat (first | refine blk_drewN ?_ _ | refine blk_drew ?_ | refine blk_alloc ?_ _)); refine blk_put (cs := #[.int .i64 0, .slice none 0 0]) ?_ 0 _ rfl; (with_reducible repeat (first | refine blk_drewN ?_ _ | refine blk_drew ?_ | refine blk_alloc ?_ _)); exact BK427.out) hb); have n3_ := z8_A (below_step z8_23 hb); clear HO424 BK427 HB; revert n0_ n1_ n2_ n3_; intro HO424 HO431 BK427 HB; (try clear hb); (try clear hb2); (try clear hk); (try clear hi); (try clear ho0)) | ((with_reducible refine gate_dst (N := 6) rfl ?_); (try (refine gate_guard (by rfl) ?_; dsimp only)); refine box_event ?hg (N := 6) ?hd (cs := #[.int .i64 0, .slice none 0 0]) (t := 30) ?hr ?_; (case hd => rfl); (case hg => rfl); (case hr => first | (go_simp; done) | (go_simp; rfl)); intro gb433 hg w13 hbox hb; have n0_ := z8_A (Kd.R_below z8_44 hb); have n1_ := z8_A (Kd.Q_below z8_56 hb); have n2_ := z8_A (blk_below (g := gb427) (o := .cells #[.int .i64 t421, .slice Ao11 t422.length co11] 30 (0, 0)) z8_2 hb); have n3_ := z8_A (below_step z8_23 hb); have n4_ := z8_A (hbox); have n5_ := z8_A ((by rw [hg]; exact (below_size z8_23) : w.heap.size ≤ gb433)); have n6_ := z8_A ((by rw [hg]; exact (below_size z8_23) : w.heap.size ≤ gb433)); have n7_ := z8_A ((z8_50 : gb427 ≠ gb433)); have n8_ := z8_A ((z8_51 : gb433 ≠ gb427)); clear HO424 HO431 BK427 HB; revert n0_ n1_ n2_ n3_ n4_ n5_ n6_ n7_ n8_; intro HO424 HO431 BK427 HB BK433 GW433 GE433 NB427_433 NB433_427; clear hb hbox hg; have hnb14 := NB433_427.out; have hnc14 := NB427_433.out; have hcz15_0 : w13.cell? ⟨gb433, 0, none⟩ = some (.int .i64 0) := (blk_cell BK433.out 0).trans rfl; have hcz15_1 : w13.cell? ⟨gb433, 1, none⟩ = some (.slice none 0 0) := (blk_cell BK433.out 1).trans rfl; have hfz15_0 := blk_frozen BK433.out 0; have hfz15_1 := blk_frozen BK433.out 1; obtain ⟨Ao16, co16, eo16, _⟩ := Kd.Q_slice HO431.out; subst eo16; have hcz17_0 : w13.cell? ⟨gb427, 0, none⟩ = some (.int .i64 t421) := (blk_cell BK427.out 0).trans rfl; have hcz17_1 : w13.cell? ⟨gb427, 1, none⟩ = some (.slice Ao11 t422.length co11) := (blk_cell BK427.out 1).trans rfl; have hfz17_0 := blk_frozen BK427.out 0; have hfz17_1 := blk_frozen BK427.out 1) | ((with_reducible refine gate_callee (f := 32) rfl ?_); refine goesL_ (some 61) rfl rfl Try.func32 z8_27 rfl #[.agg #[.int .i64 t421, .slice Ao11 t422.length co11], .int .i64 t425, .int .i64 t426] rfl z8_8 ?_; (with_reducible refine (spec_DayOf.calls k t421 _ _ t422 t425 t426 t434 t435 t438 _ ?side1 ?side2 A6.out).mono ?_); (case side1 => refine (Kd.R_reads' (e := 3) (base := w.heap.size) (ok := fun k_ => (True ∧ z8_S k_ Ao16 t429.length co16)) (n := t422.length) (c := co11) ?_).2.2; exact z8_24); (case side2 => exact (Kd.R_reads' HO424.out).2.1); rintro e w18 ⟨v436, rfl, ho0, hb⟩; refine ⟨_, rfl, ?_⟩; have n0_ := z8_A (Kd.R_elder' z8_24 (Kd.R_base ho0) hb); have n1_ := z8_A (Kd.Q_elder' z8_32 (Kd.R_base ho0) hb); have n2_ := z8_A (Kd.R_lower (Kd.R_new' (Kd.R_new' ho0 (Kd.R_lt z8_24)) (Kd.Q_lt z8_32)) (below_size z8_15)); have n3_ := z8_A (blk_below (g := gb427) (o := .cells #[.int .i64 t421, .slice Ao11 t422.length co11] 30 (0, 0)) (by (with_reducible repeat (first | refine blk_drewN ?_ _ | refine blk_drew ?_ | refine blk_alloc ?_ _)); refine blk_far ?_ NB427_433.out _; (with_reducible repeat (first | refine blk_drewN ?_ _ | refine blk_drew ?_ | refine blk_alloc ?_ _)); refine blk_far ?_ NB427_433.out _; (with_reducible repeat (first | refine blk_drewN ?_ _ | refine blk_drew ?_ | refine blk_alloc ?_ _)); exact BK427.out) hb); have n4_ := z8_A (blk_below (g := gb433) (o := .cells #[.int .i64 t428, .slice Ao16 t429.length co16] 30 (0, 0)) (by (with_reducible repeat (first | refine blk_drewN ?_ _ | refine blk_drew ?_ | refine blk_alloc ?_ _)); refine blk_put (cs := #[.int .i64 t428, .slice none 0 0]) ?_ 1 _ rfl; (with_reducible repeat (first | refine blk_drewN ?_ _ | refine blk_drew ?_ | refine blk_alloc ?_ _)); refine blk_put (cs := #[.int .i64 0, .slice none 0 0]) ?_ 0 _ rfl; (with_reducible repeat (first | refine blk_drewN ?_ _ | refine blk_drew ?_ | refine blk_alloc ?_ _)); exact BK433.out) hb); have n5_ := z8_A (below_step z8_15 hb); clear HO424 HO431 BK427 BK433 HB; revert n0_ n1_ n2_ n3_ n4_ n5_; intro HO424 HO431 HO437 BK427 BK433 HB; (try clear hb); (try clear hb2); (try clear hk); (try clear hi); (try clear ho0)) | ((with_reducible refine gate_dst (N := 8) rfl ?_); (try (refine gate_guard (by rfl) ?_; dsimp only)); refine box_event ?hg (N := 8) ?hd (cs := #[.int .i64 0, .slice none 0 0]) (t := 30) ?hr ?_; (case hd => rfl); (case hg => rfl); (case hr => first | (go_simp; done) | (go_simp; rfl)); intro gb439 hg w19 hbox hb; have n0_ := z8_A (Kd.R_below z8_44 hb); have n1_ := z8_A (Kd.Q_below z8_56 hb); have n2_ := z8_A (Kd.R_below (by (with_reducible repeat (first | apply Kd.R_alloc | apply Kd.R_drewN | apply Kd.R_drew)); exact HO437.out) hb); have n3_ := z8_A (blk_below (g := gb427) (o := .cells #[.int .i64 t421, .slice Ao11 t422.length co11] 30 (0, 0)) z8_2 hb); have n4_ := z8_A (blk_below (g := gb433) (o := .cells #[.int .i64 t428, .slice Ao16 t429.length co16] 30 (0, 0)) z8_3 hb); have n5_ := z8_A (below_step z8_15 hb); have n6_ := z8_A (hbox); have n7_ := z8_A ((by rw [hg]; exact (below_size z8_15) : w.heap.size ≤ gb439)); have n8_ := z8_A ((by rw [hg]; exact (below_size z8_15) : w.heap.size ≤ gb439)); have n9_ := z8_A ((z8_50 : gb427 ≠ gb439)); have n10_ := z8_A ((z8_51 : gb439 ≠ gb427)); have n11_ := z8_A ((by rw [hg]; exact Nat.ne_of_lt (blk_lt (g := gb433) (o := .cells #[.int .i64 t428, .slice Ao16 t429.length co16] 30 (0, 0)) z8_3) : gb433 ≠ gb439)); have n12_ := z8_A ((by rw [hg]; exact Nat.ne_of_gt (blk_lt (g := gb433) (o := .cells #[.int .i64 t428, .slice Ao16 t429.length co16] 30 (0, 0)) z8_3) : gb439 ≠ gb433)); clear HO424 HO431 HO437 BK427 BK433 HB; revert n0_ n1_ n2_ n3_ n4_ n5_ n6_ n7_ n8_ n9_ n10_ n11_ n12_; intro HO424 HO431 HO437 BK427 BK433 HB BK439 GW439 GE439 NB427_439 NB439_427 NB433_439 NB439_433; clear hb hbox hg; have hnb20 := NB439_427.out; have hnc20 := NB427_439.out; have hnb21 := NB439_433.out; have hnc21 := NB433_439.out; have hcz22_0 : w19.cell? ⟨gb439, 0, none⟩ = some (.int .i64 0) := (blk_cell BK439.out 0).trans rfl; have hcz22_1 : w19.cell? ⟨gb439, 1, none⟩ = some (.slice none 0 0) := (blk_cell BK439.out 1).trans rfl; have hfz22_0 := blk_frozen BK439.out 0; have hfz22_1 := blk_frozen BK439.out 1; obtain ⟨Ao23, co23, eo23⟩ := Kd.R_slice HO437.out; subst eo23))
  (try simp only [Act.put, List.setIfInBounds_toArray, List.set_cons_zero, List.set_cons_succ])
  go_cut [81] (fun v81 wc => ∃ (kq : Nat) (x81_6 : Bool), v81 = .bool x81_6 ∧ Aside0 (laws_FnDays.j0 kq l0 t425 t426 t432 x81_6 t421 t422 t428 t429 = some r) ∧ Aside0 (kq ≤ k) ∧ Aside0 (Kd.Q (Kd.int .i64) 3 wc w.heap.size (fun k_ => some k_ ≠ ((.slice Ao16 t429.length co16) : Value).ownBlock ∧ some k_ ≠ ((.slice Ao23 t435.length co23) : Value).ownBlock) (.slice Ao11 t422.length co11) t422) ∧ Aside0 (Kd.Q (Kd.int .i64) 3 wc w.heap.size (fun k_ => some k_ ≠ ((.slice Ao11 t422.length co11) : Value).ownBlock ∧ some k_ ≠ ((.slice Ao23 t435.length co23) : Value).ownBlock) (.slice Ao16 t429.length co16) t429) ∧ Aside0 (Kd.Q (Kd.int .i64) 3 wc w.heap.size (fun k_ => some k_ ≠ ((.slice Ao11 t422.length co11) : Value).ownBlock ∧ some k_ ≠ ((.slice Ao16 t429.length co16) : Value).ownBlock) (.slice Ao23 t435.length co23) t435) ∧ Aside0 (wc.heap[gb427]? = some (.cells #[.int .i64 t421, (.slice Ao11 t422.length co11)] 30 (0, 0))) ∧ Aside0 (wc.heap[gb433]? = some (.cells #[.int .i64 t428, (.slice Ao16 t429.length co16)] 30 (0, 0))) ∧ Aside0 (wc.heap[gb439]? = some (.cells #[.int .i64 t434, (.slice Ao23 t435.length co23)] 30 (0, 0))) ∧ Aside0 (Below w.heap.size w wc))
  case first => as_aux_lemma =>
   have H := HC7.out
   clear HC7
   by_cases c24 : (t432 != t438) = true
   ·rw [if_pos c24] at H
    have c24b0 : (t432 != t438) = true := c24
    (try (have c24b1 : decide (t432 = t438) = false := by simpa using c24))
    (try (have c24b2 : (t432 == t438) = false := by simpa using c24))
    (try (have c24b3 : ¬ (t432 = t438) := by simpa using c24))
    clear c24
    (first | rw [c24b0] | (simp only [i64_w, i32_w]; rw [c24b0]) | skip)
    have H' := z8_A H
    clear H
    go_wp2
    go_meet
    case rel => exact ⟨_, (true), z8_13, H', ⟨by first | omega | exact Nat.le_refl _⟩, ⟨Kd.Q_of_R z8_19⟩, ⟨z8_20⟩, ⟨Kd.Q_of_R z8_18⟩, ⟨z8_17⟩, ⟨z8_16⟩, ⟨z8_12⟩, ⟨z8_1⟩⟩
   ·rw [if_neg c24] at H
    have c24b0 : (t432 != t438) = false := by simpa using c24
    (try (have c24b1 : decide (t432 = t438) = true := by simpa using c24))
    (try (have c24b2 : (t432 == t438) = true := by simpa using c24))
    clear c24
    (first | rw [c24b0] | (simp only [i64_w, i32_w]; rw [c24b0]) | skip)
    by_cases c25 : t428 = t434
    ·rw [if_pos c25] at H
     have c25b0 : (t428 == t434) = true := beq_iff_eq.mpr c25
     have c25b1 : (t428 != t434) = false := bne_eq_false_iff_eq.mpr c25
     clear c25
     replace H := Option.bind_eq_some_iff.mp H
     obtain ⟨t440, A260, H⟩ := H
     (try dsimp only at H)
     have A26 := z8_A A260
     clear A260
     have H' := z8_A H
     clear H
     have hnb27 := NB433_427.out
     have hnc27 := NB427_433.out
     have hnb28 := NB433_439.out
     have hnc28 := NB439_433.out
     have hcz29_0 : w19.cell? ⟨gb433, 0, none⟩ = some (.int .i64 t428) := (blk_cell BK433.out 0).trans rfl
     have hcz29_1 : w19.cell? ⟨gb433, 1, none⟩ = some (.slice Ao16 t429.length co16) := (blk_cell BK433.out 1).trans rfl
     have hfz29_0 := blk_frozen BK433.out 0
     have hfz29_1 := blk_frozen BK433.out 1
     have hnb30 := NB439_427.out
     have hnc30 := NB427_439.out
     have hcz31_0 : w19.cell? ⟨gb439, 0, none⟩ = some (.int .i64 0) := (blk_cell BK439.out 0).trans rfl
     have hcz31_1 : w19.cell? ⟨gb439, 1, none⟩ = some (.slice none 0 0) := (blk_cell BK439.out 1).trans rfl
     have hfz31_0 := blk_frozen BK439.out 0
     have hfz31_1 := blk_frozen BK439.out 1
     go_wp2_with (first | (go_at_call 33; (with_reducible refine (laws_rInts.calls k _ _ t429 _ _ t435 t440 _ ?side1 ?side2 ?side3 ?side4 A26.out).mono ?_); (case side1 => refine (Kd.Q_reads' (e := 3) (base := w.heap.size) (ok := fun k_ => ((True ∧ z8_S k_ Ao11 t422.length co11) ∧ z8_S k_ Ao23 t435.length co23)) (n := t429.length) (c := co16) ?_).2.2; exact (by (with_reducible repeat (first | apply Kd.Q_alloc | apply Kd.Q_drewN | apply Kd.Q_drew)); exact (Kd.Q_mono (Kd.Q_far (p := ⟨gb439, 1, none⟩) (Kd.Q_far (p := ⟨gb439, 0, none⟩) (Kd.Q_types HO431.out BK439.out (by decide)) (fun _ hk => hk.2) (.int .i64 t434)) (fun _ hk => hk.2) (.slice Ao23 t435.length co23)) (fun _ h_ => h_.1)))); (case side2 => exact (Kd.Q_reads' HO431.out).2.1); (case side3 => refine (Kd.R_reads' (e := 3) (base := w.heap.size) (ok := fun k_ => ((True ∧ z8_S k_ Ao11 t422.length co11) ∧ z8_S k_ Ao16 t429.length co16)) (n := t435.length) (c := co23) ?_).2.2; exact (by (with_reducible repeat (first | apply Kd.R_alloc | apply Kd.R_drewN | apply Kd.R_drew)); exact (Kd.R_mono (Kd.R_far (p := ⟨gb439, 1, none⟩) (Kd.R_far (p := ⟨gb439, 0, none⟩) (Kd.R_types HO437.out BK439.out (by decide)) (fun _ hk => hk.2) (.int .i64 t434)) (fun _ hk => hk.2) (.slice Ao23 t435.length co23)) (fun _ h_ => h_.1)))); (case side4 => exact (Kd.R_reads' HO437.out).2.1); rintro e w' ⟨rfl, ⟨nd, rfl⟩⟩))
     go_meet
     case rel => exact ⟨_, (!t440), z8_13, H', ⟨by first | omega | exact Nat.le_refl _⟩, ⟨Kd.Q_of_R z8_19⟩, ⟨z8_20⟩, ⟨Kd.Q_of_R z8_18⟩, ⟨z8_17⟩, ⟨z8_16⟩, ⟨z8_12⟩, ⟨z8_1⟩⟩
    ·rw [if_neg c25] at H
     have c25b0 : (t428 == t434) = false := beq_eq_false_iff_ne.mpr c25
     have c25b1 : (t428 != t434) = true := bne_iff_ne.mpr c25
     have H' := z8_A H
     clear H
     have hnb32 := NB433_427.out
     have hnc32 := NB427_433.out
     have hnb33 := NB433_439.out
     have hnc33 := NB439_433.out
     have hcz34_0 : w19.cell? ⟨gb433, 0, none⟩ = some (.int .i64 t428) := (blk_cell BK433.out 0).trans rfl
     have hcz34_1 : w19.cell? ⟨gb433, 1, none⟩ = some (.slice Ao16 t429.length co16) := (blk_cell BK433.out 1).trans rfl
     have hfz34_0 := blk_frozen BK433.out 0
     have hfz34_1 := blk_frozen BK433.out 1
     have hnb35 := NB439_427.out
     have hnc35 := NB427_439.out
     have hcz36_0 : w19.cell? ⟨gb439, 0, none⟩ = some (.int .i64 0) := (blk_cell BK439.out 0).trans rfl
     have hcz36_1 : w19.cell? ⟨gb439, 1, none⟩ = some (.slice none 0 0) := (blk_cell BK439.out 1).trans rfl
     have hfz36_0 := blk_frozen BK439.out 0
     have hfz36_1 := blk_frozen BK439.out 1
     go_wp2
     go_meet
     case rel => exact ⟨_, (true), z8_13, H', ⟨by first | omega | exact Nat.le_refl _⟩, ⟨Kd.Q_of_R z8_19⟩, ⟨z8_20⟩, ⟨Kd.Q_of_R z8_18⟩, ⟨z8_17⟩, ⟨z8_16⟩, ⟨z8_12⟩, ⟨z8_1⟩⟩
  case rest => as_aux_lemma =>
   clear HC7
   (try clear c1); (try clear c2); (try clear p2); (try clear c3); (try clear c6); (try clear c14); (try clear c20); (try clear c21); (try clear c24); (try clear c24b0); (try clear c24b1); (try clear c24b2); (try clear c25); (try clear c25b0); (try clear c25b1); (try clear c27); (try clear c28); (try clear c29); (try clear c30); (try clear c31); (try clear c32); (try clear c33); (try clear c35); (try clear hcz10_0); (try clear hcz10_1); (try clear hcz15_0); (try clear hcz15_1); (try clear hcz17_0); (try clear hcz17_1); (try clear hcz22_0); (try clear hcz22_1); (try clear hcz29_0); (try clear hcz29_1); (try clear hcz31_0); (try clear hcz31_1); (try clear hcz34_0); (try clear hcz34_1); (try clear hcz36_0); (try clear hcz36_1); (try clear hfz10_0); (try clear hfz10_1); (try clear hfz15_0); (try clear hfz15_1); (try clear hfz17_0); (try clear hfz17_1); (try clear hfz22_0); (try clear hfz22_1); (try clear hfz29_0); (try clear hfz29_1); (try clear hfz31_0); (try clear hfz31_1); (try clear hfz34_0); (try clear hfz34_1); (try clear hfz36_0); (try clear hfz36_1)
   obtain ⟨kq, x81_6, rfl, HA, HJ6, HO_428001, HO_434001, HO_440001, BK427, BK433, BK439, HB⟩ := hcut
   cases kq with
   | zero => exact absurd HA.out (by simp [laws_FnDays.j0])
   | succ kj6 =>
    have H := HA.out
    clear HA
    simp only [laws_FnDays.j0] at H
    by_cases c37 : x81_6 = true
    ·subst c37
     have H1 : (some false) = some r := z8_31
     clear H
     have H := H1
     clear H1
     obtain rfl := Option.some.inj H
     go_wp2
     go_ret
     exact ⟨z8_10, z8_1⟩
    ·replace c37 := Bool.eq_false_iff.mpr c37
     subst c37
     have H1 : ((impl_PositionOf.f kj6 t421 t422).bind fun bt441 => ((spec_PositionOf.f kj6 t421 t422).bind fun bt443 => (if bt441.1 = bt443.1 then (if (bt441.2 != bt443.2) = true then (laws_FnDays.j1 kj6 l0 t425 t426 t432 bt441.1 true t421 t422 t428 t429) else ((impl_IsFlow.f kj6 t421 t422).bind fun t445 => (if (bt441.2 != t445) = true then (laws_FnDays.j1 kj6 l0 t425 t426 t432 bt441.1 true t421 t422 t428 t429) else (if t432 = true then (laws_FnDays.j1 kj6 l0 t425 t426 t432 bt441.1 (!bt441.2) t421 t422 t428 t429) else (laws_FnDays.j1 kj6 l0 t425 t426 t432 bt441.1 false t421 t422 t428 t429))))) else (laws_FnDays.j1 kj6 l0 t425 t426 t432 bt441.1 true t421 t422 t428 t429)))) = some r := z8_22
     clear H
     have H := H1
     clear H1
     replace H := Option.bind_eq_some_iff.mp H
     obtain ⟨⟨t441, t442⟩, A380, H⟩ := H
     (try dsimp only at H)
     have A38 := z8_A A380
     clear A380
     replace H := Option.bind_eq_some_iff.mp H
     obtain ⟨⟨t443, t444⟩, A390, H⟩ := H
     (try dsimp only at H)
     have A39 := z8_A A390
     clear A390
     have HC40 := z8_A H
     clear H
     have hnb41 := NB427_433.out
     have hnc41 := NB433_427.out
     have hnb42 := NB427_439.out
     have hnc42 := NB439_427.out
     have hcz43_0 : wc.cell? ⟨gb427, 0, none⟩ = some (.int .i64 t421) := (blk_cell BK427.out 0).trans rfl
     have hcz43_1 : wc.cell? ⟨gb427, 1, none⟩ = some (.slice Ao11 t422.length co11) := (blk_cell BK427.out 1).trans rfl
     have hfz43_0 := blk_frozen BK427.out 0
     have hfz43_1 := blk_frozen BK427.out 1
     go_upto_region 10 with (first | ((with_reducible refine gate_callee (f := 34) rfl ?_); refine goesL_ (some 84) rfl rfl Try.func34 z8_27 rfl #[.agg #[.int .i64 t421, .slice Ao11 t422.length co11]] rfl z8_8 ?_; (with_reducible refine (impl_PositionOf.calls kj6 t421 _ _ t422 t441 t442 _ ?side1 ?side2 A38.out).mono ?_); (case side1 => have zh := (Kd.Q_reads' HO_428001.out).2.2; exact z8_C); (case side2 => exact (Kd.Q_reads' HO_428001.out).2.1); rintro e w44 ⟨rfl, hb⟩; refine ⟨_, rfl, ?_⟩; have n0_ := z8_A (Kd.Q_below z8_7 hb); have n1_ := z8_A (Kd.Q_below z8_6 hb); have n2_ := z8_A (Kd.Q_below z8_5 hb); have n3_ := z8_A (blk_below (g := gb427) (o := .cells #[.int .i64 t421, .slice Ao11 t422.length co11] 30 (0, 0)) z8_2 hb); have n4_ := z8_A (blk_below (g := gb433) (o := .cells #[.int .i64 t428, .slice Ao16 t429.length co16] 30 (0, 0)) z8_3 hb); have n5_ := z8_A (blk_below (g := gb439) (o := .cells #[.int .i64 t434, .slice Ao23 t435.length co23] 30 (0, 0)) z8_4 hb); have n6_ := z8_A (below_step z8_1 hb); clear HO_428001 HO_434001 HO_440001 BK427 BK433 BK439 HB; revert n0_ n1_ n2_ n3_ n4_ n5_ n6_; intro HO_428001 HO_434001 HO_440001 BK427 BK433 BK439 HB; (try clear hb); (try clear hb2); (try clear hk); (try clear hi); have hcz45_0 : w44.cell? ⟨gb427, 0, none⟩ = some (.int .i64 t421) := (blk_cell BK427.out 0).trans rfl; have hcz45_1 : w44.cell? ⟨gb427, 1, none⟩ = some (.slice Ao11 t422.length co11) := (blk_cell BK427.out 1).trans rfl; have hfz45_0 := blk_frozen BK427.out 0; have hfz45_1 := blk_frozen BK427.out 1) | ((with_reducible refine gate_callee (f := 35) rfl ?_); refine goesL_ (some 89) rfl rfl Try.func35 z8_27 rfl #[.agg #[.int .i64 t421, .slice Ao11 t422.length co11]] rfl z8_8 ?_; (with_reducible refine (spec_PositionOf.calls kj6 t421 _ _ t422 t443 t444 _ ?side1 ?side2 A39.out).mono ?_); (case side1 => have zh := (Kd.Q_reads' HO_428001.out).2.2; exact z8_C); (case side2 => exact (Kd.Q_reads' HO_428001.out).2.1); rintro e w46 ⟨rfl, hb⟩; refine ⟨_, rfl, ?_⟩; have n0_ := z8_A (Kd.Q_below z8_7 hb); have n1_ := z8_A (Kd.Q_below z8_6 hb); have n2_ := z8_A (Kd.Q_below z8_5 hb); have n3_ := z8_A (blk_below (g := gb427) (o := .cells #[.int .i64 t421, .slice Ao11 t422.length co11] 30 (0, 0)) z8_2 hb); have n4_ := z8_A (blk_below (g := gb433) (o := .cells #[.int .i64 t428, .slice Ao16 t429.length co16] 30 (0, 0)) z8_3 hb); have n5_ := z8_A (blk_below (g := gb439) (o := .cells #[.int .i64 t434, .slice Ao23 t435.length co23] 30 (0, 0)) z8_4 hb); have n6_ := z8_A (below_step z8_1 hb); clear HO_428001 HO_434001 HO_440001 BK427 BK433 BK439 HB; revert n0_ n1_ n2_ n3_ n4_ n5_ n6_; intro HO_428001 HO_434001 HO_440001 BK427 BK433 BK439 HB; (try clear hb); (try clear hb2); (try clear hk); (try clear hi)))
     (try simp only [Act.put, List.setIfInBounds_toArray, List.set_cons_zero, List.set_cons_succ])
     go_cut [112] (fun v112 wc => ∃ (kq : Nat) (x112_39 : Bool), v112 = .bool x112_39 ∧ Aside0 (laws_FnDays.j1 kq l0 t425 t426 t432 t441 x112_39 t421 t422 t428 t429 = some r) ∧ Aside0 (kq ≤ kj6) ∧ Aside0 (Kd.Q (Kd.int .i64) 3 wc w.heap.size (fun k_ => some k_ ≠ ((.slice Ao16 t429.length co16) : Value).ownBlock ∧ some k_ ≠ ((.slice Ao23 t435.length co23) : Value).ownBlock) (.slice Ao11 t422.length co11) t422) ∧ Aside0 (Kd.Q (Kd.int .i64) 3 wc w.heap.size (fun k_ => some k_ ≠ ((.slice Ao11 t422.length co11) : Value).ownBlock ∧ some k_ ≠ ((.slice Ao23 t435.length co23) : Value).ownBlock) (.slice Ao16 t429.length co16) t429) ∧ Aside0 (Kd.Q (Kd.int .i64) 3 wc w.heap.size (fun k_ => some k_ ≠ ((.slice Ao11 t422.length co11) : Value).ownBlock ∧ some k_ ≠ ((.slice Ao16 t429.length co16) : Value).ownBlock) (.slice Ao23 t435.length co23) t435) ∧ Aside0 (wc.heap[gb427]? = some (.cells #[.int .i64 t421, (.slice Ao11 t422.length co11)] 30 (0, 0))) ∧ Aside0 (wc.heap[gb433]? = some (.cells #[.int .i64 t428, (.slice Ao16 t429.length co16)] 30 (0, 0))) ∧ Aside0 (wc.heap[gb439]? = some (.cells #[.int .i64 t434, (.slice Ao23 t435.length co23)] 30 (0, 0))) ∧ Aside0 (Below w.heap.size w wc))
     case first => as_aux_lemma =>
      have H := HC40.out
      clear HC40
      by_cases c47 : t441 = t443
      ·rw [if_pos c47] at H
       have c47b0 : (t441 == t443) = true := beq_iff_eq.mpr c47
       have c47b1 : (t441 != t443) = false := bne_eq_false_iff_eq.mpr c47
       clear c47
       (first | rw [c47b0] | (simp only [i64_w, i32_w]; rw [c47b0]) | skip)
       by_cases c48 : (t442 != t444) = true
       ·rw [if_pos c48] at H
        have c48b0 : (t442 != t444) = true := c48
        (try (have c48b1 : decide (t442 = t444) = false := by simpa using c48))
        (try (have c48b2 : (t442 == t444) = false := by simpa using c48))
        (try (have c48b3 : ¬ (t442 = t444) := by simpa using c48))
        clear c48
        have H' := z8_A H
        clear H
        go_wp2
        go_meet
        case rel => exact ⟨_, (true), z8_13, H', ⟨z8_43⟩, ⟨z8_7⟩, ⟨z8_6⟩, ⟨z8_5⟩, ⟨z8_2⟩, ⟨z8_3⟩, ⟨z8_4⟩, ⟨z8_1⟩⟩
       ·rw [if_neg c48] at H
        have c48b0 : (t442 != t444) = false := by simpa using c48
        (try (have c48b1 : decide (t442 = t444) = true := by simpa using c48))
        (try (have c48b2 : (t442 == t444) = true := by simpa using c48))
        clear c48
        replace H := Option.bind_eq_some_iff.mp H
        obtain ⟨t445, A490, H⟩ := H
        (try dsimp only at H)
        have A49 := z8_A A490
        clear A490
        by_cases c50 : (t442 != t445) = true
        ·rw [if_pos c50] at H
         have c50b0 : (t442 != t445) = true := c50
         (try (have c50b1 : decide (t442 = t445) = false := by simpa using c50))
         (try (have c50b2 : (t442 == t445) = false := by simpa using c50))
         (try (have c50b3 : ¬ (t442 = t445) := by simpa using c50))
         clear c50
         have H' := z8_A H
         clear H
         have hnb51 := NB427_433.out
         have hnc51 := NB433_427.out
         have hnb52 := NB427_439.out
         have hnc52 := NB439_427.out
         have hcz53_0 : w46.cell? ⟨gb427, 0, none⟩ = some (.int .i64 t421) := (blk_cell BK427.out 0).trans rfl
         have hcz53_1 : w46.cell? ⟨gb427, 1, none⟩ = some (.slice Ao11 t422.length co11) := (blk_cell BK427.out 1).trans rfl
         have hfz53_0 := blk_frozen BK427.out 0
         have hfz53_1 := blk_frozen BK427.out 1
         go_wp2_with (first | (go_at_call 36; (with_reducible refine (impl_IsFlow.calls kj6 t421 _ _ t422 t445 _ ?side1 ?side2 A49.out).mono ?_); (case side1 => have zh := (Kd.Q_reads' HO_428001.out).2.2; exact z8_C); (case side2 => exact (Kd.Q_reads' HO_428001.out).2.1); rintro e w54 ⟨rfl, hb⟩; have n0_ := z8_A (Kd.Q_below z8_7 hb); have n1_ := z8_A (Kd.Q_below z8_6 hb); have n2_ := z8_A (Kd.Q_below z8_5 hb); have n3_ := z8_A (blk_below (g := gb427) (o := .cells #[.int .i64 t421, .slice Ao11 t422.length co11] 30 (0, 0)) z8_2 hb); have n4_ := z8_A (blk_below (g := gb433) (o := .cells #[.int .i64 t428, .slice Ao16 t429.length co16] 30 (0, 0)) z8_3 hb); have n5_ := z8_A (blk_below (g := gb439) (o := .cells #[.int .i64 t434, .slice Ao23 t435.length co23] 30 (0, 0)) z8_4 hb); have n6_ := z8_A (below_step z8_1 hb); clear HO_428001 HO_434001 HO_440001 BK427 BK433 BK439 HB; revert n0_ n1_ n2_ n3_ n4_ n5_ n6_; intro HO_428001 HO_434001 HO_440001 BK427 BK433 BK439 HB; (try clear hb); (try clear hb2); (try clear hk); (try clear hi)))
         go_meet
         case rel => exact ⟨_, (true), z8_13, H', ⟨z8_43⟩, ⟨z8_7⟩, ⟨z8_6⟩, ⟨z8_5⟩, ⟨z8_2⟩, ⟨z8_3⟩, ⟨z8_4⟩, ⟨z8_1⟩⟩
        ·rw [if_neg c50] at H
         have c50b0 : (t442 != t445) = false := by simpa using c50
         (try (have c50b1 : decide (t442 = t445) = true := by simpa using c50))
         (try (have c50b2 : (t442 == t445) = true := by simpa using c50))
         clear c50
         by_cases c55 : t432 = true
         ·subst c55
          have H1 : (laws_FnDays.j1 kj6 l0 t425 t426 true t441 (!t442) t421 t422 t428 t429) = some r := z8_31
          clear H
          have H := H1
          clear H1
          have H' := z8_A H
          clear H
          have hnb56 := NB427_433.out
          have hnc56 := NB433_427.out
          have hnb57 := NB427_439.out
          have hnc57 := NB439_427.out
          have hcz58_0 : w46.cell? ⟨gb427, 0, none⟩ = some (.int .i64 t421) := (blk_cell BK427.out 0).trans rfl
          have hcz58_1 : w46.cell? ⟨gb427, 1, none⟩ = some (.slice Ao11 t422.length co11) := (blk_cell BK427.out 1).trans rfl
          have hfz58_0 := blk_frozen BK427.out 0
          have hfz58_1 := blk_frozen BK427.out 1
          go_wp2_with (first | (go_at_call 36; (with_reducible refine (impl_IsFlow.calls kj6 t421 _ _ t422 t445 _ ?side1 ?side2 A49.out).mono ?_); (case side1 => have zh := (Kd.Q_reads' HO_428001.out).2.2; exact z8_C); (case side2 => exact (Kd.Q_reads' HO_428001.out).2.1); rintro e w59 ⟨rfl, hb⟩; have n0_ := z8_A (Kd.Q_below z8_7 hb); have n1_ := z8_A (Kd.Q_below z8_6 hb); have n2_ := z8_A (Kd.Q_below z8_5 hb); have n3_ := z8_A (blk_below (g := gb427) (o := .cells #[.int .i64 t421, .slice Ao11 t422.length co11] 30 (0, 0)) z8_2 hb); have n4_ := z8_A (blk_below (g := gb433) (o := .cells #[.int .i64 t428, .slice Ao16 t429.length co16] 30 (0, 0)) z8_3 hb); have n5_ := z8_A (blk_below (g := gb439) (o := .cells #[.int .i64 t434, .slice Ao23 t435.length co23] 30 (0, 0)) z8_4 hb); have n6_ := z8_A (below_step z8_1 hb); clear HO_428001 HO_434001 HO_440001 BK427 BK433 BK439 HB; revert n0_ n1_ n2_ n3_ n4_ n5_ n6_; intro HO_428001 HO_434001 HO_440001 BK427 BK433 BK439 HB; (try clear hb); (try clear hb2); (try clear hk); (try clear hi)))
          go_meet
          case rel => exact ⟨_, (!t442), z8_13, H', ⟨z8_43⟩, ⟨z8_7⟩, ⟨z8_6⟩, ⟨z8_5⟩, ⟨z8_2⟩, ⟨z8_3⟩, ⟨z8_4⟩, ⟨z8_1⟩⟩
         ·replace c55 := Bool.eq_false_iff.mpr c55
          subst c55
          have H1 : (laws_FnDays.j1 kj6 l0 t425 t426 false t441 false t421 t422 t428 t429) = some r := z8_22
          clear H
          have H := H1
          clear H1
          have H' := z8_A H
          clear H
          have hnb60 := NB427_433.out
          have hnc60 := NB433_427.out
          have hnb61 := NB427_439.out
          have hnc61 := NB439_427.out
          have hcz62_0 : w46.cell? ⟨gb427, 0, none⟩ = some (.int .i64 t421) := (blk_cell BK427.out 0).trans rfl
          have hcz62_1 : w46.cell? ⟨gb427, 1, none⟩ = some (.slice Ao11 t422.length co11) := (blk_cell BK427.out 1).trans rfl
          have hfz62_0 := blk_frozen BK427.out 0
          have hfz62_1 := blk_frozen BK427.out 1
          go_wp2_with (first | (go_at_call 36; (with_reducible refine (impl_IsFlow.calls kj6 t421 _ _ t422 t445 _ ?side1 ?side2 A49.out).mono ?_); (case side1 => have zh := (Kd.Q_reads' HO_428001.out).2.2; exact z8_C); (case side2 => exact (Kd.Q_reads' HO_428001.out).2.1); rintro e w63 ⟨rfl, hb⟩; have n0_ := z8_A (Kd.Q_below z8_7 hb); have n1_ := z8_A (Kd.Q_below z8_6 hb); have n2_ := z8_A (Kd.Q_below z8_5 hb); have n3_ := z8_A (blk_below (g := gb427) (o := .cells #[.int .i64 t421, .slice Ao11 t422.length co11] 30 (0, 0)) z8_2 hb); have n4_ := z8_A (blk_below (g := gb433) (o := .cells #[.int .i64 t428, .slice Ao16 t429.length co16] 30 (0, 0)) z8_3 hb); have n5_ := z8_A (blk_below (g := gb439) (o := .cells #[.int .i64 t434, .slice Ao23 t435.length co23] 30 (0, 0)) z8_4 hb); have n6_ := z8_A (below_step z8_1 hb); clear HO_428001 HO_434001 HO_440001 BK427 BK433 BK439 HB; revert n0_ n1_ n2_ n3_ n4_ n5_ n6_; intro HO_428001 HO_434001 HO_440001 BK427 BK433 BK439 HB; (try clear hb); (try clear hb2); (try clear hk); (try clear hi)))
          go_meet
          case rel => exact ⟨_, (false), z8_13, H', ⟨z8_43⟩, ⟨z8_7⟩, ⟨z8_6⟩, ⟨z8_5⟩, ⟨z8_2⟩, ⟨z8_3⟩, ⟨z8_4⟩, ⟨z8_1⟩⟩
      ·rw [if_neg c47] at H
       have c47b0 : (t441 == t443) = false := beq_eq_false_iff_ne.mpr c47
       have c47b1 : (t441 != t443) = true := bne_iff_ne.mpr c47
       (first | rw [c47b0] | (simp only [i64_w, i32_w]; rw [c47b0]) | skip)
       have H' := z8_A H
       clear H
       go_wp2
       go_meet
       case rel => exact ⟨_, (true), z8_13, H', ⟨z8_43⟩, ⟨z8_7⟩, ⟨z8_6⟩, ⟨z8_5⟩, ⟨z8_2⟩, ⟨z8_3⟩, ⟨z8_4⟩, ⟨z8_1⟩⟩
     case rest => as_aux_lemma =>
      clear HC40
      (try clear c1); (try clear c2); (try clear p2); (try clear c3); (try clear c4); (try clear c5); (try clear c6); (try clear c14); (try clear c20); (try clear c21); (try clear c24); (try clear c24b0); (try clear c24b1); (try clear c24b2); (try clear c25); (try clear c25b0); (try clear c25b1); (try clear c27); (try clear c28); (try clear c29); (try clear c30); (try clear c31); (try clear c32); (try clear c33); (try clear c34); (try clear c35); (try clear c37); (try clear c41); (try clear c42); (try clear c47); (try clear c47b0); (try clear c47b1); (try clear c48); (try clear c48b0); (try clear c48b1); (try clear c48b2); (try clear c50); (try clear c50b0); (try clear c50b1); (try clear c50b2); (try clear c51); (try clear c52); (try clear c55); (try clear c56); (try clear c57); (try clear c60); (try clear c61); (try clear hcz10_0); (try clear hcz10_1); (try clear hcz15_0); (try clear hcz15_1); (try clear hcz17_0); (try clear hcz17_1); (try clear hcz22_0); (try clear hcz22_1); (try clear hcz29_0); (try clear hcz29_1); (try clear hcz31_0); (try clear hcz31_1); (try clear hcz34_0); (try clear hcz34_1); (try clear hcz36_0); (try clear hcz36_1); (try clear hcz43_0); (try clear hcz43_1); (try clear hcz45_0); (try clear hcz45_1); (try clear hcz53_0); (try clear hcz53_1); (try clear hcz58_0); (try clear hcz58_1); (try clear hcz62_0); (try clear hcz62_1); (try clear hfz10_0); (try clear hfz10_1); (try clear hfz15_0); (try clear hfz15_1); (try clear hfz17_0); (try clear hfz17_1); (try clear hfz22_0); (try clear hfz22_1); (try clear hfz29_0); (try clear hfz29_1); (try clear hfz31_0); (try clear hfz31_1); (try clear hfz34_0); (try clear hfz34_1); (try clear hfz36_0); (try clear hfz36_1); (try clear hfz43_0); (try clear hfz43_1); (try clear hfz45_0); (try clear hfz45_1); (try clear hfz53_0); (try clear hfz53_1); (try clear hfz58_0); (try clear hfz58_1); (try clear hfz62_0); (try clear hfz62_1); (try clear p2)
      obtain ⟨kq, x112_39, rfl, HA, HJ39, HO_428001, HO_434001, HO_440001, BK427, BK433, BK439, HB⟩ := hcut
      cases kq with
      | zero => exact absurd HA.out (by simp [laws_FnDays.j1])
      | succ kj39 =>
       have H := HA.out
       clear HA
       simp only [laws_FnDays.j1] at H
       by_cases c64 : x112_39 = true
       ·subst c64
        have H1 : (some false) = some r := z8_31
        clear H
        have H := H1
        clear H1
        obtain rfl := Option.some.inj H
        go_wp2
        go_ret
        exact ⟨z8_10, z8_1⟩
       ·replace c64 := Bool.eq_false_iff.mpr c64
        subst c64
        have H1 : (if t432 = true then ((impl_PositionOf.f kj39 t428 t429).bind fun bt446 => (if bt446.2 = true then (if bt446.1 = (wrap64 ((wrap64 (t441 + t425)) - t426)) then (if (t429.length : Int) = (t422.length : Int) then (laws_FnDays.j2 kj39 l0) else (some false)) else (some false)) else (some false))) else (laws_FnDays.j2 kj39 l0)) = some r := z8_22
        clear H
        have H := H1
        clear H1
        have HC65 := z8_A H
        clear H
        go_upto_if 113 with (fail)
        go_cut [] (fun wc => ∃ (kq : Nat), Aside0 (laws_FnDays.j2 kq l0 = some r) ∧ Aside0 (kq ≤ kj39) ∧ Aside0 (Kd.Q (Kd.int .i64) 3 wc w.heap.size (fun k_ => some k_ ≠ ((.slice Ao16 t429.length co16) : Value).ownBlock ∧ some k_ ≠ ((.slice Ao23 t435.length co23) : Value).ownBlock) (.slice Ao11 t422.length co11) t422) ∧ Aside0 (Kd.Q (Kd.int .i64) 3 wc w.heap.size (fun k_ => some k_ ≠ ((.slice Ao11 t422.length co11) : Value).ownBlock ∧ some k_ ≠ ((.slice Ao23 t435.length co23) : Value).ownBlock) (.slice Ao16 t429.length co16) t429) ∧ Aside0 (Kd.Q (Kd.int .i64) 3 wc w.heap.size (fun k_ => some k_ ≠ ((.slice Ao11 t422.length co11) : Value).ownBlock ∧ some k_ ≠ ((.slice Ao16 t429.length co16) : Value).ownBlock) (.slice Ao23 t435.length co23) t435) ∧ Aside0 (wc.heap[gb427]? = some (.cells #[.int .i64 t421, (.slice Ao11 t422.length co11)] 30 (0, 0))) ∧ Aside0 (wc.heap[gb433]? = some (.cells #[.int .i64 t428, (.slice Ao16 t429.length co16)] 30 (0, 0))) ∧ Aside0 (wc.heap[gb439]? = some (.cells #[.int .i64 t434, (.slice Ao23 t435.length co23)] 30 (0, 0))) ∧ Aside0 (Below w.heap.size w wc))
        case first => as_aux_lemma =>
         have H := HC65.out
         clear HC65
         by_cases c66 : t432 = true
         ·subst c66
          have H1 : ((impl_PositionOf.f kj39 t428 t429).bind fun bt446 => (if bt446.2 = true then (if bt446.1 = (wrap64 ((wrap64 (t441 + t425)) - t426)) then (if (t429.length : Int) = (t422.length : Int) then (laws_FnDays.j2 kj39 l0) else (some false)) else (some false)) else (some false))) = some r := z8_31
          clear H
          have H := H1
          clear H1
          replace H := Option.bind_eq_some_iff.mp H
          obtain ⟨⟨t446, t447⟩, A670, H⟩ := H
          (try dsimp only at H)
          have A67 := z8_A A670
          clear A670
          by_cases c68 : t447 = true
          ·subst c68
           have H1 : (if t446 = (wrap64 ((wrap64 (t441 + t425)) - t426)) then (if (t429.length : Int) = (t422.length : Int) then (laws_FnDays.j2 kj39 l0) else (some false)) else (some false)) = some r := z8_31
           clear H
           have H := H1
           clear H1
           by_cases c69 : t446 = (wrap64 ((wrap64 (t441 + t425)) - t426))
           ·rw [if_pos c69] at H
            have c69b0 : (t446 == (wrap64 ((wrap64 (t441 + t425)) - t426))) = true := beq_iff_eq.mpr c69
            have c69b1 : (t446 != (wrap64 ((wrap64 (t441 + t425)) - t426))) = false := bne_eq_false_iff_eq.mpr c69
            clear c69
            (first | rw [c69b0] | (simp only [i64_w, i32_w]; rw [c69b0]) | skip)
            by_cases c70 : (t429.length : Int) = (t422.length : Int)
            ·rw [if_pos c70] at H
             have c70b0 : ((t429.length : Int) == (t422.length : Int)) = true := beq_iff_eq.mpr c70
             have c70b1 : ((t429.length : Int) != (t422.length : Int)) = false := bne_eq_false_iff_eq.mpr c70
             have c70b2 : (t429.length == t422.length) = true := by first | simpa using c70 | (simp at c70 ⊢; omega)
             clear c70
             have H' := z8_A H
             clear H
             have hnb71 := NB433_427.out
             have hnc71 := NB427_433.out
             have hnb72 := NB433_439.out
             have hnc72 := NB439_433.out
             have hcz73_0 : wc.cell? ⟨gb433, 0, none⟩ = some (.int .i64 t428) := (blk_cell BK433.out 0).trans rfl
             have hcz73_1 : wc.cell? ⟨gb433, 1, none⟩ = some (.slice Ao16 t429.length co16) := (blk_cell BK433.out 1).trans rfl
             have hfz73_0 := blk_frozen BK433.out 0
             have hfz73_1 := blk_frozen BK433.out 1
             go_wp2_with (first | ((with_reducible refine gate_callee (f := 34) rfl ?_); refine goesL_ (some 116) rfl rfl Try.func34 z8_27 rfl #[.agg #[.int .i64 t428, .slice Ao16 t429.length co16]] rfl z8_8 ?_; (with_reducible refine (impl_PositionOf.calls kj39 t428 _ _ t429 t446 true _ ?side1 ?side2 A67.out).mono ?_); (case side1 => have zh := (Kd.Q_reads' HO_434001.out).2.2; exact z8_C); (case side2 => exact (Kd.Q_reads' HO_434001.out).2.1); rintro e w74 ⟨rfl, hb⟩; refine ⟨_, rfl, ?_⟩; have n0_ := z8_A (Kd.Q_below z8_7 hb); have n1_ := z8_A (Kd.Q_below z8_6 hb); have n2_ := z8_A (Kd.Q_below z8_5 hb); have n3_ := z8_A (blk_below (g := gb427) (o := .cells #[.int .i64 t421, .slice Ao11 t422.length co11] 30 (0, 0)) z8_2 hb); have n4_ := z8_A (blk_below (g := gb433) (o := .cells #[.int .i64 t428, .slice Ao16 t429.length co16] 30 (0, 0)) z8_3 hb); have n5_ := z8_A (blk_below (g := gb439) (o := .cells #[.int .i64 t434, .slice Ao23 t435.length co23] 30 (0, 0)) z8_4 hb); have n6_ := z8_A (below_step z8_1 hb); clear HO_428001 HO_434001 HO_440001 BK427 BK433 BK439 HB; revert n0_ n1_ n2_ n3_ n4_ n5_ n6_; intro HO_428001 HO_434001 HO_440001 BK427 BK433 BK439 HB; (try clear hb); (try clear hb2); (try clear hk); (try clear hi); have hcz75_0 : w74.cell? ⟨gb433, 0, none⟩ = some (.int .i64 t428) := (blk_cell BK433.out 0).trans rfl; have hcz75_1 : w74.cell? ⟨gb433, 1, none⟩ = some (.slice Ao16 t429.length co16) := (blk_cell BK433.out 1).trans rfl; have hfz75_0 := blk_frozen BK433.out 0; have hfz75_1 := blk_frozen BK433.out 1; have hnb76 := NB427_439.out; have hnc76 := NB439_427.out; have hcz77_0 : w74.cell? ⟨gb427, 0, none⟩ = some (.int .i64 t421) := (blk_cell BK427.out 0).trans rfl; have hcz77_1 : w74.cell? ⟨gb427, 1, none⟩ = some (.slice Ao11 t422.length co11) := (blk_cell BK427.out 1).trans rfl; have hfz77_0 := blk_frozen BK427.out 0; have hfz77_1 := blk_frozen BK427.out 1))
             go_meet
             case rel => exact ⟨_, H', ⟨by have := HJ6.out; have := HJ39.out; first | omega | exact Nat.le_refl _⟩, ⟨z8_7⟩, ⟨z8_6⟩, ⟨z8_5⟩, ⟨z8_2⟩, ⟨z8_3⟩, ⟨z8_4⟩, ⟨z8_1⟩⟩
            ·rw [if_neg c70] at H
             have c70b0 : ((t429.length : Int) == (t422.length : Int)) = false := beq_eq_false_iff_ne.mpr c70
             have c70b1 : ((t429.length : Int) != (t422.length : Int)) = true := bne_iff_ne.mpr c70
             have c70b2 : (t429.length == t422.length) = false := by first | simpa using c70 | (simp at c70 ⊢; omega)
             obtain rfl := Option.some.inj H
             have hnb78 := NB433_427.out
             have hnc78 := NB427_433.out
             have hnb79 := NB433_439.out
             have hnc79 := NB439_433.out
             have hcz80_0 : wc.cell? ⟨gb433, 0, none⟩ = some (.int .i64 t428) := (blk_cell BK433.out 0).trans rfl
             have hcz80_1 : wc.cell? ⟨gb433, 1, none⟩ = some (.slice Ao16 t429.length co16) := (blk_cell BK433.out 1).trans rfl
             have hfz80_0 := blk_frozen BK433.out 0
             have hfz80_1 := blk_frozen BK433.out 1
             go_wp2_with (first | ((with_reducible refine gate_callee (f := 34) rfl ?_); refine goesL_ (some 116) rfl rfl Try.func34 z8_27 rfl #[.agg #[.int .i64 t428, .slice Ao16 t429.length co16]] rfl z8_8 ?_; (with_reducible refine (impl_PositionOf.calls kj39 t428 _ _ t429 t446 true _ ?side1 ?side2 A67.out).mono ?_); (case side1 => have zh := (Kd.Q_reads' HO_434001.out).2.2; exact z8_C); (case side2 => exact (Kd.Q_reads' HO_434001.out).2.1); rintro e w81 ⟨rfl, hb⟩; refine ⟨_, rfl, ?_⟩; have n0_ := z8_A (Kd.Q_below z8_7 hb); have n1_ := z8_A (Kd.Q_below z8_6 hb); have n2_ := z8_A (Kd.Q_below z8_5 hb); have n3_ := z8_A (blk_below (g := gb427) (o := .cells #[.int .i64 t421, .slice Ao11 t422.length co11] 30 (0, 0)) z8_2 hb); have n4_ := z8_A (blk_below (g := gb433) (o := .cells #[.int .i64 t428, .slice Ao16 t429.length co16] 30 (0, 0)) z8_3 hb); have n5_ := z8_A (blk_below (g := gb439) (o := .cells #[.int .i64 t434, .slice Ao23 t435.length co23] 30 (0, 0)) z8_4 hb); have n6_ := z8_A (below_step z8_1 hb); clear HO_428001 HO_434001 HO_440001 BK427 BK433 BK439 HB; revert n0_ n1_ n2_ n3_ n4_ n5_ n6_; intro HO_428001 HO_434001 HO_440001 BK427 BK433 BK439 HB; (try clear hb); (try clear hb2); (try clear hk); (try clear hi); have hcz82_0 : w81.cell? ⟨gb433, 0, none⟩ = some (.int .i64 t428) := (blk_cell BK433.out 0).trans rfl; have hcz82_1 : w81.cell? ⟨gb433, 1, none⟩ = some (.slice Ao16 t429.length co16) := (blk_cell BK433.out 1).trans rfl; have hfz82_0 := blk_frozen BK433.out 0; have hfz82_1 := blk_frozen BK433.out 1; have hnb83 := NB427_439.out; have hnc83 := NB439_427.out; have hcz84_0 : w81.cell? ⟨gb427, 0, none⟩ = some (.int .i64 t421) := (blk_cell BK427.out 0).trans rfl; have hcz84_1 : w81.cell? ⟨gb427, 1, none⟩ = some (.slice Ao11 t422.length co11) := (blk_cell BK427.out 1).trans rfl; have hfz84_0 := blk_frozen BK427.out 0; have hfz84_1 := blk_frozen BK427.out 1))
             go_ret
             exact ⟨z8_10, z8_1⟩
           ·rw [if_neg c69] at H
            have c69b0 : (t446 == (wrap64 ((wrap64 (t441 + t425)) - t426))) = false := beq_eq_false_iff_ne.mpr c69
            have c69b1 : (t446 != (wrap64 ((wrap64 (t441 + t425)) - t426))) = true := bne_iff_ne.mpr c69
            (first | rw [c69b0] | (simp only [i64_w, i32_w]; rw [c69b0]) | skip)
            obtain rfl := Option.some.inj H
            have hnb85 := NB433_427.out
            have hnc85 := NB427_433.out
            have hnb86 := NB433_439.out
            have hnc86 := NB439_433.out
            have hcz87_0 : wc.cell? ⟨gb433, 0, none⟩ = some (.int .i64 t428) := (blk_cell BK433.out 0).trans rfl
            have hcz87_1 : wc.cell? ⟨gb433, 1, none⟩ = some (.slice Ao16 t429.length co16) := (blk_cell BK433.out 1).trans rfl
            have hfz87_0 := blk_frozen BK433.out 0
            have hfz87_1 := blk_frozen BK433.out 1
            go_wp2_with (first | ((with_reducible refine gate_callee (f := 34) rfl ?_); refine goesL_ (some 116) rfl rfl Try.func34 z8_27 rfl #[.agg #[.int .i64 t428, .slice Ao16 t429.length co16]] rfl z8_8 ?_; (with_reducible refine (impl_PositionOf.calls kj39 t428 _ _ t429 t446 true _ ?side1 ?side2 A67.out).mono ?_); (case side1 => have zh := (Kd.Q_reads' HO_434001.out).2.2; exact z8_C); (case side2 => exact (Kd.Q_reads' HO_434001.out).2.1); rintro e w88 ⟨rfl, hb⟩; refine ⟨_, rfl, ?_⟩; have n0_ := z8_A (Kd.Q_below z8_7 hb); have n1_ := z8_A (Kd.Q_below z8_6 hb); have n2_ := z8_A (Kd.Q_below z8_5 hb); have n3_ := z8_A (blk_below (g := gb427) (o := .cells #[.int .i64 t421, .slice Ao11 t422.length co11] 30 (0, 0)) z8_2 hb); have n4_ := z8_A (blk_below (g := gb433) (o := .cells #[.int .i64 t428, .slice Ao16 t429.length co16] 30 (0, 0)) z8_3 hb); have n5_ := z8_A (blk_below (g := gb439) (o := .cells #[.int .i64 t434, .slice Ao23 t435.length co23] 30 (0, 0)) z8_4 hb); have n6_ := z8_A (below_step z8_1 hb); clear HO_428001 HO_434001 HO_440001 BK427 BK433 BK439 HB; revert n0_ n1_ n2_ n3_ n4_ n5_ n6_; intro HO_428001 HO_434001 HO_440001 BK427 BK433 BK439 HB; (try clear hb); (try clear hb2); (try clear hk); (try clear hi)))
            go_ret
            exact ⟨z8_10, z8_1⟩
          ·replace c68 := Bool.eq_false_iff.mpr c68
           subst c68
           have H1 : (some false) = some r := z8_22
           clear H
           have H := H1
           clear H1
           obtain rfl := Option.some.inj H
           have hnb89 := NB433_427.out
           have hnc89 := NB427_433.out
           have hnb90 := NB433_439.out
           have hnc90 := NB439_433.out
           have hcz91_0 : wc.cell? ⟨gb433, 0, none⟩ = some (.int .i64 t428) := (blk_cell BK433.out 0).trans rfl
           have hcz91_1 : wc.cell? ⟨gb433, 1, none⟩ = some (.slice Ao16 t429.length co16) := (blk_cell BK433.out 1).trans rfl
           have hfz91_0 := blk_frozen BK433.out 0
           have hfz91_1 := blk_frozen BK433.out 1
           go_wp2_with (first | ((with_reducible refine gate_callee (f := 34) rfl ?_); refine goesL_ (some 116) rfl rfl Try.func34 z8_27 rfl #[.agg #[.int .i64 t428, .slice Ao16 t429.length co16]] rfl z8_8 ?_; (with_reducible refine (impl_PositionOf.calls kj39 t428 _ _ t429 t446 false _ ?side1 ?side2 A67.out).mono ?_); (case side1 => have zh := (Kd.Q_reads' HO_434001.out).2.2; exact z8_C); (case side2 => exact (Kd.Q_reads' HO_434001.out).2.1); rintro e w92 ⟨rfl, hb⟩; refine ⟨_, rfl, ?_⟩; have n0_ := z8_A (Kd.Q_below z8_7 hb); have n1_ := z8_A (Kd.Q_below z8_6 hb); have n2_ := z8_A (Kd.Q_below z8_5 hb); have n3_ := z8_A (blk_below (g := gb427) (o := .cells #[.int .i64 t421, .slice Ao11 t422.length co11] 30 (0, 0)) z8_2 hb); have n4_ := z8_A (blk_below (g := gb433) (o := .cells #[.int .i64 t428, .slice Ao16 t429.length co16] 30 (0, 0)) z8_3 hb); have n5_ := z8_A (blk_below (g := gb439) (o := .cells #[.int .i64 t434, .slice Ao23 t435.length co23] 30 (0, 0)) z8_4 hb); have n6_ := z8_A (below_step z8_1 hb); clear HO_428001 HO_434001 HO_440001 BK427 BK433 BK439 HB; revert n0_ n1_ n2_ n3_ n4_ n5_ n6_; intro HO_428001 HO_434001 HO_440001 BK427 BK433 BK439 HB; (try clear hb); (try clear hb2); (try clear hk); (try clear hi)))
           go_ret
           exact ⟨z8_10, z8_1⟩
         ·replace c66 := Bool.eq_false_iff.mpr c66
          subst c66
          have H1 : (laws_FnDays.j2 kj39 l0) = some r := z8_22
          clear H
          have H := H1
          clear H1
          have H' := z8_A H
          clear H
          go_wp2
          go_meet
          case rel => exact ⟨_, H', ⟨by have := HJ6.out; have := HJ39.out; first | omega | exact Nat.le_refl _⟩, ⟨z8_7⟩, ⟨z8_6⟩, ⟨z8_5⟩, ⟨z8_2⟩, ⟨z8_3⟩, ⟨z8_4⟩, ⟨z8_1⟩⟩
        case rest => as_aux_lemma =>
         clear HC65
         (try clear c1); (try clear c2); (try clear p2); (try clear c3); (try clear c4); (try clear c5); (try clear c6); (try clear p6); (try clear c7); (try clear c8); (try clear c9); (try clear c14); (try clear c20); (try clear c21); (try clear c24); (try clear c24b0); (try clear c24b1); (try clear c24b2); (try clear c25); (try clear c25b0); (try clear c25b1); (try clear c27); (try clear c28); (try clear c29); (try clear c30); (try clear c31); (try clear c32); (try clear c33); (try clear c34); (try clear c35); (try clear c37); (try clear c41); (try clear c42); (try clear c47); (try clear c47b0); (try clear c47b1); (try clear c48); (try clear c48b0); (try clear c48b1); (try clear c48b2); (try clear c50); (try clear c50b0); (try clear c50b1); (try clear c50b2); (try clear c51); (try clear c52); (try clear c55); (try clear c56); (try clear c57); (try clear c60); (try clear c61); (try clear c64); (try clear p64); (try clear c66); (try clear c68); (try clear c69); (try clear c69b0); (try clear c69b1); (try clear c70); (try clear c70b0); (try clear c70b1); (try clear c70b2); (try clear c71); (try clear c72); (try clear c76); (try clear c78); (try clear c79); (try clear c83); (try clear c85); (try clear c86); (try clear c89); (try clear c90); (try clear hcz10_0); (try clear hcz10_1); (try clear hcz15_0); (try clear hcz15_1); (try clear hcz17_0); (try clear hcz17_1); (try clear hcz22_0); (try clear hcz22_1); (try clear hcz29_0); (try clear hcz29_1); (try clear hcz31_0); (try clear hcz31_1); (try clear hcz34_0); (try clear hcz34_1); (try clear hcz36_0); (try clear hcz36_1); (try clear hcz43_0); (try clear hcz43_1); (try clear hcz45_0); (try clear hcz45_1); (try clear hcz53_0); (try clear hcz53_1); (try clear hcz58_0); (try clear hcz58_1); (try clear hcz62_0); (try clear hcz62_1); (try clear hcz73_0); (try clear hcz73_1); (try clear hcz75_0); (try clear hcz75_1); (try clear hcz77_0); (try clear hcz77_1); (try clear hcz80_0); (try clear hcz80_1); (try clear hcz82_0); (try clear hcz82_1); (try clear hcz84_0); (try clear hcz84_1); (try clear hcz87_0); (try clear hcz87_1); (try clear hcz91_0); (try clear hcz91_1); (try clear hfz10_0); (try clear hfz10_1); (try clear hfz15_0); (try clear hfz15_1); (try clear hfz17_0); (try clear hfz17_1); (try clear hfz22_0); (try clear hfz22_1); (try clear hfz29_0); (try clear hfz29_1); (try clear hfz31_0); (try clear hfz31_1); (try clear hfz34_0); (try clear hfz34_1); (try clear hfz36_0); (try clear hfz36_1); (try clear hfz43_0); (try clear hfz43_1); (try clear hfz45_0); (try clear hfz45_1); (try clear hfz53_0); (try clear hfz53_1); (try clear hfz58_0); (try clear hfz58_1); (try clear hfz62_0); (try clear hfz62_1); (try clear hfz73_0); (try clear hfz73_1); (try clear hfz75_0); (try clear hfz75_1); (try clear hfz77_0); (try clear hfz77_1); (try clear hfz80_0); (try clear hfz80_1); (try clear hfz82_0); (try clear hfz82_1); (try clear hfz84_0); (try clear hfz84_1); (try clear hfz87_0); (try clear hfz87_1); (try clear hfz91_0); (try clear hfz91_1); (try clear p2)
         obtain ⟨kq, HA, HJ64, HO_428001, HO_434001, HO_440001, BK427, BK433, BK439, HB⟩ := hcut
         cases kq with
         | zero => exact absurd HA.out (by simp [laws_FnDays.j2])
         | succ kj64 =>
          have H := HA.out
          clear HA
          simp only [laws_FnDays.j2] at H
          replace H := Option.bind_eq_some_iff.mp H
          obtain ⟨⟨t448, t449, t450, t451⟩, A930, H⟩ := H
          (try dsimp only at H)
          have A93 := z8_A A930
          clear A930
          replace H := Option.bind_eq_some_iff.mp H
          obtain ⟨⟨t454, t455, t456⟩, A940, H⟩ := H
          (try dsimp only at H)
          have A94 := z8_A A940
          clear A940
          replace H := Option.bind_eq_some_iff.mp H
          obtain ⟨⟨t457, t458, t459⟩, A950, H⟩ := H
          (try dsimp only at H)
          have A95 := z8_A A950
          clear A950
          have HC96 := z8_A H
          clear H
          go_upto_region 19 with (first | ((with_reducible refine gate_callee (f := 37) rfl ?_); refine goesL_ (some 141) rfl rfl Try.func37 z8_27 rfl #[.slice A0 l0.length c0] rfl z8_8 ?_; (with_reducible refine (spec_DrawBestUpTo.calls kj64 _ _ l0 t448 t449 t450 t451 _ ?side1 ?side2 A93.out).mono ?_); (case side1 => have zh := (Kd.C_below HR0.out HB.out); exact z8_C); (case side2 => exact HC0.out); rintro e w97 ⟨v452, rfl, ho0, hb⟩; refine ⟨_, rfl, ?_⟩; have n0_ := z8_A (Kd.Q_elder' z8_7 (Kd.R_base ho0) hb); have n1_ := z8_A (Kd.Q_elder' z8_6 (Kd.R_base ho0) hb); have n2_ := z8_A (Kd.Q_elder' z8_5 (Kd.R_base ho0) hb); have n3_ := z8_A (Kd.R_lower (Kd.R_new' (Kd.R_new' (Kd.R_new' ho0 (Kd.Q_lt z8_7)) (Kd.Q_lt z8_6)) (Kd.Q_lt z8_5)) (below_size z8_1)); have n4_ := z8_A (blk_below (g := gb427) (o := .cells #[.int .i64 t421, .slice Ao11 t422.length co11] 30 (0, 0)) z8_2 hb); have n5_ := z8_A (blk_below (g := gb433) (o := .cells #[.int .i64 t428, .slice Ao16 t429.length co16] 30 (0, 0)) z8_3 hb); have n6_ := z8_A (blk_below (g := gb439) (o := .cells #[.int .i64 t434, .slice Ao23 t435.length co23] 30 (0, 0)) z8_4 hb); have n7_ := z8_A (below_step z8_1 hb); clear HO_428001 HO_434001 HO_440001 BK427 BK433 BK439 HB; revert n0_ n1_ n2_ n3_ n4_ n5_ n6_ n7_; intro HO_428001 HO_434001 HO_440001 HO453 BK427 BK433 BK439 HB; (try clear hb); (try clear hb2); (try clear hk); (try clear hi); (try clear ho0); obtain ⟨Ao98, co98, eo98⟩ := Kd.R_slice HO453.out; subst eo98) | ((with_reducible refine gate_callee (f := 38) rfl ?_); refine goesL_ (some 151) rfl rfl Try.func38 z8_27 rfl #[.slice Ao98 t448.length co98, .int .i64 t449, .int .i64 t450, .int .i64 t451] rfl z8_8 ?_; (with_reducible refine (impl_BestUpTo.calls kj64 _ _ t448 t449 t450 t451 t454 t455 t456 _ ?side1 ?side2 A94.out).mono ?_); (case side1 => have zh := (Kd.R_reads' HO453.out).2.2; exact z8_C); (case side2 => exact (Kd.R_reads' HO453.out).2.1); rintro e w99 ⟨rfl, hb⟩; refine ⟨_, rfl, ?_⟩; have n0_ := z8_A (Kd.Q_below z8_7 hb); have n1_ := z8_A (Kd.Q_below z8_6 hb); have n2_ := z8_A (Kd.Q_below z8_5 hb); have n3_ := z8_A (Kd.R_below z8_55 hb); have n4_ := z8_A (blk_below (g := gb427) (o := .cells #[.int .i64 t421, .slice Ao11 t422.length co11] 30 (0, 0)) z8_2 hb); have n5_ := z8_A (blk_below (g := gb433) (o := .cells #[.int .i64 t428, .slice Ao16 t429.length co16] 30 (0, 0)) z8_3 hb); have n6_ := z8_A (blk_below (g := gb439) (o := .cells #[.int .i64 t434, .slice Ao23 t435.length co23] 30 (0, 0)) z8_4 hb); have n7_ := z8_A (below_step z8_1 hb); clear HO_428001 HO_434001 HO_440001 HO453 BK427 BK433 BK439 HB; revert n0_ n1_ n2_ n3_ n4_ n5_ n6_ n7_; intro HO_428001 HO_434001 HO_440001 HO453 BK427 BK433 BK439 HB; (try clear hb); (try clear hb2); (try clear hk); (try clear hi)) | ((with_reducible refine gate_callee (f := 39) rfl ?_); refine goesL_ (some 160) rfl rfl Try.func39 z8_27 rfl #[.slice Ao98 t448.length co98, .int .i64 t449, .int .i64 t450, .int .i64 t451] rfl z8_8 ?_; (with_reducible refine (spec_BestUpTo.calls kj64 _ _ t448 t449 t450 t451 t457 t458 t459 _ ?side1 ?side2 A95.out).mono ?_); (case side1 => have zh := (Kd.R_reads' HO453.out).2.2; exact z8_C); (case side2 => exact (Kd.R_reads' HO453.out).2.1); rintro e w100 ⟨rfl, hb⟩; refine ⟨_, rfl, ?_⟩; have n0_ := z8_A (Kd.Q_below z8_7 hb); have n1_ := z8_A (Kd.Q_below z8_6 hb); have n2_ := z8_A (Kd.Q_below z8_5 hb); have n3_ := z8_A (Kd.R_below z8_55 hb); have n4_ := z8_A (blk_below (g := gb427) (o := .cells #[.int .i64 t421, .slice Ao11 t422.length co11] 30 (0, 0)) z8_2 hb); have n5_ := z8_A (blk_below (g := gb433) (o := .cells #[.int .i64 t428, .slice Ao16 t429.length co16] 30 (0, 0)) z8_3 hb); have n6_ := z8_A (blk_below (g := gb439) (o := .cells #[.int .i64 t434, .slice Ao23 t435.length co23] 30 (0, 0)) z8_4 hb); have n7_ := z8_A (below_step z8_1 hb); clear HO_428001 HO_434001 HO_440001 HO453 BK427 BK433 BK439 HB; revert n0_ n1_ n2_ n3_ n4_ n5_ n6_ n7_; intro HO_428001 HO_434001 HO_440001 HO453 BK427 BK433 BK439 HB; (try clear hb); (try clear hb2); (try clear hk); (try clear hi)))
          (try simp only [Act.put, List.setIfInBounds_toArray, List.set_cons_zero, List.set_cons_succ])
          go_cut [176] (fun v176 wc => ∃ (kq : Nat) (x176_95 : Bool), v176 = .bool x176_95 ∧ Aside0 (laws_FnDays.j3 kq l0 t448 t449 t450 t451 t454 t455 t456 x176_95 = some r) ∧ Aside0 (kq ≤ kj64) ∧ Aside0 (Kd.R (Kd.int .i64) 3 wc w.heap.size (fun k_ => some k_ ≠ ((.slice Ao11 t422.length co11) : Value).ownBlock ∧ some k_ ≠ ((.slice Ao16 t429.length co16) : Value).ownBlock ∧ some k_ ≠ ((.slice Ao23 t435.length co23) : Value).ownBlock) (.slice Ao98 t448.length co98) t448) ∧ Aside0 (Kd.Q (Kd.int .i64) 3 wc w.heap.size (fun k_ => some k_ ≠ ((.slice Ao98 t448.length co98) : Value).ownBlock ∧ some k_ ≠ ((.slice Ao16 t429.length co16) : Value).ownBlock ∧ some k_ ≠ ((.slice Ao23 t435.length co23) : Value).ownBlock) (.slice Ao11 t422.length co11) t422) ∧ Aside0 (Kd.Q (Kd.int .i64) 3 wc w.heap.size (fun k_ => some k_ ≠ ((.slice Ao98 t448.length co98) : Value).ownBlock ∧ some k_ ≠ ((.slice Ao11 t422.length co11) : Value).ownBlock ∧ some k_ ≠ ((.slice Ao23 t435.length co23) : Value).ownBlock) (.slice Ao16 t429.length co16) t429) ∧ Aside0 (Kd.Q (Kd.int .i64) 3 wc w.heap.size (fun k_ => some k_ ≠ ((.slice Ao98 t448.length co98) : Value).ownBlock ∧ some k_ ≠ ((.slice Ao11 t422.length co11) : Value).ownBlock ∧ some k_ ≠ ((.slice Ao16 t429.length co16) : Value).ownBlock) (.slice Ao23 t435.length co23) t435) ∧ Aside0 (wc.heap[gb427]? = some (.cells #[.int .i64 t421, (.slice Ao11 t422.length co11)] 30 (0, 0))) ∧ Aside0 (wc.heap[gb433]? = some (.cells #[.int .i64 t428, (.slice Ao16 t429.length co16)] 30 (0, 0))) ∧ Aside0 (wc.heap[gb439]? = some (.cells #[.int .i64 t434, (.slice Ao23 t435.length co23)] 30 (0, 0))) ∧ Aside0 (Below w.heap.size w wc))
          case first => as_aux_lemma =>
           have H := HC96.out
           clear HC96
           by_cases c101 : t454 = t457
           ·rw [if_pos c101] at H
            have c101b0 : (t454 == t457) = true := beq_iff_eq.mpr c101
            have c101b1 : (t454 != t457) = false := bne_eq_false_iff_eq.mpr c101
            clear c101
            (first | rw [c101b0] | (simp only [i64_w, i32_w]; rw [c101b0]) | skip)
            by_cases c102 : t455 = t458
            ·rw [if_pos c102] at H
             have c102b0 : (t455 == t458) = true := beq_iff_eq.mpr c102
             have c102b1 : (t455 != t458) = false := bne_eq_false_iff_eq.mpr c102
             clear c102
             have H' := z8_A H
             clear H
             go_wp2
             go_meet
             case rel => exact ⟨_, ((t456 != t459)), z8_13, H', ⟨z8_45⟩, ⟨z8_41⟩, ⟨z8_40⟩, ⟨z8_39⟩, ⟨z8_38⟩, ⟨z8_2⟩, ⟨z8_3⟩, ⟨z8_4⟩, ⟨z8_1⟩⟩
            ·rw [if_neg c102] at H
             have c102b0 : (t455 == t458) = false := beq_eq_false_iff_ne.mpr c102
             have c102b1 : (t455 != t458) = true := bne_iff_ne.mpr c102
             have H' := z8_A H
             clear H
             go_wp2
             go_meet
             case rel => exact ⟨_, (true), z8_13, H', ⟨z8_45⟩, ⟨z8_41⟩, ⟨z8_40⟩, ⟨z8_39⟩, ⟨z8_38⟩, ⟨z8_2⟩, ⟨z8_3⟩, ⟨z8_4⟩, ⟨z8_1⟩⟩
           ·rw [if_neg c101] at H
            have c101b0 : (t454 == t457) = false := beq_eq_false_iff_ne.mpr c101
            have c101b1 : (t454 != t457) = true := bne_iff_ne.mpr c101
            (first | rw [c101b0] | (simp only [i64_w, i32_w]; rw [c101b0]) | skip)
            have H' := z8_A H
            clear H
            go_wp2
            go_meet
            case rel => exact ⟨_, (true), z8_13, H', ⟨z8_45⟩, ⟨z8_41⟩, ⟨z8_40⟩, ⟨z8_39⟩, ⟨z8_38⟩, ⟨z8_2⟩, ⟨z8_3⟩, ⟨z8_4⟩, ⟨z8_1⟩⟩
          case rest => as_aux_lemma =>
           clear HC96
           (try clear c1); (try clear c2); (try clear p2); (try clear c3); (try clear c4); (try clear c5); (try clear c6); (try clear p6); (try clear c7); (try clear c8); (try clear c9); (try clear c10); (try clear c14); (try clear c20); (try clear c21); (try clear c24); (try clear c24b0); (try clear c24b1); (try clear c24b2); (try clear c25); (try clear c25b0); (try clear c25b1); (try clear c27); (try clear c28); (try clear c29); (try clear c30); (try clear c31); (try clear c32); (try clear c33); (try clear c34); (try clear c35); (try clear c37); (try clear c38); (try clear c39); (try clear c41); (try clear c42); (try clear c47); (try clear c47b0); (try clear c47b1); (try clear c48); (try clear c48b0); (try clear c48b1); (try clear c48b2); (try clear c50); (try clear c50b0); (try clear c50b1); (try clear c50b2); (try clear c51); (try clear c52); (try clear c55); (try clear c56); (try clear c57); (try clear c60); (try clear c61); (try clear c64); (try clear p64); (try clear c66); (try clear c68); (try clear c69); (try clear c69b0); (try clear c69b1); (try clear c70); (try clear c70b0); (try clear c70b1); (try clear c70b2); (try clear c71); (try clear c72); (try clear c76); (try clear c78); (try clear c79); (try clear c83); (try clear c85); (try clear c86); (try clear c89); (try clear c90); (try clear c101); (try clear c101b0); (try clear c101b1); (try clear c102); (try clear c102b0); (try clear c102b1); (try clear hcz10_0); (try clear hcz10_1); (try clear hcz15_0); (try clear hcz15_1); (try clear hcz17_0); (try clear hcz17_1); (try clear hcz22_0); (try clear hcz22_1); (try clear hcz29_0); (try clear hcz29_1); (try clear hcz31_0); (try clear hcz31_1); (try clear hcz34_0); (try clear hcz34_1); (try clear hcz36_0); (try clear hcz36_1); (try clear hcz43_0); (try clear hcz43_1); (try clear hcz45_0); (try clear hcz45_1); (try clear hcz53_0); (try clear hcz53_1); (try clear hcz58_0); (try clear hcz58_1); (try clear hcz62_0); (try clear hcz62_1); (try clear hcz73_0); (try clear hcz73_1); (try clear hcz75_0); (try clear hcz75_1); (try clear hcz77_0); (try clear hcz77_1); (try clear hcz80_0); (try clear hcz80_1); (try clear hcz82_0); (try clear hcz82_1); (try clear hcz84_0); (try clear hcz84_1); (try clear hcz87_0); (try clear hcz87_1); (try clear hcz91_0); (try clear hcz91_1); (try clear hfz10_0); (try clear hfz10_1); (try clear hfz15_0); (try clear hfz15_1); (try clear hfz17_0); (try clear hfz17_1); (try clear hfz22_0); (try clear hfz22_1); (try clear hfz29_0); (try clear hfz29_1); (try clear hfz31_0); (try clear hfz31_1); (try clear hfz34_0); (try clear hfz34_1); (try clear hfz36_0); (try clear hfz36_1); (try clear hfz43_0); (try clear hfz43_1); (try clear hfz45_0); (try clear hfz45_1); (try clear hfz53_0); (try clear hfz53_1); (try clear hfz58_0); (try clear hfz58_1); (try clear hfz62_0); (try clear hfz62_1); (try clear hfz73_0); (try clear hfz73_1); (try clear hfz75_0); (try clear hfz75_1); (try clear hfz77_0); (try clear hfz77_1); (try clear hfz80_0); (try clear hfz80_1); (try clear hfz82_0); (try clear hfz82_1); (try clear hfz84_0); (try clear hfz84_1); (try clear hfz87_0); (try clear hfz87_1); (try clear hfz91_0); (try clear hfz91_1); (try clear p2); (try clear p6); (try clear p64)
           obtain ⟨kq, x176_95, rfl, HA, HJ95, HO_16, HO_428001, HO_434001, HO_440001, BK427, BK433, BK439, HB⟩ := hcut
           cases kq with
           | zero => exact absurd HA.out (by simp [laws_FnDays.j3])
           | succ kj95 =>
            have H := HA.out
            clear HA
            simp only [laws_FnDays.j3] at H
            by_cases c103 : x176_95 = true
            ·subst c103
             have H1 : (some false) = some r := z8_31
             clear H
             have H := H1
             clear H1
             obtain rfl := Option.some.inj H
             go_wp2
             go_ret
             exact ⟨z8_10, z8_1⟩
            ·replace c103 := Bool.eq_false_iff.mpr c103
             subst c103
             have H1 : (if t456 = true then ((impl_LeadNeeds.f kj95 t448 t449).bind fun bt460 => ((spec_LeadNeeds.f kj95 t448 t449).bind fun bt464 => (if bt460.2 = true then (if bt464.2 = true then ((laws_rInts.f kj95 bt460.1 bt464.1).bind fun t468 => (laws_FnDays.j4 kj95 l0 t450 t451 t454 t455 bt460.1 (!t468))) else (laws_FnDays.j4 kj95 l0 t450 t451 t454 t455 bt460.1 true)) else (laws_FnDays.j4 kj95 l0 t450 t451 t454 t455 bt460.1 true)))) else ((spec_DrawStockCost.f kj95 l0).bind fun bt487 => ((impl_StockCost.f kj95 bt487.1 bt487.2.1 bt487.2.2).bind fun bt492 => ((spec_StockCost.f kj95 bt487.1 bt487.2.1 bt487.2.2).bind fun bt494 => (if bt492.1 = bt494.1 then (some (bt492.2 == bt494.2)) else (some false)))))) = some r := z8_22
             clear H
             have H := H1
             clear H1
             by_cases c104 : t456 = true
             ·subst c104
              have H1 : ((impl_LeadNeeds.f kj95 t448 t449).bind fun bt460 => ((spec_LeadNeeds.f kj95 t448 t449).bind fun bt464 => (if bt460.2 = true then (if bt464.2 = true then ((laws_rInts.f kj95 bt460.1 bt464.1).bind fun t468 => (laws_FnDays.j4 kj95 l0 t450 t451 t454 t455 bt460.1 (!t468))) else (laws_FnDays.j4 kj95 l0 t450 t451 t454 t455 bt460.1 true)) else (laws_FnDays.j4 kj95 l0 t450 t451 t454 t455 bt460.1 true)))) = some r := z8_31
              clear H
              have H := H1
              clear H1
              replace H := Option.bind_eq_some_iff.mp H
              obtain ⟨⟨t460, t461⟩, A1050, H⟩ := H
              (try dsimp only at H)
              have A105 := z8_A A1050
              clear A1050
              replace H := Option.bind_eq_some_iff.mp H
              obtain ⟨⟨t464, t465⟩, A1060, H⟩ := H
              (try dsimp only at H)
              have A106 := z8_A A1060
              clear A1060
              have HC107 := z8_A H
              clear H
              go_upto_region 24 with (first | ((with_reducible refine gate_callee (f := 40) rfl ?_); refine goesL_ (some 181) rfl rfl Try.func40 z8_27 rfl #[.slice Ao98 t448.length co98, .int .i64 t449] rfl z8_8 ?_; (with_reducible refine (impl_LeadNeeds.calls kj95 _ _ t448 t449 t460 t461 _ ?side1 ?side2 A105.out).mono ?_); (case side1 => have zh := (Kd.R_reads' HO_16.out).2.2; exact z8_C); (case side2 => exact (Kd.R_reads' HO_16.out).2.1); rintro e w108 ⟨v462, rfl, ho0, hb⟩; refine ⟨_, rfl, ?_⟩; have n0_ := z8_A (Kd.R_elder' z8_11 (Kd.R_base ho0) hb); have n1_ := z8_A (Kd.Q_elder' z8_7 (Kd.R_base ho0) hb); have n2_ := z8_A (Kd.Q_elder' z8_6 (Kd.R_base ho0) hb); have n3_ := z8_A (Kd.Q_elder' z8_5 (Kd.R_base ho0) hb); have n4_ := z8_A (Kd.R_lower (Kd.R_new' (Kd.R_new' (Kd.R_new' (Kd.R_new' ho0 (Kd.R_lt z8_11)) (Kd.Q_lt z8_7)) (Kd.Q_lt z8_6)) (Kd.Q_lt z8_5)) (below_size z8_1)); have n5_ := z8_A (blk_below (g := gb427) (o := .cells #[.int .i64 t421, .slice Ao11 t422.length co11] 30 (0, 0)) z8_2 hb); have n6_ := z8_A (blk_below (g := gb433) (o := .cells #[.int .i64 t428, .slice Ao16 t429.length co16] 30 (0, 0)) z8_3 hb); have n7_ := z8_A (blk_below (g := gb439) (o := .cells #[.int .i64 t434, .slice Ao23 t435.length co23] 30 (0, 0)) z8_4 hb); have n8_ := z8_A (below_step z8_1 hb); clear HO_16 HO_428001 HO_434001 HO_440001 BK427 BK433 BK439 HB; revert n0_ n1_ n2_ n3_ n4_ n5_ n6_ n7_ n8_; intro HO_16 HO_428001 HO_434001 HO_440001 HO463 BK427 BK433 BK439 HB; (try clear hb); (try clear hb2); (try clear hk); (try clear hi); (try clear ho0)) | ((with_reducible refine gate_callee (f := 41) rfl ?_); refine goesL_ (some 187) rfl rfl Try.func41 z8_27 rfl #[.slice Ao98 t448.length co98, .int .i64 t449] rfl z8_8 ?_; (with_reducible refine (spec_LeadNeeds.calls kj95 _ _ t448 t449 t464 t465 _ ?side1 ?side2 A106.out).mono ?_); (case side1 => have zh := (Kd.R_reads' HO_16.out).2.2; exact z8_C); (case side2 => exact (Kd.R_reads' HO_16.out).2.1); rintro e w109 ⟨v466, rfl, ho0, hb⟩; refine ⟨_, rfl, ?_⟩; have n0_ := z8_A (Kd.R_elder' z8_11 (Kd.R_base ho0) hb); have n1_ := z8_A (Kd.Q_elder' z8_7 (Kd.R_base ho0) hb); have n2_ := z8_A (Kd.Q_elder' z8_6 (Kd.R_base ho0) hb); have n3_ := z8_A (Kd.Q_elder' z8_5 (Kd.R_base ho0) hb); have n4_ := z8_A (Kd.R_elder' z8_54 (Kd.R_base ho0) hb); have n5_ := z8_A (Kd.R_lower (Kd.R_new' (Kd.R_new' (Kd.R_new' (Kd.R_new' (Kd.R_new' ho0 (Kd.R_lt z8_11)) (Kd.Q_lt z8_7)) (Kd.Q_lt z8_6)) (Kd.Q_lt z8_5)) (Kd.R_lt z8_54)) (below_size z8_1)); have n6_ := z8_A (blk_below (g := gb427) (o := .cells #[.int .i64 t421, .slice Ao11 t422.length co11] 30 (0, 0)) z8_2 hb); have n7_ := z8_A (blk_below (g := gb433) (o := .cells #[.int .i64 t428, .slice Ao16 t429.length co16] 30 (0, 0)) z8_3 hb); have n8_ := z8_A (blk_below (g := gb439) (o := .cells #[.int .i64 t434, .slice Ao23 t435.length co23] 30 (0, 0)) z8_4 hb); have n9_ := z8_A (below_step z8_1 hb); clear HO_16 HO_428001 HO_434001 HO_440001 HO463 BK427 BK433 BK439 HB; revert n0_ n1_ n2_ n3_ n4_ n5_ n6_ n7_ n8_ n9_; intro HO_16 HO_428001 HO_434001 HO_440001 HO463 HO467 BK427 BK433 BK439 HB; (try clear hb); (try clear hb2); (try clear hk); (try clear hi); (try clear ho0)))
              (try simp only [Act.put, List.setIfInBounds_toArray, List.set_cons_zero, List.set_cons_succ])
              go_cut [201] (fun v201 wc => ∃ (kq : Nat) (x201_106 : Bool), v201 = .bool x201_106 ∧ Aside0 (laws_FnDays.j4 kq l0 t450 t451 t454 t455 t460 x201_106 = some r) ∧ Aside0 (kq ≤ kj95) ∧ Aside0 (Kd.R (Kd.int .i64) 3 wc w.heap.size (fun k_ => some k_ ≠ ((.slice Ao11 t422.length co11) : Value).ownBlock ∧ some k_ ≠ ((.slice Ao16 t429.length co16) : Value).ownBlock ∧ some k_ ≠ ((.slice Ao23 t435.length co23) : Value).ownBlock) v462 t460) ∧ Aside0 (Kd.Q (Kd.int .i64) 3 wc w.heap.size (fun k_ => z8_V k_ v462 ∧ some k_ ≠ ((.slice Ao16 t429.length co16) : Value).ownBlock ∧ some k_ ≠ ((.slice Ao23 t435.length co23) : Value).ownBlock) (.slice Ao11 t422.length co11) t422) ∧ Aside0 (Kd.Q (Kd.int .i64) 3 wc w.heap.size (fun k_ => z8_V k_ v462 ∧ some k_ ≠ ((.slice Ao11 t422.length co11) : Value).ownBlock ∧ some k_ ≠ ((.slice Ao23 t435.length co23) : Value).ownBlock) (.slice Ao16 t429.length co16) t429) ∧ Aside0 (Kd.Q (Kd.int .i64) 3 wc w.heap.size (fun k_ => z8_V k_ v462 ∧ some k_ ≠ ((.slice Ao11 t422.length co11) : Value).ownBlock ∧ some k_ ≠ ((.slice Ao16 t429.length co16) : Value).ownBlock) (.slice Ao23 t435.length co23) t435) ∧ Aside0 (wc.heap[gb427]? = some (.cells #[.int .i64 t421, (.slice Ao11 t422.length co11)] 30 (0, 0))) ∧ Aside0 (wc.heap[gb433]? = some (.cells #[.int .i64 t428, (.slice Ao16 t429.length co16)] 30 (0, 0))) ∧ Aside0 (wc.heap[gb439]? = some (.cells #[.int .i64 t434, (.slice Ao23 t435.length co23)] 30 (0, 0))) ∧ Aside0 (Below w.heap.size w wc))
              case first => as_aux_lemma =>
               have H := HC107.out
               clear HC107
               by_cases c110 : t461 = true
               ·subst c110
                have H1 : (if t465 = true then ((laws_rInts.f kj95 t460 t464).bind fun t468 => (laws_FnDays.j4 kj95 l0 t450 t451 t454 t455 t460 (!t468))) else (laws_FnDays.j4 kj95 l0 t450 t451 t454 t455 t460 true)) = some r := z8_31
                clear H
                have H := H1
                clear H1
                by_cases c111 : t465 = true
                ·subst c111
                 have H1 : ((laws_rInts.f kj95 t460 t464).bind fun t468 => (laws_FnDays.j4 kj95 l0 t450 t451 t454 t455 t460 (!t468))) = some r := z8_31
                 clear H
                 have H := H1
                 clear H1
                 replace H := Option.bind_eq_some_iff.mp H
                 obtain ⟨t468, A1120, H⟩ := H
                 (try dsimp only at H)
                 have A112 := z8_A A1120
                 clear A1120
                 have H' := z8_A H
                 clear H
                 obtain ⟨Ao113, co113, eo113⟩ := Kd.R_slice HO463.out
                 subst eo113
                 obtain ⟨Ao114, co114, eo114⟩ := Kd.R_slice HO467.out
                 subst eo114
                 go_wp2_with (first | (go_at_call 33; (with_reducible refine (laws_rInts.calls kj95 _ _ t460 _ _ t464 t468 _ ?side1 ?side2 ?side3 ?side4 A112.out).mono ?_); (case side1 => have zh := (Kd.R_reads' HO463.out).2.2; exact z8_C); (case side2 => exact (Kd.R_reads' HO463.out).2.1); (case side3 => have zh := (Kd.R_reads' HO467.out).2.2; exact z8_C); (case side4 => exact (Kd.R_reads' HO467.out).2.1); rintro e w' ⟨rfl, ⟨nd, rfl⟩⟩))
                 go_meet
                 case rel => exact ⟨_, (!t468), z8_13, H', ⟨z8_42⟩, ⟨z8_33⟩, ⟨z8_30⟩, ⟨z8_29⟩, ⟨z8_28⟩, ⟨z8_2⟩, ⟨z8_3⟩, ⟨z8_4⟩, ⟨z8_1⟩⟩
                ·replace c111 := Bool.eq_false_iff.mpr c111
                 subst c111
                 have H1 : (laws_FnDays.j4 kj95 l0 t450 t451 t454 t455 t460 true) = some r := z8_22
                 clear H
                 have H := H1
                 clear H1
                 have H' := z8_A H
                 clear H
                 go_wp2
                 go_meet
                 case rel => exact ⟨_, (true), z8_13, H', ⟨z8_42⟩, ⟨z8_33⟩, ⟨z8_30⟩, ⟨z8_29⟩, ⟨z8_28⟩, ⟨z8_2⟩, ⟨z8_3⟩, ⟨z8_4⟩, ⟨z8_1⟩⟩
               ·replace c110 := Bool.eq_false_iff.mpr c110
                subst c110
                have H1 : (laws_FnDays.j4 kj95 l0 t450 t451 t454 t455 t460 true) = some r := z8_22
                clear H
                have H := H1
                clear H1
                have H' := z8_A H
                clear H
                go_wp2
                go_meet
                case rel => exact ⟨_, (true), z8_13, H', ⟨z8_42⟩, ⟨z8_33⟩, ⟨z8_30⟩, ⟨z8_29⟩, ⟨z8_28⟩, ⟨z8_2⟩, ⟨z8_3⟩, ⟨z8_4⟩, ⟨z8_1⟩⟩
              case rest => as_aux_lemma =>
               clear HC107
               (try clear c1); (try clear c2); (try clear p2); (try clear c3); (try clear c4); (try clear c5); (try clear c6); (try clear p6); (try clear c7); (try clear c8); (try clear c9); (try clear c10); (try clear c11); (try clear c14); (try clear c20); (try clear c21); (try clear c24); (try clear c24b0); (try clear c24b1); (try clear c24b2); (try clear c25); (try clear c25b0); (try clear c25b1); (try clear c27); (try clear c28); (try clear c29); (try clear c30); (try clear c31); (try clear c32); (try clear c33); (try clear c34); (try clear c35); (try clear c37); (try clear c38); (try clear c39); (try clear c40); (try clear c41); (try clear c42); (try clear c47); (try clear c47b0); (try clear c47b1); (try clear c48); (try clear c48b0); (try clear c48b1); (try clear c48b2); (try clear c50); (try clear c50b0); (try clear c50b1); (try clear c50b2); (try clear c51); (try clear c52); (try clear c55); (try clear c56); (try clear c57); (try clear c60); (try clear c61); (try clear c64); (try clear p64); (try clear c66); (try clear c68); (try clear c69); (try clear c69b0); (try clear c69b1); (try clear c70); (try clear c70b0); (try clear c70b1); (try clear c70b2); (try clear c71); (try clear c72); (try clear c76); (try clear c78); (try clear c79); (try clear c83); (try clear c85); (try clear c86); (try clear c89); (try clear c90); (try clear c101); (try clear c101b0); (try clear c101b1); (try clear c102); (try clear c102b0); (try clear c102b1); (try clear c103); (try clear c104); (try clear c110); (try clear c111); (try clear hcz10_0); (try clear hcz10_1); (try clear hcz15_0); (try clear hcz15_1); (try clear hcz17_0); (try clear hcz17_1); (try clear hcz22_0); (try clear hcz22_1); (try clear hcz29_0); (try clear hcz29_1); (try clear hcz31_0); (try clear hcz31_1); (try clear hcz34_0); (try clear hcz34_1); (try clear hcz36_0); (try clear hcz36_1); (try clear hcz43_0); (try clear hcz43_1); (try clear hcz45_0); (try clear hcz45_1); (try clear hcz53_0); (try clear hcz53_1); (try clear hcz58_0); (try clear hcz58_1); (try clear hcz62_0); (try clear hcz62_1); (try clear hcz73_0); (try clear hcz73_1); (try clear hcz75_0); (try clear hcz75_1); (try clear hcz77_0); (try clear hcz77_1); (try clear hcz80_0); (try clear hcz80_1); (try clear hcz82_0); (try clear hcz82_1); (try clear hcz84_0); (try clear hcz84_1); (try clear hcz87_0); (try clear hcz87_1); (try clear hcz91_0); (try clear hcz91_1); (try clear hfz10_0); (try clear hfz10_1); (try clear hfz15_0); (try clear hfz15_1); (try clear hfz17_0); (try clear hfz17_1); (try clear hfz22_0); (try clear hfz22_1); (try clear hfz29_0); (try clear hfz29_1); (try clear hfz31_0); (try clear hfz31_1); (try clear hfz34_0); (try clear hfz34_1); (try clear hfz36_0); (try clear hfz36_1); (try clear hfz43_0); (try clear hfz43_1); (try clear hfz45_0); (try clear hfz45_1); (try clear hfz53_0); (try clear hfz53_1); (try clear hfz58_0); (try clear hfz58_1); (try clear hfz62_0); (try clear hfz62_1); (try clear hfz73_0); (try clear hfz73_1); (try clear hfz75_0); (try clear hfz75_1); (try clear hfz77_0); (try clear hfz77_1); (try clear hfz80_0); (try clear hfz80_1); (try clear hfz82_0); (try clear hfz82_1); (try clear hfz84_0); (try clear hfz84_1); (try clear hfz87_0); (try clear hfz87_1); (try clear hfz91_0); (try clear hfz91_1); (try clear p2); (try clear p6); (try clear p64)
               obtain ⟨kq, x201_106, rfl, HA, HJ106, HO_26, HO_428001, HO_434001, HO_440001, BK427, BK433, BK439, HB⟩ := hcut
               cases kq with
               | zero => exact absurd HA.out (by simp [laws_FnDays.j4])
               | succ kj106 =>
                have H := HA.out
                clear HA
                simp only [laws_FnDays.j4] at H
                by_cases c115 : x201_106 = true
                ·subst c115
                 have H1 : (some false) = some r := z8_31
                 clear H
                 have H := H1
                 clear H1
                 obtain rfl := Option.some.inj H
                 go_wp2
                 go_ret
                 exact ⟨z8_10, z8_1⟩
                ·replace c115 := Bool.eq_false_iff.mpr c115
                 subst c115
                 have H1 : (laws_FnDays.l0 kj106 l0 t450 t451 t454 t455 t460 0) = some r := z8_22
                 clear H
                 have H := H1
                 clear H1
                 have H' := z8_A H
                 clear H
                 go_wp2
                 go_loopg [30] kj106 (fun kq v30 w' => ∃ (x30_6 : Int), v30 = .int .i64 x30_6 ∧ Aside0 (laws_FnDays.l0 kq l0 t450 t451 t454 t455 t460 x30_6 = some r) ∧ Aside0 (kq ≤ kj106) ∧ Aside0 (Kd.R (Kd.int .i64) 3 w' w.heap.size (fun k_ => some k_ ≠ ((.slice Ao11 t422.length co11) : Value).ownBlock ∧ some k_ ≠ ((.slice Ao16 t429.length co16) : Value).ownBlock ∧ some k_ ≠ ((.slice Ao23 t435.length co23) : Value).ownBlock) v462 t460) ∧ Aside0 (Kd.Q (Kd.int .i64) 3 w' w.heap.size (fun k_ => z8_V k_ v462 ∧ some k_ ≠ ((.slice Ao16 t429.length co16) : Value).ownBlock ∧ some k_ ≠ ((.slice Ao23 t435.length co23) : Value).ownBlock) (.slice Ao11 t422.length co11) t422) ∧ Aside0 (Kd.Q (Kd.int .i64) 3 w' w.heap.size (fun k_ => z8_V k_ v462 ∧ some k_ ≠ ((.slice Ao11 t422.length co11) : Value).ownBlock ∧ some k_ ≠ ((.slice Ao23 t435.length co23) : Value).ownBlock) (.slice Ao16 t429.length co16) t429) ∧ Aside0 (Kd.Q (Kd.int .i64) 3 w' w.heap.size (fun k_ => z8_V k_ v462 ∧ some k_ ≠ ((.slice Ao11 t422.length co11) : Value).ownBlock ∧ some k_ ≠ ((.slice Ao16 t429.length co16) : Value).ownBlock) (.slice Ao23 t435.length co23) t435) ∧ Aside0 (w'.heap[gb427]? = some (.cells #[.int .i64 t421, (.slice Ao11 t422.length co11)] 30 (0, 0))) ∧ Aside0 (w'.heap[gb433]? = some (.cells #[.int .i64 t428, (.slice Ao16 t429.length co16)] 30 (0, 0))) ∧ Aside0 (w'.heap[gb439]? = some (.cells #[.int .i64 t434, (.slice Ao23 t435.length co23)] 30 (0, 0))) ∧ Aside0 (Below w.heap.size w w'))
                 case atStart => as_aux_lemma => exact ⟨(0), z8_13, H', ⟨Nat.le_refl _⟩, ⟨z8_9⟩, ⟨z8_7⟩, ⟨z8_6⟩, ⟨z8_5⟩, ⟨z8_2⟩, ⟨z8_3⟩, ⟨z8_4⟩, ⟨z8_1⟩⟩
                 case round => as_aux_lemma =>
                  clear H'
                  (try clear c1); (try clear c2); (try clear p2); (try clear c3); (try clear c4); (try clear c5); (try clear c6); (try clear p6); (try clear c7); (try clear c8); (try clear c9); (try clear c10); (try clear c11); (try clear c14); (try clear c20); (try clear c21); (try clear c24); (try clear c24b0); (try clear c24b1); (try clear c24b2); (try clear c25); (try clear c25b0); (try clear c25b1); (try clear c27); (try clear c28); (try clear c29); (try clear c30); (try clear c31); (try clear c32); (try clear c33); (try clear c34); (try clear c35); (try clear c37); (try clear c38); (try clear c39); (try clear c40); (try clear c41); (try clear c42); (try clear c47); (try clear c47b0); (try clear c47b1); (try clear c48); (try clear c48b0); (try clear c48b1); (try clear c48b2); (try clear c50); (try clear c50b0); (try clear c50b1); (try clear c50b2); (try clear c51); (try clear c52); (try clear c55); (try clear c56); (try clear c57); (try clear c60); (try clear c61); (try clear c64); (try clear p64); (try clear c66); (try clear c68); (try clear c69); (try clear c69b0); (try clear c69b1); (try clear c70); (try clear c70b0); (try clear c70b1); (try clear c70b2); (try clear c71); (try clear c72); (try clear c76); (try clear c78); (try clear c79); (try clear c83); (try clear c85); (try clear c86); (try clear c89); (try clear c90); (try clear c101); (try clear c101b0); (try clear c101b1); (try clear c102); (try clear c102b0); (try clear c102b1); (try clear c103); (try clear c104); (try clear c110); (try clear c111); (try clear c115); (try clear hcz10_0); (try clear hcz10_1); (try clear hcz15_0); (try clear hcz15_1); (try clear hcz17_0); (try clear hcz17_1); (try clear hcz22_0); (try clear hcz22_1); (try clear hcz29_0); (try clear hcz29_1); (try clear hcz31_0); (try clear hcz31_1); (try clear hcz34_0); (try clear hcz34_1); (try clear hcz36_0); (try clear hcz36_1); (try clear hcz43_0); (try clear hcz43_1); (try clear hcz45_0); (try clear hcz45_1); (try clear hcz53_0); (try clear hcz53_1); (try clear hcz58_0); (try clear hcz58_1); (try clear hcz62_0); (try clear hcz62_1); (try clear hcz73_0); (try clear hcz73_1); (try clear hcz75_0); (try clear hcz75_1); (try clear hcz77_0); (try clear hcz77_1); (try clear hcz80_0); (try clear hcz80_1); (try clear hcz82_0); (try clear hcz82_1); (try clear hcz84_0); (try clear hcz84_1); (try clear hcz87_0); (try clear hcz87_1); (try clear hcz91_0); (try clear hcz91_1); (try clear hfz10_0); (try clear hfz10_1); (try clear hfz15_0); (try clear hfz15_1); (try clear hfz17_0); (try clear hfz17_1); (try clear hfz22_0); (try clear hfz22_1); (try clear hfz29_0); (try clear hfz29_1); (try clear hfz31_0); (try clear hfz31_1); (try clear hfz34_0); (try clear hfz34_1); (try clear hfz36_0); (try clear hfz36_1); (try clear hfz43_0); (try clear hfz43_1); (try clear hfz45_0); (try clear hfz45_1); (try clear hfz53_0); (try clear hfz53_1); (try clear hfz58_0); (try clear hfz58_1); (try clear hfz62_0); (try clear hfz62_1); (try clear hfz73_0); (try clear hfz73_1); (try clear hfz75_0); (try clear hfz75_1); (try clear hfz77_0); (try clear hfz77_1); (try clear hfz80_0); (try clear hfz80_1); (try clear hfz82_0); (try clear hfz82_1); (try clear hfz84_0); (try clear hfz84_1); (try clear hfz87_0); (try clear hfz87_1); (try clear hfz91_0); (try clear hfz91_1); (try clear p2); (try clear p6); (try clear p64)
                  obtain ⟨x30_6, rfl, HA, HK6, HO_26, HO_428001, HO_434001, HO_440001, BK427, BK433, BK439, HB⟩ := hrel
                  cases gk with
                  | zero => exact absurd HA.out (by simp [laws_FnDays.l0])
                  | succ k6 =>
                   have H := HA.out
                   clear HA
                   simp only [laws_FnDays.l0] at H
                   by_cases c116 : x30_6 ≤ 200
                   ·rw [if_pos c116] at H
                    have c116b0 : decide (x30_6 ≤ 200) = true := decide_eq_true c116
                    clear c116
                    obtain ⟨y478, hy478⟩ : ∃ y_ : List Int, y_ = (([] : List Int)) := ⟨_, rfl⟩
                    replace H : (laws_FnDays.l1 k6 l0 t450 t451 t454 t455 t460 x30_6 y478 0) = some r := by first | (rw [hy478]; with_reducible exact H) | (have H2_ := (Option.bind_some _ _).symm.trans H; rw [hy478]; with_reducible exact H2_) | (have H2_ := (Option.bind_some _ _).symm.trans H; with_reducible exact H2_) | with_reducible exact H | (rw [hy478]; exact H) | exact H
                    have Ny478 := z8_A hy478
                    clear hy478
                    have H' := z8_A H
                    clear H
                    go_wp2_with (first | ((with_reducible refine gate_dst (N := 206) rfl ?_); (try (refine gate_guard (by rfl) ?_; dsimp only)); refine Kd.R_lit (Kd.int .i64) _ 3 ?hg (N := 206) ?hd (xs := ([] : List Int)) (inner := []) (ok := fun _ => True) (okp := fun _ => True) ?hr ?hp (fun _ hk => hk) trivial (Below.refl _ _) (Nat.le_refl _) (by simp) ?_; (case hd => rfl); (case hg => rfl); (case hr => first | (go_simp; done) | (go_simp; rfl)); (case hp => exact (Reps.none _ _)); intro v479 w117 ho118 hb hg_ hnew_; clear hg_ hnew_; (first | rw [← Ny478.out] at ho118 | (simp only [Int.reduceToNat] at ho118; rw [← Ny478.out] at ho118)); have n0_ := z8_A (Kd.R_elder' z8_9 (Kd.R_base ho118) hb); have n1_ := z8_A (Kd.Q_elder' z8_7 (Kd.R_base ho118) hb); have n2_ := z8_A (Kd.Q_elder' z8_6 (Kd.R_base ho118) hb); have n3_ := z8_A (Kd.Q_elder' z8_5 (Kd.R_base ho118) hb); have n4_ := z8_A (Kd.R_lower (Kd.R_new' (Kd.R_new' (Kd.R_new' (Kd.R_new' ho118 (Kd.R_lt z8_9)) (Kd.Q_lt z8_7)) (Kd.Q_lt z8_6)) (Kd.Q_lt z8_5)) (below_size z8_1)); have n5_ := z8_A (blk_below (g := gb427) (o := .cells #[.int .i64 t421, .slice Ao11 t422.length co11] 30 (0, 0)) z8_2 hb); have n6_ := z8_A (blk_below (g := gb433) (o := .cells #[.int .i64 t428, .slice Ao16 t429.length co16] 30 (0, 0)) z8_3 hb); have n7_ := z8_A (blk_below (g := gb439) (o := .cells #[.int .i64 t434, .slice Ao23 t435.length co23] 30 (0, 0)) z8_4 hb); have n8_ := z8_A (below_step z8_1 hb); clear HO_26 HO_428001 HO_434001 HO_440001 BK427 BK433 BK439 HB; revert n0_ n1_ n2_ n3_ n4_ n5_ n6_ n7_ n8_; intro HO_26 HO_428001 HO_434001 HO_440001 HO480 BK427 BK433 BK439 HB; clear hb ho118))
                    go_loopg [31, 32] k6 (fun kq v31 v32 w' => ∃ (x31_7 : List Int) (x32_7 : Int), v32 = .int .i64 x32_7 ∧ Aside0 (laws_FnDays.l1 kq l0 t450 t451 t454 t455 t460 x30_6 x31_7 x32_7 = some r) ∧ Aside0 (kq ≤ k6) ∧ Aside0 (Kd.R (Kd.int .i64) 3 w' w.heap.size (fun k_ => z8_V k_ v31 ∧ some k_ ≠ ((.slice Ao11 t422.length co11) : Value).ownBlock ∧ some k_ ≠ ((.slice Ao16 t429.length co16) : Value).ownBlock ∧ some k_ ≠ ((.slice Ao23 t435.length co23) : Value).ownBlock) v462 t460) ∧ Aside0 (Kd.R (Kd.int .i64) 3 w' w.heap.size (fun k_ => z8_V k_ v462 ∧ some k_ ≠ ((.slice Ao11 t422.length co11) : Value).ownBlock ∧ some k_ ≠ ((.slice Ao16 t429.length co16) : Value).ownBlock ∧ some k_ ≠ ((.slice Ao23 t435.length co23) : Value).ownBlock) v31 x31_7) ∧ Aside0 (Kd.Q (Kd.int .i64) 3 w' w.heap.size (fun k_ => z8_V k_ v462 ∧ z8_V k_ v31 ∧ some k_ ≠ ((.slice Ao16 t429.length co16) : Value).ownBlock ∧ some k_ ≠ ((.slice Ao23 t435.length co23) : Value).ownBlock) (.slice Ao11 t422.length co11) t422) ∧ Aside0 (Kd.Q (Kd.int .i64) 3 w' w.heap.size (fun k_ => z8_V k_ v462 ∧ z8_V k_ v31 ∧ some k_ ≠ ((.slice Ao11 t422.length co11) : Value).ownBlock ∧ some k_ ≠ ((.slice Ao23 t435.length co23) : Value).ownBlock) (.slice Ao16 t429.length co16) t429) ∧ Aside0 (Kd.Q (Kd.int .i64) 3 w' w.heap.size (fun k_ => z8_V k_ v462 ∧ z8_V k_ v31 ∧ some k_ ≠ ((.slice Ao11 t422.length co11) : Value).ownBlock ∧ some k_ ≠ ((.slice Ao16 t429.length co16) : Value).ownBlock) (.slice Ao23 t435.length co23) t435) ∧ Aside0 (w'.heap[gb427]? = some (.cells #[.int .i64 t421, (.slice Ao11 t422.length co11)] 30 (0, 0))) ∧ Aside0 (w'.heap[gb433]? = some (.cells #[.int .i64 t428, (.slice Ao16 t429.length co16)] 30 (0, 0))) ∧ Aside0 (w'.heap[gb439]? = some (.cells #[.int .i64 t434, (.slice Ao23 t435.length co23)] 30 (0, 0))) ∧ Aside0 (Below w.heap.size w w'))
                    case atStart => as_aux_lemma => exact ⟨(y478), (0), z8_13, H', ⟨Nat.le_refl _⟩, ⟨z8_49⟩, ⟨by (with_reducible repeat (first | apply Kd.R_alloc | apply Kd.R_drewN | apply Kd.R_drew)); exact Kd.R_mono HO480.out (fun _ hk => ⟨hk.1.1.1.2, ⟨hk.1.1.2, ⟨hk.1.2, hk.2⟩⟩⟩)⟩, ⟨z8_48⟩, ⟨z8_47⟩, ⟨z8_46⟩, ⟨z8_2⟩, ⟨z8_3⟩, ⟨z8_4⟩, ⟨z8_1⟩⟩
                    case round => as_aux_lemma =>
                     clear H'
                     (try clear c1); (try clear c2); (try clear p2); (try clear c3); (try clear c4); (try clear c5); (try clear c6); (try clear p6); (try clear c7); (try clear c8); (try clear c9); (try clear c10); (try clear c11); (try clear c14); (try clear c20); (try clear c21); (try clear c24); (try clear c24b0); (try clear c24b1); (try clear c24b2); (try clear c25); (try clear c25b0); (try clear c25b1); (try clear c27); (try clear c28); (try clear c29); (try clear c30); (try clear c31); (try clear c32); (try clear c33); (try clear c34); (try clear c35); (try clear c37); (try clear c38); (try clear c39); (try clear c40); (try clear c41); (try clear c42); (try clear c47); (try clear c47b0); (try clear c47b1); (try clear c48); (try clear c48b0); (try clear c48b1); (try clear c48b2); (try clear c50); (try clear c50b0); (try clear c50b1); (try clear c50b2); (try clear c51); (try clear c52); (try clear c55); (try clear c56); (try clear c57); (try clear c60); (try clear c61); (try clear c64); (try clear p64); (try clear c66); (try clear c68); (try clear c69); (try clear c69b0); (try clear c69b1); (try clear c70); (try clear c70b0); (try clear c70b1); (try clear c70b2); (try clear c71); (try clear c72); (try clear c76); (try clear c78); (try clear c79); (try clear c83); (try clear c85); (try clear c86); (try clear c89); (try clear c90); (try clear c101); (try clear c101b0); (try clear c101b1); (try clear c102); (try clear c102b0); (try clear c102b1); (try clear c103); (try clear c104); (try clear c110); (try clear c111); (try clear c115); (try clear c116); (try clear c116b0); (try clear hcz10_0); (try clear hcz10_1); (try clear hcz15_0); (try clear hcz15_1); (try clear hcz17_0); (try clear hcz17_1); (try clear hcz22_0); (try clear hcz22_1); (try clear hcz29_0); (try clear hcz29_1); (try clear hcz31_0); (try clear hcz31_1); (try clear hcz34_0); (try clear hcz34_1); (try clear hcz36_0); (try clear hcz36_1); (try clear hcz43_0); (try clear hcz43_1); (try clear hcz45_0); (try clear hcz45_1); (try clear hcz53_0); (try clear hcz53_1); (try clear hcz58_0); (try clear hcz58_1); (try clear hcz62_0); (try clear hcz62_1); (try clear hcz73_0); (try clear hcz73_1); (try clear hcz75_0); (try clear hcz75_1); (try clear hcz77_0); (try clear hcz77_1); (try clear hcz80_0); (try clear hcz80_1); (try clear hcz82_0); (try clear hcz82_1); (try clear hcz84_0); (try clear hcz84_1); (try clear hcz87_0); (try clear hcz87_1); (try clear hcz91_0); (try clear hcz91_1); (try clear hfz10_0); (try clear hfz10_1); (try clear hfz15_0); (try clear hfz15_1); (try clear hfz17_0); (try clear hfz17_1); (try clear hfz22_0); (try clear hfz22_1); (try clear hfz29_0); (try clear hfz29_1); (try clear hfz31_0); (try clear hfz31_1); (try clear hfz34_0); (try clear hfz34_1); (try clear hfz36_0); (try clear hfz36_1); (try clear hfz43_0); (try clear hfz43_1); (try clear hfz45_0); (try clear hfz45_1); (try clear hfz53_0); (try clear hfz53_1); (try clear hfz58_0); (try clear hfz58_1); (try clear hfz62_0); (try clear hfz62_1); (try clear hfz73_0); (try clear hfz73_1); (try clear hfz75_0); (try clear hfz75_1); (try clear hfz77_0); (try clear hfz77_1); (try clear hfz80_0); (try clear hfz80_1); (try clear hfz82_0); (try clear hfz82_1); (try clear hfz84_0); (try clear hfz84_1); (try clear hfz87_0); (try clear hfz87_1); (try clear hfz91_0); (try clear hfz91_1); (try clear p2); (try clear p6); (try clear p64)
                     obtain ⟨x31_7, x32_7, rfl, HA, HK7, HO_26, HO_31, HO_428001, HO_434001, HO_440001, BK427, BK433, BK439, HB⟩ := hrel
                     cases gk with
                     | zero => exact absurd HA.out (by simp [laws_FnDays.l1])
                     | succ k7 =>
                      have H := HA.out
                      clear HA
                      simp only [laws_FnDays.l1] at H
                      by_cases c119 : x32_7 < (t460.length : Int)
                      ·rw [if_pos c119] at H
                       have c119b0 : decide (x32_7 < (t460.length : Int)) = true := decide_eq_true c119
                       clear c119
                       by_cases c120 : 0 ≤ x32_7
                       ·rw [if_pos c120] at H
                        have c120b0 : decide (0 ≤ x32_7) = true := decide_eq_true c120
                        clear c120
                        by_cases c121 : x31_7.length < 17592186044416
                        ·rw [if_pos c121] at H
                         have LMc121 := z8_A c121
                         clear c121
                         obtain ⟨y482, hy482⟩ : ∃ y_ : List Int, y_ = (x31_7 ++ [wrap64 (x30_6 - (rd t460 x32_7))]) := ⟨_, rfl⟩
                         replace H : (laws_FnDays.l1 k7 l0 t450 t451 t454 t455 t460 x30_6 y482 (wrap64 (x32_7 + 1))) = some r := by first | (rw [hy482]; with_reducible exact H) | (have H2_ := (Option.bind_some _ _).symm.trans H; rw [hy482]; with_reducible exact H2_) | (have H2_ := (Option.bind_some _ _).symm.trans H; with_reducible exact H2_) | with_reducible exact H | (rw [hy482]; exact H) | exact H
                         have Ny482 := z8_A hy482
                         clear hy482
                         have H' := z8_A H
                         clear H
                         obtain ⟨Ao122, co122, eo122⟩ := Kd.R_slice HO_26.out
                         subst eo122
                         have p481 : 0 ≤ (x32_7 : Int) := of_decide_eq_true (by first | (with_reducible assumption) | assumption)
                         have q481 : x32_7 < (t460.length : Int) := of_decide_eq_true (by first | (with_reducible assumption) | assumption)
                         obtain ⟨ad481, e481, hx481_0⟩ := Kd.at_int (Kd.R_reads' HO_26.out).2.2 x32_7 p481 q481
                         cases e481
                         replace p481 := eq_true p481
                         replace q481 := eq_true q481
                         go_wp2_with (first | ((with_reducible refine gate_builtin (b := .append) (xs := #[.tmp 213, .tmp 220]) rfl ?_); (try (refine gate_guard (by rfl) ?_; dsimp only)); at_builtin; refine Kd.R_append (Kd.int .i64) (w0 := w) w.heap.size rfl (.tmp 213) (.tmp 220) 22 3 (.int .i64 0) 8 rfl Try.underlying22 info3 rfl (by decide) (by omega) u31 x31_7 (wrap64 (x30_6 - (rd t460 x32_7))) [.int .i64 (wrap64 (x30_6 - (rd t460 x32_7)))] (fun k_ => z8_S k_ (some ad481) t460.length co122 ∧ z8_S k_ Ao11 t422.length co11 ∧ z8_S k_ Ao16 t429.length co16 ∧ z8_S k_ Ao23 t435.length co23) (fun _ => False) rfl rfl ?aP (fun _ hk => hk.elim) ?aF ?aO ?aB ?aS ?aL ?_; (case aP => exact rfl); (case aB => exact z8_1); (case aF => exact (fun k_ hk => ⟨Kd.fresh' (Kd.R_lt z8_9) k_ hk, Kd.fresh' (Kd.Q_lt z8_7) k_ hk, Kd.fresh' (Kd.Q_lt z8_6) k_ hk, Kd.fresh' (Kd.Q_lt z8_5) k_ hk⟩)); (case aO => exact z8_14); (case aS => exact (below_size z8_1)); (case aL => have := LMc121.out; omega); intro v483 w123 ho hb hg hat; rw [← Ny482.out] at ho; have n0_ := z8_A (Kd.R_after (ok := (fun k_ => z8_S k_ Ao11 t422.length co11 ∧ z8_S k_ Ao16 t429.length co16 ∧ z8_S k_ Ao23 t435.length co23)) (by (with_reducible repeat (first | apply Kd.R_alloc | apply Kd.R_drewN | apply Kd.R_drew)); exact Kd.R_mono HO_26.out (fun _ hk => ⟨⟨hk.2.1, ⟨hk.2.2.1, hk.2.2.2⟩⟩, hk.1⟩)) hg hat); have n1_ := z8_A (Kd.Q_after (ok := (fun k_ => z8_S k_ (some ad481) t460.length co122 ∧ z8_S k_ Ao16 t429.length co16 ∧ z8_S k_ Ao23 t435.length co23)) (by (with_reducible repeat (first | apply Kd.Q_alloc | apply Kd.Q_drewN | apply Kd.Q_drew)); exact Kd.Q_mono HO_428001.out (fun _ hk => ⟨⟨hk.1, ⟨hk.2.2.1, hk.2.2.2⟩⟩, hk.2.1⟩)) hg hat); have n2_ := z8_A (Kd.Q_after (ok := (fun k_ => z8_S k_ (some ad481) t460.length co122 ∧ z8_S k_ Ao11 t422.length co11 ∧ z8_S k_ Ao23 t435.length co23)) (by (with_reducible repeat (first | apply Kd.Q_alloc | apply Kd.Q_drewN | apply Kd.Q_drew)); exact Kd.Q_mono HO_434001.out (fun _ hk => ⟨⟨hk.1, ⟨hk.2.2.1, hk.2.2.2⟩⟩, hk.2.1⟩)) hg hat); have n3_ := z8_A (Kd.Q_after (ok := (fun k_ => z8_S k_ (some ad481) t460.length co122 ∧ z8_S k_ Ao11 t422.length co11 ∧ z8_S k_ Ao16 t429.length co16)) (by (with_reducible repeat (first | apply Kd.Q_alloc | apply Kd.Q_drewN | apply Kd.Q_drew)); exact Kd.Q_mono HO_440001.out (fun _ hk => ⟨⟨hk.1, ⟨hk.2.2.1, hk.2.2.2⟩⟩, hk.2.1⟩)) hg hat); have n4_ := z8_A (blk_grown (g := gb427) (o := .cells #[.int .i64 t421, .slice Ao11 t422.length co11] 30 (0, 0)) z8_2 hg (Kd.R_ne HO_31.out BK427.out (by decide))); have n5_ := z8_A (blk_grown (g := gb433) (o := .cells #[.int .i64 t428, .slice Ao16 t429.length co16] 30 (0, 0)) z8_3 hg (Kd.R_ne HO_31.out BK433.out (by decide))); have n6_ := z8_A (blk_grown (g := gb439) (o := .cells #[.int .i64 t434, .slice Ao23 t435.length co23] 30 (0, 0)) z8_4 hg (Kd.R_ne HO_31.out BK439.out (by decide))); have n7_ := z8_A (hb); have n8_ := z8_A (ho); clear HO_26 HO_428001 HO_434001 HO_440001 BK427 BK433 BK439 HB HO_31; revert n0_ n1_ n2_ n3_ n4_ n5_ n6_ n7_ n8_; intro HO_26 HO_428001 HO_434001 HO_440001 BK427 BK433 BK439 HB HO484; clear ho hb hg hat))
                         go_roundg k7
                         case measure => have := HJ6.out; have := HJ39.out; have := HJ64.out; have := HJ95.out; have := HJ106.out; have := HK6.out; have := HK7.out; omega
                         case rel => exact ⟨(y482), (wrap64 (x32_7 + 1)), z8_13, H', ⟨z8_26⟩, ⟨z8_49⟩, ⟨by (with_reducible repeat (first | apply Kd.R_alloc | apply Kd.R_drewN | apply Kd.R_drew)); exact HO484.out⟩, ⟨z8_48⟩, ⟨z8_47⟩, ⟨z8_46⟩, ⟨z8_2⟩, ⟨z8_3⟩, ⟨z8_4⟩, ⟨z8_1⟩⟩
                        ·rw [if_neg c121] at H
                         exact absurd H (by simp)
                       ·rw [if_neg c120] at H
                        exact absurd H (by simp)
                      ·rw [if_neg c119] at H
                       have c119b0 : decide (x32_7 < (t460.length : Int)) = false := decide_eq_false c119
                       clear c119
                       replace H := Option.bind_eq_some_iff.mp H
                       obtain ⟨⟨t485, t486⟩, A1240, H⟩ := H
                       (try dsimp only at H)
                       have A124 := z8_A A1240
                       clear A1240
                       by_cases c125 : t486 = true
                       ·subst c125
                        have H1 : (if t485 < t455 then (some false) else (if x30_6 = t454 then (if t485 = t455 then (if x30_6 < t454 then (some false) else (laws_FnDays.l0 k7 l0 t450 t451 t454 t455 t460 (wrap64 (x30_6 + 1)))) else (some false)) else (if x30_6 < t454 then (if t485 = t455 then (some false) else (laws_FnDays.l0 k7 l0 t450 t451 t454 t455 t460 (wrap64 (x30_6 + 1)))) else (laws_FnDays.l0 k7 l0 t450 t451 t454 t455 t460 (wrap64 (x30_6 + 1)))))) = some r := z8_31
                        clear H
                        have H := H1
                        clear H1
                        by_cases c126 : t485 < t455
                        ·rw [if_pos c126] at H
                         have c126b0 : decide (t485 < t455) = true := decide_eq_true c126
                         clear c126
                         obtain rfl := Option.some.inj H
                         obtain ⟨Ao127, co127, eo127⟩ := Kd.R_slice HO_26.out
                         subst eo127
                         obtain ⟨Ao128, co128, eo128⟩ := Kd.R_slice HO_31.out
                         subst eo128
                         go_wp2_with (first | ((with_reducible refine gate_callee (f := 42) rfl ?_); refine goesL_ (some 226) rfl rfl Try.func42 z8_27 rfl #[.slice Ao128 x31_7.length co128, .int .i64 t450, .int .i64 t451] rfl z8_8 ?_; (with_reducible refine (impl_StockCost.calls k7 _ _ x31_7 t450 t451 t485 true _ ?side1 ?side2 A124.out).mono ?_); (case side1 => have zh := (Kd.R_reads' HO_31.out).2.2; exact z8_C); (case side2 => exact (Kd.R_reads' HO_31.out).2.1); rintro e w129 ⟨rfl, hb⟩; refine ⟨_, rfl, ?_⟩; have n0_ := z8_A (Kd.R_below z8_9 hb); have n1_ := z8_A (Kd.R_below z8_14 hb); have n2_ := z8_A (Kd.Q_below z8_7 hb); have n3_ := z8_A (Kd.Q_below z8_6 hb); have n4_ := z8_A (Kd.Q_below z8_5 hb); have n5_ := z8_A (blk_below (g := gb427) (o := .cells #[.int .i64 t421, .slice Ao11 t422.length co11] 30 (0, 0)) z8_2 hb); have n6_ := z8_A (blk_below (g := gb433) (o := .cells #[.int .i64 t428, .slice Ao16 t429.length co16] 30 (0, 0)) z8_3 hb); have n7_ := z8_A (blk_below (g := gb439) (o := .cells #[.int .i64 t434, .slice Ao23 t435.length co23] 30 (0, 0)) z8_4 hb); have n8_ := z8_A (below_step z8_1 hb); clear HO_26 HO_31 HO_428001 HO_434001 HO_440001 BK427 BK433 BK439 HB; revert n0_ n1_ n2_ n3_ n4_ n5_ n6_ n7_ n8_; intro HO_26 HO_31 HO_428001 HO_434001 HO_440001 BK427 BK433 BK439 HB; (try clear hb); (try clear hb2); (try clear hk); (try clear hi)))
                         go_ret
                         exact ⟨z8_10, z8_1⟩
                        ·rw [if_neg c126] at H
                         have c126b0 : decide (t485 < t455) = false := decide_eq_false c126
                         clear c126
                         by_cases c130 : x30_6 = t454
                         ·rw [if_pos c130] at H
                          have c130b0 : (x30_6 == t454) = true := beq_iff_eq.mpr c130
                          have c130b1 : (x30_6 != t454) = false := bne_eq_false_iff_eq.mpr c130
                          clear c130
                          by_cases c131 : t485 = t455
                          ·rw [if_pos c131] at H
                           have c131b0 : (t485 == t455) = true := beq_iff_eq.mpr c131
                           have c131b1 : (t485 != t455) = false := bne_eq_false_iff_eq.mpr c131
                           clear c131
                           by_cases c132 : x30_6 < t454
                           ·rw [if_pos c132] at H
                            have c132b0 : decide (x30_6 < t454) = true := decide_eq_true c132
                            clear c132
                            obtain rfl := Option.some.inj H
                            obtain ⟨Ao133, co133, eo133⟩ := Kd.R_slice HO_26.out
                            subst eo133
                            obtain ⟨Ao134, co134, eo134⟩ := Kd.R_slice HO_31.out
                            subst eo134
                            go_wp2_with (first | ((with_reducible refine gate_callee (f := 42) rfl ?_); refine goesL_ (some 226) rfl rfl Try.func42 z8_27 rfl #[.slice Ao134 x31_7.length co134, .int .i64 t450, .int .i64 t451] rfl z8_8 ?_; (with_reducible refine (impl_StockCost.calls k7 _ _ x31_7 t450 t451 t485 true _ ?side1 ?side2 A124.out).mono ?_); (case side1 => have zh := (Kd.R_reads' HO_31.out).2.2; exact z8_C); (case side2 => exact (Kd.R_reads' HO_31.out).2.1); rintro e w135 ⟨rfl, hb⟩; refine ⟨_, rfl, ?_⟩; have n0_ := z8_A (Kd.R_below z8_9 hb); have n1_ := z8_A (Kd.R_below z8_14 hb); have n2_ := z8_A (Kd.Q_below z8_7 hb); have n3_ := z8_A (Kd.Q_below z8_6 hb); have n4_ := z8_A (Kd.Q_below z8_5 hb); have n5_ := z8_A (blk_below (g := gb427) (o := .cells #[.int .i64 t421, .slice Ao11 t422.length co11] 30 (0, 0)) z8_2 hb); have n6_ := z8_A (blk_below (g := gb433) (o := .cells #[.int .i64 t428, .slice Ao16 t429.length co16] 30 (0, 0)) z8_3 hb); have n7_ := z8_A (blk_below (g := gb439) (o := .cells #[.int .i64 t434, .slice Ao23 t435.length co23] 30 (0, 0)) z8_4 hb); have n8_ := z8_A (below_step z8_1 hb); clear HO_26 HO_31 HO_428001 HO_434001 HO_440001 BK427 BK433 BK439 HB; revert n0_ n1_ n2_ n3_ n4_ n5_ n6_ n7_ n8_; intro HO_26 HO_31 HO_428001 HO_434001 HO_440001 BK427 BK433 BK439 HB; (try clear hb); (try clear hb2); (try clear hk); (try clear hi)))
                            go_ret
                            exact ⟨z8_10, z8_1⟩
                           ·rw [if_neg c132] at H
                            have c132b0 : decide (x30_6 < t454) = false := decide_eq_false c132
                            clear c132
                            have H' := z8_A H
                            clear H
                            obtain ⟨Ao136, co136, eo136⟩ := Kd.R_slice HO_26.out
                            subst eo136
                            obtain ⟨Ao137, co137, eo137⟩ := Kd.R_slice HO_31.out
                            subst eo137
                            go_wp2_with (first | ((with_reducible refine gate_callee (f := 42) rfl ?_); refine goesL_ (some 226) rfl rfl Try.func42 z8_27 rfl #[.slice Ao137 x31_7.length co137, .int .i64 t450, .int .i64 t451] rfl z8_8 ?_; (with_reducible refine (impl_StockCost.calls k7 _ _ x31_7 t450 t451 t485 true _ ?side1 ?side2 A124.out).mono ?_); (case side1 => have zh := (Kd.R_reads' HO_31.out).2.2; exact z8_C); (case side2 => exact (Kd.R_reads' HO_31.out).2.1); rintro e w138 ⟨rfl, hb⟩; refine ⟨_, rfl, ?_⟩; have n0_ := z8_A (Kd.R_below z8_9 hb); have n1_ := z8_A (Kd.R_below z8_14 hb); have n2_ := z8_A (Kd.Q_below z8_7 hb); have n3_ := z8_A (Kd.Q_below z8_6 hb); have n4_ := z8_A (Kd.Q_below z8_5 hb); have n5_ := z8_A (blk_below (g := gb427) (o := .cells #[.int .i64 t421, .slice Ao11 t422.length co11] 30 (0, 0)) z8_2 hb); have n6_ := z8_A (blk_below (g := gb433) (o := .cells #[.int .i64 t428, .slice Ao16 t429.length co16] 30 (0, 0)) z8_3 hb); have n7_ := z8_A (blk_below (g := gb439) (o := .cells #[.int .i64 t434, .slice Ao23 t435.length co23] 30 (0, 0)) z8_4 hb); have n8_ := z8_A (below_step z8_1 hb); clear HO_26 HO_31 HO_428001 HO_434001 HO_440001 BK427 BK433 BK439 HB; revert n0_ n1_ n2_ n3_ n4_ n5_ n6_ n7_ n8_; intro HO_26 HO_31 HO_428001 HO_434001 HO_440001 BK427 BK433 BK439 HB; (try clear hb); (try clear hb2); (try clear hk); (try clear hi)))
                            go_roundg k7
                            case measure => have := HJ6.out; have := HJ39.out; have := HJ64.out; have := HJ95.out; have := HJ106.out; have := HK6.out; have := HK7.out; omega
                            case rel => exact ⟨(wrap64 (x30_6 + 1)), z8_13, H', ⟨z8_26⟩, ⟨z8_37⟩, ⟨z8_36⟩, ⟨z8_35⟩, ⟨z8_34⟩, ⟨z8_2⟩, ⟨z8_3⟩, ⟨z8_4⟩, ⟨z8_1⟩⟩
                          ·rw [if_neg c131] at H
                           have c131b0 : (t485 == t455) = false := beq_eq_false_iff_ne.mpr c131
                           have c131b1 : (t485 != t455) = true := bne_iff_ne.mpr c131
                           obtain rfl := Option.some.inj H
                           obtain ⟨Ao139, co139, eo139⟩ := Kd.R_slice HO_26.out
                           subst eo139
                           obtain ⟨Ao140, co140, eo140⟩ := Kd.R_slice HO_31.out
                           subst eo140
                           go_wp2_with (first | ((with_reducible refine gate_callee (f := 42) rfl ?_); refine goesL_ (some 226) rfl rfl Try.func42 z8_27 rfl #[.slice Ao140 x31_7.length co140, .int .i64 t450, .int .i64 t451] rfl z8_8 ?_; (with_reducible refine (impl_StockCost.calls k7 _ _ x31_7 t450 t451 t485 true _ ?side1 ?side2 A124.out).mono ?_); (case side1 => have zh := (Kd.R_reads' HO_31.out).2.2; exact z8_C); (case side2 => exact (Kd.R_reads' HO_31.out).2.1); rintro e w141 ⟨rfl, hb⟩; refine ⟨_, rfl, ?_⟩; have n0_ := z8_A (Kd.R_below z8_9 hb); have n1_ := z8_A (Kd.R_below z8_14 hb); have n2_ := z8_A (Kd.Q_below z8_7 hb); have n3_ := z8_A (Kd.Q_below z8_6 hb); have n4_ := z8_A (Kd.Q_below z8_5 hb); have n5_ := z8_A (blk_below (g := gb427) (o := .cells #[.int .i64 t421, .slice Ao11 t422.length co11] 30 (0, 0)) z8_2 hb); have n6_ := z8_A (blk_below (g := gb433) (o := .cells #[.int .i64 t428, .slice Ao16 t429.length co16] 30 (0, 0)) z8_3 hb); have n7_ := z8_A (blk_below (g := gb439) (o := .cells #[.int .i64 t434, .slice Ao23 t435.length co23] 30 (0, 0)) z8_4 hb); have n8_ := z8_A (below_step z8_1 hb); clear HO_26 HO_31 HO_428001 HO_434001 HO_440001 BK427 BK433 BK439 HB; revert n0_ n1_ n2_ n3_ n4_ n5_ n6_ n7_ n8_; intro HO_26 HO_31 HO_428001 HO_434001 HO_440001 BK427 BK433 BK439 HB; (try clear hb); (try clear hb2); (try clear hk); (try clear hi)))
                           go_ret
                           exact ⟨z8_10, z8_1⟩
                         ·rw [if_neg c130] at H
                          have c130b0 : (x30_6 == t454) = false := beq_eq_false_iff_ne.mpr c130
                          have c130b1 : (x30_6 != t454) = true := bne_iff_ne.mpr c130
                          by_cases c142 : x30_6 < t454
                          ·rw [if_pos c142] at H
                           have c142b0 : decide (x30_6 < t454) = true := decide_eq_true c142
                           clear c142
                           by_cases c143 : t485 = t455
                           ·rw [if_pos c143] at H
                            have c143b0 : (t485 == t455) = true := beq_iff_eq.mpr c143
                            have c143b1 : (t485 != t455) = false := bne_eq_false_iff_eq.mpr c143
                            clear c143
                            obtain rfl := Option.some.inj H
                            obtain ⟨Ao144, co144, eo144⟩ := Kd.R_slice HO_26.out
                            subst eo144
                            obtain ⟨Ao145, co145, eo145⟩ := Kd.R_slice HO_31.out
                            subst eo145
                            go_wp2_with (first | ((with_reducible refine gate_callee (f := 42) rfl ?_); refine goesL_ (some 226) rfl rfl Try.func42 z8_27 rfl #[.slice Ao145 x31_7.length co145, .int .i64 t450, .int .i64 t451] rfl z8_8 ?_; (with_reducible refine (impl_StockCost.calls k7 _ _ x31_7 t450 t451 t485 true _ ?side1 ?side2 A124.out).mono ?_); (case side1 => have zh := (Kd.R_reads' HO_31.out).2.2; exact z8_C); (case side2 => exact (Kd.R_reads' HO_31.out).2.1); rintro e w146 ⟨rfl, hb⟩; refine ⟨_, rfl, ?_⟩; have n0_ := z8_A (Kd.R_below z8_9 hb); have n1_ := z8_A (Kd.R_below z8_14 hb); have n2_ := z8_A (Kd.Q_below z8_7 hb); have n3_ := z8_A (Kd.Q_below z8_6 hb); have n4_ := z8_A (Kd.Q_below z8_5 hb); have n5_ := z8_A (blk_below (g := gb427) (o := .cells #[.int .i64 t421, .slice Ao11 t422.length co11] 30 (0, 0)) z8_2 hb); have n6_ := z8_A (blk_below (g := gb433) (o := .cells #[.int .i64 t428, .slice Ao16 t429.length co16] 30 (0, 0)) z8_3 hb); have n7_ := z8_A (blk_below (g := gb439) (o := .cells #[.int .i64 t434, .slice Ao23 t435.length co23] 30 (0, 0)) z8_4 hb); have n8_ := z8_A (below_step z8_1 hb); clear HO_26 HO_31 HO_428001 HO_434001 HO_440001 BK427 BK433 BK439 HB; revert n0_ n1_ n2_ n3_ n4_ n5_ n6_ n7_ n8_; intro HO_26 HO_31 HO_428001 HO_434001 HO_440001 BK427 BK433 BK439 HB; (try clear hb); (try clear hb2); (try clear hk); (try clear hi)))
                            go_ret
                            exact ⟨z8_10, z8_1⟩
                           ·rw [if_neg c143] at H
                            have c143b0 : (t485 == t455) = false := beq_eq_false_iff_ne.mpr c143
                            have c143b1 : (t485 != t455) = true := bne_iff_ne.mpr c143
                            have H' := z8_A H
                            clear H
                            obtain ⟨Ao147, co147, eo147⟩ := Kd.R_slice HO_26.out
                            subst eo147
                            obtain ⟨Ao148, co148, eo148⟩ := Kd.R_slice HO_31.out
                            subst eo148
                            go_wp2_with (first | ((with_reducible refine gate_callee (f := 42) rfl ?_); refine goesL_ (some 226) rfl rfl Try.func42 z8_27 rfl #[.slice Ao148 x31_7.length co148, .int .i64 t450, .int .i64 t451] rfl z8_8 ?_; (with_reducible refine (impl_StockCost.calls k7 _ _ x31_7 t450 t451 t485 true _ ?side1 ?side2 A124.out).mono ?_); (case side1 => have zh := (Kd.R_reads' HO_31.out).2.2; exact z8_C); (case side2 => exact (Kd.R_reads' HO_31.out).2.1); rintro e w149 ⟨rfl, hb⟩; refine ⟨_, rfl, ?_⟩; have n0_ := z8_A (Kd.R_below z8_9 hb); have n1_ := z8_A (Kd.R_below z8_14 hb); have n2_ := z8_A (Kd.Q_below z8_7 hb); have n3_ := z8_A (Kd.Q_below z8_6 hb); have n4_ := z8_A (Kd.Q_below z8_5 hb); have n5_ := z8_A (blk_below (g := gb427) (o := .cells #[.int .i64 t421, .slice Ao11 t422.length co11] 30 (0, 0)) z8_2 hb); have n6_ := z8_A (blk_below (g := gb433) (o := .cells #[.int .i64 t428, .slice Ao16 t429.length co16] 30 (0, 0)) z8_3 hb); have n7_ := z8_A (blk_below (g := gb439) (o := .cells #[.int .i64 t434, .slice Ao23 t435.length co23] 30 (0, 0)) z8_4 hb); have n8_ := z8_A (below_step z8_1 hb); clear HO_26 HO_31 HO_428001 HO_434001 HO_440001 BK427 BK433 BK439 HB; revert n0_ n1_ n2_ n3_ n4_ n5_ n6_ n7_ n8_; intro HO_26 HO_31 HO_428001 HO_434001 HO_440001 BK427 BK433 BK439 HB; (try clear hb); (try clear hb2); (try clear hk); (try clear hi)))
                            go_roundg k7
                            case measure => have := HJ6.out; have := HJ39.out; have := HJ64.out; have := HJ95.out; have := HJ106.out; have := HK6.out; have := HK7.out; omega
                            case rel => exact ⟨(wrap64 (x30_6 + 1)), z8_13, H', ⟨z8_26⟩, ⟨z8_37⟩, ⟨z8_36⟩, ⟨z8_35⟩, ⟨z8_34⟩, ⟨z8_2⟩, ⟨z8_3⟩, ⟨z8_4⟩, ⟨z8_1⟩⟩
                          ·rw [if_neg c142] at H
                           have c142b0 : decide (x30_6 < t454) = false := decide_eq_false c142
                           clear c142
                           have H' := z8_A H
                           clear H
                           obtain ⟨Ao150, co150, eo150⟩ := Kd.R_slice HO_26.out
                           subst eo150
                           obtain ⟨Ao151, co151, eo151⟩ := Kd.R_slice HO_31.out
                           subst eo151
                           go_wp2_with (first | ((with_reducible refine gate_callee (f := 42) rfl ?_); refine goesL_ (some 226) rfl rfl Try.func42 z8_27 rfl #[.slice Ao151 x31_7.length co151, .int .i64 t450, .int .i64 t451] rfl z8_8 ?_; (with_reducible refine (impl_StockCost.calls k7 _ _ x31_7 t450 t451 t485 true _ ?side1 ?side2 A124.out).mono ?_); (case side1 => have zh := (Kd.R_reads' HO_31.out).2.2; exact z8_C); (case side2 => exact (Kd.R_reads' HO_31.out).2.1); rintro e w152 ⟨rfl, hb⟩; refine ⟨_, rfl, ?_⟩; have n0_ := z8_A (Kd.R_below z8_9 hb); have n1_ := z8_A (Kd.R_below z8_14 hb); have n2_ := z8_A (Kd.Q_below z8_7 hb); have n3_ := z8_A (Kd.Q_below z8_6 hb); have n4_ := z8_A (Kd.Q_below z8_5 hb); have n5_ := z8_A (blk_below (g := gb427) (o := .cells #[.int .i64 t421, .slice Ao11 t422.length co11] 30 (0, 0)) z8_2 hb); have n6_ := z8_A (blk_below (g := gb433) (o := .cells #[.int .i64 t428, .slice Ao16 t429.length co16] 30 (0, 0)) z8_3 hb); have n7_ := z8_A (blk_below (g := gb439) (o := .cells #[.int .i64 t434, .slice Ao23 t435.length co23] 30 (0, 0)) z8_4 hb); have n8_ := z8_A (below_step z8_1 hb); clear HO_26 HO_31 HO_428001 HO_434001 HO_440001 BK427 BK433 BK439 HB; revert n0_ n1_ n2_ n3_ n4_ n5_ n6_ n7_ n8_; intro HO_26 HO_31 HO_428001 HO_434001 HO_440001 BK427 BK433 BK439 HB; (try clear hb); (try clear hb2); (try clear hk); (try clear hi)))
                           go_roundg k7
                           case measure => have := HJ6.out; have := HJ39.out; have := HJ64.out; have := HJ95.out; have := HJ106.out; have := HK6.out; have := HK7.out; omega
                           case rel => exact ⟨(wrap64 (x30_6 + 1)), z8_13, H', ⟨z8_26⟩, ⟨z8_37⟩, ⟨z8_36⟩, ⟨z8_35⟩, ⟨z8_34⟩, ⟨z8_2⟩, ⟨z8_3⟩, ⟨z8_4⟩, ⟨z8_1⟩⟩
                       ·replace c125 := Bool.eq_false_iff.mpr c125
                        subst c125
                        have H1 : (some false) = some r := z8_22
                        clear H
                        have H := H1
                        clear H1
                        obtain rfl := Option.some.inj H
                        obtain ⟨Ao153, co153, eo153⟩ := Kd.R_slice HO_26.out
                        subst eo153
                        obtain ⟨Ao154, co154, eo154⟩ := Kd.R_slice HO_31.out
                        subst eo154
                        go_wp2_with (first | ((with_reducible refine gate_callee (f := 42) rfl ?_); refine goesL_ (some 226) rfl rfl Try.func42 z8_27 rfl #[.slice Ao154 x31_7.length co154, .int .i64 t450, .int .i64 t451] rfl z8_8 ?_; (with_reducible refine (impl_StockCost.calls k7 _ _ x31_7 t450 t451 t485 false _ ?side1 ?side2 A124.out).mono ?_); (case side1 => have zh := (Kd.R_reads' HO_31.out).2.2; exact z8_C); (case side2 => exact (Kd.R_reads' HO_31.out).2.1); rintro e w155 ⟨rfl, hb⟩; refine ⟨_, rfl, ?_⟩; have n0_ := z8_A (Kd.R_below z8_9 hb); have n1_ := z8_A (Kd.R_below z8_14 hb); have n2_ := z8_A (Kd.Q_below z8_7 hb); have n3_ := z8_A (Kd.Q_below z8_6 hb); have n4_ := z8_A (Kd.Q_below z8_5 hb); have n5_ := z8_A (blk_below (g := gb427) (o := .cells #[.int .i64 t421, .slice Ao11 t422.length co11] 30 (0, 0)) z8_2 hb); have n6_ := z8_A (blk_below (g := gb433) (o := .cells #[.int .i64 t428, .slice Ao16 t429.length co16] 30 (0, 0)) z8_3 hb); have n7_ := z8_A (blk_below (g := gb439) (o := .cells #[.int .i64 t434, .slice Ao23 t435.length co23] 30 (0, 0)) z8_4 hb); have n8_ := z8_A (below_step z8_1 hb); clear HO_26 HO_31 HO_428001 HO_434001 HO_440001 BK427 BK433 BK439 HB; revert n0_ n1_ n2_ n3_ n4_ n5_ n6_ n7_ n8_; intro HO_26 HO_31 HO_428001 HO_434001 HO_440001 BK427 BK433 BK439 HB; (try clear hb); (try clear hb2); (try clear hk); (try clear hi)))
                        go_ret
                        exact ⟨z8_10, z8_1⟩
                   ·rw [if_neg c116] at H
                    have c116b0 : decide (x30_6 ≤ 200) = false := decide_eq_false c116
                    clear c116
                    replace H := Option.bind_eq_some_iff.mp H
                    obtain ⟨⟨t469, t470, t471⟩, A1560, H⟩ := H
                    (try dsimp only at H)
                    have A156 := z8_A A1560
                    clear A1560
                    replace H := Option.bind_eq_some_iff.mp H
                    obtain ⟨⟨t474, t475⟩, A1570, H⟩ := H
                    (try dsimp only at H)
                    have A157 := z8_A A1570
                    clear A1570
                    replace H := Option.bind_eq_some_iff.mp H
                    obtain ⟨⟨t476, t477⟩, A1580, H⟩ := H
                    (try dsimp only at H)
                    have A158 := z8_A A1580
                    clear A1580
                    by_cases c159 : t474 = t476
                    ·rw [if_pos c159] at H
                     have c159b0 : (t474 == t476) = true := beq_iff_eq.mpr c159
                     have c159b1 : (t474 != t476) = false := bne_eq_false_iff_eq.mpr c159
                     clear c159
                     obtain rfl := Option.some.inj H
                     go_wp2_with (first | ((with_reducible refine gate_callee (f := 43) rfl ?_); refine goesL_ (some 258) rfl rfl Try.func43 z8_27 rfl #[.slice A0 l0.length c0] rfl z8_8 ?_; (with_reducible refine (spec_DrawStockCost.calls k6 _ _ l0 t469 t470 t471 _ ?side1 ?side2 A156.out).mono ?_); (case side1 => have zh := (Kd.C_below HR0.out HB.out); exact z8_C); (case side2 => exact HC0.out); rintro e w160 ⟨v472, rfl, ho0, hb⟩; refine ⟨_, rfl, ?_⟩; have n0_ := z8_A (Kd.R_elder' z8_9 (Kd.R_base ho0) hb); have n1_ := z8_A (Kd.Q_elder' z8_7 (Kd.R_base ho0) hb); have n2_ := z8_A (Kd.Q_elder' z8_6 (Kd.R_base ho0) hb); have n3_ := z8_A (Kd.Q_elder' z8_5 (Kd.R_base ho0) hb); have n4_ := z8_A (Kd.R_lower (Kd.R_new' (Kd.R_new' (Kd.R_new' (Kd.R_new' ho0 (Kd.R_lt z8_9)) (Kd.Q_lt z8_7)) (Kd.Q_lt z8_6)) (Kd.Q_lt z8_5)) (below_size z8_1)); have n5_ := z8_A (blk_below (g := gb427) (o := .cells #[.int .i64 t421, .slice Ao11 t422.length co11] 30 (0, 0)) z8_2 hb); have n6_ := z8_A (blk_below (g := gb433) (o := .cells #[.int .i64 t428, .slice Ao16 t429.length co16] 30 (0, 0)) z8_3 hb); have n7_ := z8_A (blk_below (g := gb439) (o := .cells #[.int .i64 t434, .slice Ao23 t435.length co23] 30 (0, 0)) z8_4 hb); have n8_ := z8_A (below_step z8_1 hb); clear HO_26 HO_428001 HO_434001 HO_440001 BK427 BK433 BK439 HB; revert n0_ n1_ n2_ n3_ n4_ n5_ n6_ n7_ n8_; intro HO_26 HO_428001 HO_434001 HO_440001 HO473 BK427 BK433 BK439 HB; (try clear hb); (try clear hb2); (try clear hk); (try clear hi); (try clear ho0); obtain ⟨Ao161, co161, eo161⟩ := Kd.R_slice HO473.out; subst eo161) | ((with_reducible refine gate_callee (f := 42) rfl ?_); refine goesL_ (some 266) rfl rfl Try.func42 z8_27 rfl #[.slice Ao161 t469.length co161, .int .i64 t470, .int .i64 t471] rfl z8_8 ?_; (with_reducible refine (impl_StockCost.calls k6 _ _ t469 t470 t471 t474 t475 _ ?side1 ?side2 A157.out).mono ?_); (case side1 => have zh := (Kd.R_reads' HO473.out).2.2; exact z8_C); (case side2 => exact (Kd.R_reads' HO473.out).2.1); rintro e w162 ⟨rfl, hb⟩; refine ⟨_, rfl, ?_⟩; have n0_ := z8_A (Kd.R_below z8_9 hb); have n1_ := z8_A (Kd.Q_below z8_7 hb); have n2_ := z8_A (Kd.Q_below z8_6 hb); have n3_ := z8_A (Kd.Q_below z8_5 hb); have n4_ := z8_A (Kd.R_below z8_53 hb); have n5_ := z8_A (blk_below (g := gb427) (o := .cells #[.int .i64 t421, .slice Ao11 t422.length co11] 30 (0, 0)) z8_2 hb); have n6_ := z8_A (blk_below (g := gb433) (o := .cells #[.int .i64 t428, .slice Ao16 t429.length co16] 30 (0, 0)) z8_3 hb); have n7_ := z8_A (blk_below (g := gb439) (o := .cells #[.int .i64 t434, .slice Ao23 t435.length co23] 30 (0, 0)) z8_4 hb); have n8_ := z8_A (below_step z8_1 hb); clear HO_26 HO_428001 HO_434001 HO_440001 HO473 BK427 BK433 BK439 HB; revert n0_ n1_ n2_ n3_ n4_ n5_ n6_ n7_ n8_; intro HO_26 HO_428001 HO_434001 HO_440001 HO473 BK427 BK433 BK439 HB; (try clear hb); (try clear hb2); (try clear hk); (try clear hi)) | ((with_reducible refine gate_callee (f := 44) rfl ?_); refine goesL_ (some 273) rfl rfl Try.func44 z8_27 rfl #[.slice Ao161 t469.length co161, .int .i64 t470, .int .i64 t471] rfl z8_8 ?_; (with_reducible refine (spec_StockCost.calls k6 _ _ t469 t470 t471 t476 t477 _ ?side1 ?side2 A158.out).mono ?_); (case side1 => have zh := (Kd.R_reads' HO473.out).2.2; exact z8_C); (case side2 => exact (Kd.R_reads' HO473.out).2.1); rintro e w' ⟨rfl, ⟨nd, rfl⟩⟩; refine ⟨_, rfl, ?_⟩))
                     go_ret
                     exact ⟨z8_10, z8_1⟩
                    ·rw [if_neg c159] at H
                     have c159b0 : (t474 == t476) = false := beq_eq_false_iff_ne.mpr c159
                     have c159b1 : (t474 != t476) = true := bne_iff_ne.mpr c159
                     obtain rfl := Option.some.inj H
                     go_wp2_with (first | ((with_reducible refine gate_callee (f := 43) rfl ?_); refine goesL_ (some 258) rfl rfl Try.func43 z8_27 rfl #[.slice A0 l0.length c0] rfl z8_8 ?_; (with_reducible refine (spec_DrawStockCost.calls k6 _ _ l0 t469 t470 t471 _ ?side1 ?side2 A156.out).mono ?_); (case side1 => have zh := (Kd.C_below HR0.out HB.out); exact z8_C); (case side2 => exact HC0.out); rintro e w163 ⟨v472, rfl, ho0, hb⟩; refine ⟨_, rfl, ?_⟩; have n0_ := z8_A (Kd.R_elder' z8_9 (Kd.R_base ho0) hb); have n1_ := z8_A (Kd.Q_elder' z8_7 (Kd.R_base ho0) hb); have n2_ := z8_A (Kd.Q_elder' z8_6 (Kd.R_base ho0) hb); have n3_ := z8_A (Kd.Q_elder' z8_5 (Kd.R_base ho0) hb); have n4_ := z8_A (Kd.R_lower (Kd.R_new' (Kd.R_new' (Kd.R_new' (Kd.R_new' ho0 (Kd.R_lt z8_9)) (Kd.Q_lt z8_7)) (Kd.Q_lt z8_6)) (Kd.Q_lt z8_5)) (below_size z8_1)); have n5_ := z8_A (blk_below (g := gb427) (o := .cells #[.int .i64 t421, .slice Ao11 t422.length co11] 30 (0, 0)) z8_2 hb); have n6_ := z8_A (blk_below (g := gb433) (o := .cells #[.int .i64 t428, .slice Ao16 t429.length co16] 30 (0, 0)) z8_3 hb); have n7_ := z8_A (blk_below (g := gb439) (o := .cells #[.int .i64 t434, .slice Ao23 t435.length co23] 30 (0, 0)) z8_4 hb); have n8_ := z8_A (below_step z8_1 hb); clear HO_26 HO_428001 HO_434001 HO_440001 BK427 BK433 BK439 HB; revert n0_ n1_ n2_ n3_ n4_ n5_ n6_ n7_ n8_; intro HO_26 HO_428001 HO_434001 HO_440001 HO473 BK427 BK433 BK439 HB; (try clear hb); (try clear hb2); (try clear hk); (try clear hi); (try clear ho0); obtain ⟨Ao164, co164, eo164⟩ := Kd.R_slice HO473.out; subst eo164) | ((with_reducible refine gate_callee (f := 42) rfl ?_); refine goesL_ (some 266) rfl rfl Try.func42 z8_27 rfl #[.slice Ao164 t469.length co164, .int .i64 t470, .int .i64 t471] rfl z8_8 ?_; (with_reducible refine (impl_StockCost.calls k6 _ _ t469 t470 t471 t474 t475 _ ?side1 ?side2 A157.out).mono ?_); (case side1 => have zh := (Kd.R_reads' HO473.out).2.2; exact z8_C); (case side2 => exact (Kd.R_reads' HO473.out).2.1); rintro e w165 ⟨rfl, hb⟩; refine ⟨_, rfl, ?_⟩; have n0_ := z8_A (Kd.R_below z8_9 hb); have n1_ := z8_A (Kd.Q_below z8_7 hb); have n2_ := z8_A (Kd.Q_below z8_6 hb); have n3_ := z8_A (Kd.Q_below z8_5 hb); have n4_ := z8_A (Kd.R_below z8_53 hb); have n5_ := z8_A (blk_below (g := gb427) (o := .cells #[.int .i64 t421, .slice Ao11 t422.length co11] 30 (0, 0)) z8_2 hb); have n6_ := z8_A (blk_below (g := gb433) (o := .cells #[.int .i64 t428, .slice Ao16 t429.length co16] 30 (0, 0)) z8_3 hb); have n7_ := z8_A (blk_below (g := gb439) (o := .cells #[.int .i64 t434, .slice Ao23 t435.length co23] 30 (0, 0)) z8_4 hb); have n8_ := z8_A (below_step z8_1 hb); clear HO_26 HO_428001 HO_434001 HO_440001 HO473 BK427 BK433 BK439 HB; revert n0_ n1_ n2_ n3_ n4_ n5_ n6_ n7_ n8_; intro HO_26 HO_428001 HO_434001 HO_440001 HO473 BK427 BK433 BK439 HB; (try clear hb); (try clear hb2); (try clear hk); (try clear hi)) | ((with_reducible refine gate_callee (f := 44) rfl ?_); refine goesL_ (some 273) rfl rfl Try.func44 z8_27 rfl #[.slice Ao164 t469.length co164, .int .i64 t470, .int .i64 t471] rfl z8_8 ?_; (with_reducible refine (spec_StockCost.calls k6 _ _ t469 t470 t471 t476 t477 _ ?side1 ?side2 A158.out).mono ?_); (case side1 => have zh := (Kd.R_reads' HO473.out).2.2; exact z8_C); (case side2 => exact (Kd.R_reads' HO473.out).2.1); rintro e w' ⟨rfl, ⟨nd, rfl⟩⟩; refine ⟨_, rfl, ?_⟩))
                     go_ret
                     exact ⟨z8_10, z8_1⟩
             ·replace c104 := Bool.eq_false_iff.mpr c104
              subst c104
              have H1 : ((spec_DrawStockCost.f kj95 l0).bind fun bt487 => ((impl_StockCost.f kj95 bt487.1 bt487.2.1 bt487.2.2).bind fun bt492 => ((spec_StockCost.f kj95 bt487.1 bt487.2.1 bt487.2.2).bind fun bt494 => (if bt492.1 = bt494.1 then (some (bt492.2 == bt494.2)) else (some false))))) = some r := z8_22
              clear H
              have H := H1
              clear H1
              replace H := Option.bind_eq_some_iff.mp H
              obtain ⟨⟨t487, t488, t489⟩, A1660, H⟩ := H
              (try dsimp only at H)
              have A166 := z8_A A1660
              clear A1660
              replace H := Option.bind_eq_some_iff.mp H
              obtain ⟨⟨t492, t493⟩, A1670, H⟩ := H
              (try dsimp only at H)
              have A167 := z8_A A1670
              clear A1670
              replace H := Option.bind_eq_some_iff.mp H
              obtain ⟨⟨t494, t495⟩, A1680, H⟩ := H
              (try dsimp only at H)
              have A168 := z8_A A1680
              clear A1680
              by_cases c169 : t492 = t494
              ·rw [if_pos c169] at H
               have c169b0 : (t492 == t494) = true := beq_iff_eq.mpr c169
               have c169b1 : (t492 != t494) = false := bne_eq_false_iff_eq.mpr c169
               clear c169
               obtain rfl := Option.some.inj H
               go_wp2_with (first | ((with_reducible refine gate_callee (f := 43) rfl ?_); refine goesL_ (some 258) rfl rfl Try.func43 z8_27 rfl #[.slice A0 l0.length c0] rfl z8_8 ?_; (with_reducible refine (spec_DrawStockCost.calls kj95 _ _ l0 t487 t488 t489 _ ?side1 ?side2 A166.out).mono ?_); (case side1 => have zh := (Kd.C_below HR0.out HB.out); exact z8_C); (case side2 => exact HC0.out); rintro e w170 ⟨v490, rfl, ho0, hb⟩; refine ⟨_, rfl, ?_⟩; have n0_ := z8_A (Kd.R_elder' z8_11 (Kd.R_base ho0) hb); have n1_ := z8_A (Kd.Q_elder' z8_7 (Kd.R_base ho0) hb); have n2_ := z8_A (Kd.Q_elder' z8_6 (Kd.R_base ho0) hb); have n3_ := z8_A (Kd.Q_elder' z8_5 (Kd.R_base ho0) hb); have n4_ := z8_A (Kd.R_lower (Kd.R_new' (Kd.R_new' (Kd.R_new' (Kd.R_new' ho0 (Kd.R_lt z8_11)) (Kd.Q_lt z8_7)) (Kd.Q_lt z8_6)) (Kd.Q_lt z8_5)) (below_size z8_1)); have n5_ := z8_A (blk_below (g := gb427) (o := .cells #[.int .i64 t421, .slice Ao11 t422.length co11] 30 (0, 0)) z8_2 hb); have n6_ := z8_A (blk_below (g := gb433) (o := .cells #[.int .i64 t428, .slice Ao16 t429.length co16] 30 (0, 0)) z8_3 hb); have n7_ := z8_A (blk_below (g := gb439) (o := .cells #[.int .i64 t434, .slice Ao23 t435.length co23] 30 (0, 0)) z8_4 hb); have n8_ := z8_A (below_step z8_1 hb); clear HO_16 HO_428001 HO_434001 HO_440001 BK427 BK433 BK439 HB; revert n0_ n1_ n2_ n3_ n4_ n5_ n6_ n7_ n8_; intro HO_16 HO_428001 HO_434001 HO_440001 HO491 BK427 BK433 BK439 HB; (try clear hb); (try clear hb2); (try clear hk); (try clear hi); (try clear ho0); obtain ⟨Ao171, co171, eo171⟩ := Kd.R_slice HO491.out; subst eo171) | ((with_reducible refine gate_callee (f := 42) rfl ?_); refine goesL_ (some 266) rfl rfl Try.func42 z8_27 rfl #[.slice Ao171 t487.length co171, .int .i64 t488, .int .i64 t489] rfl z8_8 ?_; (with_reducible refine (impl_StockCost.calls kj95 _ _ t487 t488 t489 t492 t493 _ ?side1 ?side2 A167.out).mono ?_); (case side1 => have zh := (Kd.R_reads' HO491.out).2.2; exact z8_C); (case side2 => exact (Kd.R_reads' HO491.out).2.1); rintro e w172 ⟨rfl, hb⟩; refine ⟨_, rfl, ?_⟩; have n0_ := z8_A (Kd.R_below z8_11 hb); have n1_ := z8_A (Kd.Q_below z8_7 hb); have n2_ := z8_A (Kd.Q_below z8_6 hb); have n3_ := z8_A (Kd.Q_below z8_5 hb); have n4_ := z8_A (Kd.R_below z8_52 hb); have n5_ := z8_A (blk_below (g := gb427) (o := .cells #[.int .i64 t421, .slice Ao11 t422.length co11] 30 (0, 0)) z8_2 hb); have n6_ := z8_A (blk_below (g := gb433) (o := .cells #[.int .i64 t428, .slice Ao16 t429.length co16] 30 (0, 0)) z8_3 hb); have n7_ := z8_A (blk_below (g := gb439) (o := .cells #[.int .i64 t434, .slice Ao23 t435.length co23] 30 (0, 0)) z8_4 hb); have n8_ := z8_A (below_step z8_1 hb); clear HO_16 HO_428001 HO_434001 HO_440001 HO491 BK427 BK433 BK439 HB; revert n0_ n1_ n2_ n3_ n4_ n5_ n6_ n7_ n8_; intro HO_16 HO_428001 HO_434001 HO_440001 HO491 BK427 BK433 BK439 HB; (try clear hb); (try clear hb2); (try clear hk); (try clear hi)) | ((with_reducible refine gate_callee (f := 44) rfl ?_); refine goesL_ (some 273) rfl rfl Try.func44 z8_27 rfl #[.slice Ao171 t487.length co171, .int .i64 t488, .int .i64 t489] rfl z8_8 ?_; (with_reducible refine (spec_StockCost.calls kj95 _ _ t487 t488 t489 t494 t495 _ ?side1 ?side2 A168.out).mono ?_); (case side1 => have zh := (Kd.R_reads' HO491.out).2.2; exact z8_C); (case side2 => exact (Kd.R_reads' HO491.out).2.1); rintro e w' ⟨rfl, ⟨nd, rfl⟩⟩; refine ⟨_, rfl, ?_⟩))
               go_ret
               exact ⟨z8_10, z8_1⟩
              ·rw [if_neg c169] at H
               have c169b0 : (t492 == t494) = false := beq_eq_false_iff_ne.mpr c169
               have c169b1 : (t492 != t494) = true := bne_iff_ne.mpr c169
               obtain rfl := Option.some.inj H
               go_wp2_with (first | ((with_reducible refine gate_callee (f := 43) rfl ?_); refine goesL_ (some 258) rfl rfl Try.func43 z8_27 rfl #[.slice A0 l0.length c0] rfl z8_8 ?_; (with_reducible refine (spec_DrawStockCost.calls kj95 _ _ l0 t487 t488 t489 _ ?side1 ?side2 A166.out).mono ?_); (case side1 => have zh := (Kd.C_below HR0.out HB.out); exact z8_C); (case side2 => exact HC0.out); rintro e w173 ⟨v490, rfl, ho0, hb⟩; refine ⟨_, rfl, ?_⟩; have n0_ := z8_A (Kd.R_elder' z8_11 (Kd.R_base ho0) hb); have n1_ := z8_A (Kd.Q_elder' z8_7 (Kd.R_base ho0) hb); have n2_ := z8_A (Kd.Q_elder' z8_6 (Kd.R_base ho0) hb); have n3_ := z8_A (Kd.Q_elder' z8_5 (Kd.R_base ho0) hb); have n4_ := z8_A (Kd.R_lower (Kd.R_new' (Kd.R_new' (Kd.R_new' (Kd.R_new' ho0 (Kd.R_lt z8_11)) (Kd.Q_lt z8_7)) (Kd.Q_lt z8_6)) (Kd.Q_lt z8_5)) (below_size z8_1)); have n5_ := z8_A (blk_below (g := gb427) (o := .cells #[.int .i64 t421, .slice Ao11 t422.length co11] 30 (0, 0)) z8_2 hb); have n6_ := z8_A (blk_below (g := gb433) (o := .cells #[.int .i64 t428, .slice Ao16 t429.length co16] 30 (0, 0)) z8_3 hb); have n7_ := z8_A (blk_below (g := gb439) (o := .cells #[.int .i64 t434, .slice Ao23 t435.length co23] 30 (0, 0)) z8_4 hb); have n8_ := z8_A (below_step z8_1 hb); clear HO_16 HO_428001 HO_434001 HO_440001 BK427 BK433 BK439 HB; revert n0_ n1_ n2_ n3_ n4_ n5_ n6_ n7_ n8_; intro HO_16 HO_428001 HO_434001 HO_440001 HO491 BK427 BK433 BK439 HB; (try clear hb); (try clear hb2); (try clear hk); (try clear hi); (try clear ho0); obtain ⟨Ao174, co174, eo174⟩ := Kd.R_slice HO491.out; subst eo174) | ((with_reducible refine gate_callee (f := 42) rfl ?_); refine goesL_ (some 266) rfl rfl Try.func42 z8_27 rfl #[.slice Ao174 t487.length co174, .int .i64 t488, .int .i64 t489] rfl z8_8 ?_; (with_reducible refine (impl_StockCost.calls kj95 _ _ t487 t488 t489 t492 t493 _ ?side1 ?side2 A167.out).mono ?_); (case side1 => have zh := (Kd.R_reads' HO491.out).2.2; exact z8_C); (case side2 => exact (Kd.R_reads' HO491.out).2.1); rintro e w175 ⟨rfl, hb⟩; refine ⟨_, rfl, ?_⟩; have n0_ := z8_A (Kd.R_below z8_11 hb); have n1_ := z8_A (Kd.Q_below z8_7 hb); have n2_ := z8_A (Kd.Q_below z8_6 hb); have n3_ := z8_A (Kd.Q_below z8_5 hb); have n4_ := z8_A (Kd.R_below z8_52 hb); have n5_ := z8_A (blk_below (g := gb427) (o := .cells #[.int .i64 t421, .slice Ao11 t422.length co11] 30 (0, 0)) z8_2 hb); have n6_ := z8_A (blk_below (g := gb433) (o := .cells #[.int .i64 t428, .slice Ao16 t429.length co16] 30 (0, 0)) z8_3 hb); have n7_ := z8_A (blk_below (g := gb439) (o := .cells #[.int .i64 t434, .slice Ao23 t435.length co23] 30 (0, 0)) z8_4 hb); have n8_ := z8_A (below_step z8_1 hb); clear HO_16 HO_428001 HO_434001 HO_440001 HO491 BK427 BK433 BK439 HB; revert n0_ n1_ n2_ n3_ n4_ n5_ n6_ n7_ n8_; intro HO_16 HO_428001 HO_434001 HO_440001 HO491 BK427 BK433 BK439 HB; (try clear hb); (try clear hb2); (try clear hk); (try clear hi)) | ((with_reducible refine gate_callee (f := 44) rfl ?_); refine goesL_ (some 273) rfl rfl Try.func44 z8_27 rfl #[.slice Ao174 t487.length co174, .int .i64 t488, .int .i64 t489] rfl z8_8 ?_; (with_reducible refine (spec_StockCost.calls kj95 _ _ t487 t488 t489 t494 t495 _ ?side1 ?side2 A168.out).mono ?_); (case side1 => have zh := (Kd.R_reads' HO491.out).2.2; exact z8_C); (case side2 => exact (Kd.R_reads' HO491.out).2.1); rintro e w' ⟨rfl, ⟨nd, rfl⟩⟩; refine ⟨_, rfl, ?_⟩))
               go_ret
               exact ⟨z8_10, z8_1⟩

/-- THE ONE PURE STATEMENT of laws_FnDays: yours. -/
def laws_FnDays.Pure : Prop := ∀ (l0 : List Int), l0.length ≤ maxLen → l0.length * 1 ≤ 140737488351232 → (∀ x ∈ l0, (Lit.int .u8 x).wf = true) → ∃ k, laws_FnDays.f k l0 = some true
theorem laws_FnDays.walk (P : laws_FnDays.Pure) (a0 : Option Addr) (len0 cap0 : Nat) (z0 : List Int) (w : World) (w0 : (a0 = none ∧ len0 = 0 ∧ cap0 = 0 ∧ z0 = []) ∨ ∃ x, a0 = some x ∧ len0 ≤ cap0 ∧ cap0 ≤ maxLen ∧ z0.length = cap0 ∧ (∀ i, i < z0.length → w.cell? (x.add i) = some (.int .u8 (z0.getD i 0))) ∧ ∀ n ∈ z0, (Lit.int .u8 n).wf = true) (y0 : len0 * 1 ≤ 140737488351232) :
  Calls Try.prog 6 #[.slice a0 len0 cap0] w fun e w' => e = .returned (.bool true) ∧ Below w.heap.size w w' := by
 obtain ⟨l0, rfl, hr0, hm0, hw0, hc0⟩ := ReadsInt.ofRowC w0
 obtain ⟨k, h⟩ := P l0 hm0 y0 hw0
 refine (laws_FnDays.calls k _ _ l0 true w (Kd.C_of_reads (d := (0 : Int)) (h1 := fun _ => rfl) hr0) hc0 h).mono ?_
 rintro e w' ⟨rfl, hd⟩
 exact ⟨rfl, hd⟩

end Go.Proofs.Ytfgclhojgaaepaa.PFnDays
