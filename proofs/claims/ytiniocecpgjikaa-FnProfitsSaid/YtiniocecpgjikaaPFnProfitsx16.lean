-- A text of this session (its program hook.py, over the kit's print.py): not a print of print.sh
import Derived.Test.YtiniocecpgjikaaPFnProfitsx0
import Derived.Test.YtiniocecpgjikaaPFnProfitsx4
import Derived.Test.YtiniocecpgjikaaPFnProfitsx5
import Derived.Test.YtiniocecpgjikaaPFnProfitsx7
import Derived.Test.YtiniocecpgjikaaPFnProfitsx11
import Derived.Test.YtiniocecpgjikaaPFnProfitsx12
import Derived.Test.YtiniocecpgjikaaPFnProfitsx13
import Derived.Test.YtiniocecpgjikaaPFnProfitsx14
import Derived.Test.YtiniocecpgjikaaPFnProfitsx15
namespace Go.Proofs.Ytiniocecpgjikaa.PFnProfits
open Go.RowKit Go.Proofs.YtiniocecpgjikaaW.PrintWords Go.Proofs.YtiniocecpgjikaaW.PrintLast Go.Proofs.YtiniocecpgjikaaW.PrintMore
attribute [local go_sem] max2_int min2_int max_two min_two max_three min_three max_four min_four   -- for this text's walks alone
set_option linter.unusedVariables false
set_option linter.unusedSimpArgs false

-- SQUEEZED
abbrev z16_V (k : Nat) (v : Value) : Prop := some k ≠ v.ownBlock
theorem z16_A {p : Prop} (h : p) : Aside0 p := Aside0.mk h
theorem z16_C {p : Prop} (h : p := by repeat (first | exact zh | (with_reducible refine Kd.C_alloc ?_ _) | (with_reducible refine Kd.C_drewN ?_ _) | (with_reducible refine Kd.C_drew ?_))) : p := h
theorem z16_1 {p : Prop} (h : p := by repeat (first | (with_reducible first | exact HB.out | apply below_alloc | apply pw_below_drewN | apply below_drew1 | refine below_set ?_ GE460.out | refine below_set ?_ GE461.out) | exact HB.out)) : p := h
theorem z16_2 {p : Prop} (h : p := by (with_reducible repeat (first | refine blk_drewN ?_ _ | refine blk_drew ?_ | refine blk_alloc ?_ _)); exact BK460.out) : p := h
theorem z16_3 {p : Prop} (h : p := by (with_reducible repeat (first | refine blk_drewN ?_ _ | refine blk_drew ?_ | refine blk_alloc ?_ _)); exact BK461.out) : p := h
theorem z16_4 {p : Prop} (h : p := by (with_reducible repeat (first | apply Kd.R_alloc | apply Kd.R_drewN | apply Kd.R_drew)); exact HO_461000.out) : p := h
theorem z16_5 {p : Prop} (h : p := by (with_reducible repeat (first | apply Kd.R_alloc | apply Kd.R_drewN | apply Kd.R_drew)); exact (Kd.R_mono (Kd.R_mono (Kd.R_far (p := ⟨gb461, 2, none⟩) (Kd.R_far (p := ⟨gb461, 1, none⟩) (Kd.R_far (p := ⟨gb461, 0, none⟩) (Kd.R_far (p := ⟨gb460, 3, none⟩) (Kd.R_far (p := ⟨gb460, 2, none⟩) (Kd.R_far (p := ⟨gb460, 1, none⟩) (Kd.R_far (p := ⟨gb460, 0, none⟩) (Kd.R_types (Kd.R_types HO452.out BK460.out (by decide)) BK461.out (by decide)) (fun _ hk => hk.1.2) (.slice Ao11 t450.length co11)) (fun _ hk => hk.1.2) (.int .i64 t453)) (fun _ hk => hk.1.2) (.int .i64 t454)) (fun _ hk => hk.1.2) (.int .i64 t455)) (fun _ hk => hk.2) (.int .i64 t456)) (fun _ hk => hk.2) (.int .i64 t457)) (fun _ hk => hk.2) (.int .i64 t458)) (fun _ h_ => h_.1)) (fun _ h_ => h_.1))) : p := h
theorem z16_6 {p : Prop} (h : p := by (with_reducible repeat (first | apply Kd.R_alloc | apply Kd.R_drewN | apply Kd.R_drew)); exact HO_22.out) : p := h
theorem z16_7 {p : Prop} (h : p := by (with_reducible repeat (first | refine blk_drewN ?_ _ | refine blk_drew ?_ | refine blk_alloc ?_ _)); refine blk_far ?_ NB460_461.out _; (with_reducible repeat (first | refine blk_drewN ?_ _ | refine blk_drew ?_ | refine blk_alloc ?_ _)); refine blk_far ?_ NB460_461.out _; (with_reducible repeat (first | refine blk_drewN ?_ _ | refine blk_drew ?_ | refine blk_alloc ?_ _)); refine blk_far ?_ NB460_461.out _; (with_reducible repeat (first | refine blk_drewN ?_ _ | refine blk_drew ?_ | refine blk_alloc ?_ _)); refine blk_put (cs := #[.slice Ao11 t450.length co11, .int .i64 t453, .int .i64 t454, .int .i64 0]) ?_ 3 _ rfl; (with_reducible repeat (first | refine blk_drewN ?_ _ | refine blk_drew ?_ | refine blk_alloc ?_ _)); refine blk_put (cs := #[.slice Ao11 t450.length co11, .int .i64 t453, .int .i64 0, .int .i64 0]) ?_ 2 _ rfl; (with_reducible repeat (first | refine blk_drewN ?_ _ | refine blk_drew ?_ | refine blk_alloc ?_ _)); refine blk_put (cs := #[.slice Ao11 t450.length co11, .int .i64 0, .int .i64 0, .int .i64 0]) ?_ 1 _ rfl; (with_reducible repeat (first | refine blk_drewN ?_ _ | refine blk_drew ?_ | refine blk_alloc ?_ _)); refine blk_put (cs := #[.slice none 0 0, .int .i64 0, .int .i64 0, .int .i64 0]) ?_ 0 _ rfl; (with_reducible repeat (first | refine blk_drewN ?_ _ | refine blk_drew ?_ | refine blk_alloc ?_ _)); exact BK460.out) : p := h
theorem z16_8 {p : Prop} (h : p := by (with_reducible repeat (first | refine blk_drewN ?_ _ | refine blk_drew ?_ | refine blk_alloc ?_ _)); refine blk_put (cs := #[.int .i64 t456, .int .i64 t457, .int .i64 0]) ?_ 2 _ rfl; (with_reducible repeat (first | refine blk_drewN ?_ _ | refine blk_drew ?_ | refine blk_alloc ?_ _)); refine blk_put (cs := #[.int .i64 t456, .int .i64 0, .int .i64 0]) ?_ 1 _ rfl; (with_reducible repeat (first | refine blk_drewN ?_ _ | refine blk_drew ?_ | refine blk_alloc ?_ _)); refine blk_put (cs := #[.int .i64 0, .int .i64 0, .int .i64 0]) ?_ 0 _ rfl; (with_reducible repeat (first | refine blk_drewN ?_ _ | refine blk_drew ?_ | refine blk_alloc ?_ _)); refine blk_far ?_ NB461_460.out _; (with_reducible repeat (first | refine blk_drewN ?_ _ | refine blk_drew ?_ | refine blk_alloc ?_ _)); refine blk_far ?_ NB461_460.out _; (with_reducible repeat (first | refine blk_drewN ?_ _ | refine blk_drew ?_ | refine blk_alloc ?_ _)); refine blk_far ?_ NB461_460.out _; (with_reducible repeat (first | refine blk_drewN ?_ _ | refine blk_drew ?_ | refine blk_alloc ?_ _)); refine blk_far ?_ NB461_460.out _; (with_reducible repeat (first | refine blk_drewN ?_ _ | refine blk_drew ?_ | refine blk_alloc ?_ _)); exact BK461.out) : p := h
theorem z16_9 {p : Prop} (h : p := by repeat (first | (with_reducible first | exact HB.out | apply below_alloc | apply pw_below_drewN | apply below_drew1) | exact HB.out)) : p := h
theorem z16_10 {p : Prop} (h : p := by (with_reducible repeat (first | apply Kd.R_alloc | apply Kd.R_drewN | apply Kd.R_drew)); exact HO_34.out) : p := h
theorem z16_11 {p : Prop} (h : p := by first | (with_reducible assumption) | assumption) : p := h
theorem z16_12 {p : Prop} (h : p := by repeat (first | (with_reducible first | exact HB.out | apply below_alloc | apply pw_below_drewN | apply below_drew1 | refine below_set ?_ GE460.out) | exact HB.out)) : p := h
theorem z16_13 {p : Prop} (h : p := by (with_reducible repeat (first | apply Kd.R_alloc | apply Kd.R_drewN | apply Kd.R_drew)); exact HO452.out) : p := h
theorem z16_14 {p : Prop} (h : p := by rw [if_neg (show ¬ (false = true) by decide)] at H; exact H) : p := h
theorem z16_15 {p : Prop} (h : p := by first | rfl | (simp; done) | (simp [*]; done)) : p := h
theorem z16_16 {p : Prop} (h : p := by (with_reducible repeat (first | apply Kd.R_alloc | apply Kd.R_drewN | apply Kd.R_drew)); exact HO480.out) : p := h
theorem z16_17 {p : Prop} (h : p := by (with_reducible repeat (first | apply Kd.R_alloc | apply Kd.R_drewN | apply Kd.R_drew)); exact HO498.out) : p := h
theorem z16_18 {p : Prop} (h : p := by rw [if_pos rfl] at H; exact H) : p := h
theorem z16_19 {p : Prop} (h : p := by rw [hg]; exact Nat.ne_of_lt (blk_lt (g := gb460) (o := .cells #[.slice none 0 0, .int .i64 0, .int .i64 0, .int .i64 0] 30 (0, 0)) z16_2)) : p := h
theorem z16_20 {p : Prop} (h : p := by rw [hg]; exact Nat.ne_of_gt (blk_lt (g := gb460) (o := .cells #[.slice none 0 0, .int .i64 0, .int .i64 0, .int .i64 0] 30 (0, 0)) z16_2)) : p := h
theorem z16_21 {p : Prop} (h : p := by have := HJ6.out; have := HJ22.out; have := HJ35.out; have := HJ47.out; have := HJ58.out; have := HJ76.out; have := HJ87.out; have := HJ97.out; have := HJ111.out; have := HJ120.out; have := HJ124.out; have := HK12.out; have := HK13.out; omega) : p := h
theorem z16_22 {p : Prop} (h : p := by simp) : p := h
theorem z16_23 {p : Prop} (h : p := by have := HJ6.out; have := HJ22.out; have := HJ35.out; have := HJ47.out; have := HJ58.out; have := HJ76.out; have := HJ87.out; have := HJ97.out; have := HJ111.out; have := HJ120.out; have := HJ124.out; have := HK12.out; omega) : p := h
theorem z16_24 {p : Prop} (h : p := by have := HJ6.out; have := HJ22.out; have := HJ35.out; have := HJ47.out; have := HJ58.out; have := HJ76.out; have := HJ87.out; have := HJ97.out; have := HJ111.out; have := HJ120.out; first | omega | exact Nat.le_refl _) : p := h
theorem z16_25 {p : Prop} (h : p := by (with_reducible repeat (first | apply Kd.R_alloc | apply Kd.R_drewN | apply Kd.R_drew)); exact HO484.out) : p := h
theorem z16_26 {p : Prop} (h : p := by have := HJ6.out; have := HJ22.out; have := HJ35.out; have := HJ47.out; have := HJ58.out; have := HJ76.out; have := HJ87.out; have := HJ97.out; have := HJ111.out; first | omega | exact Nat.le_refl _) : p := h
theorem z16_27 {p : Prop} (h : p := by first | rfl | (simp [errW_none, errW_some] <;> rfl) | (simp [*, errW_none, errW_some] <;> rfl)) : p := h
theorem z16_28 {p : Prop} (h : p := by rw [hg]; exact (below_size z16_12)) : p := h
theorem z16_29 {p : Prop} (h : p := by rw [hg]; exact (below_size z16_9)) : p := h

/-! ### laws_FnProfits: function 9 -/
mutual
def laws_FnProfits.j0 : Nat → Int → Int → Bool → Bool → List Int → Int → Int → Int → Int → Int → Int → Option (Bool)
  | 0, _, _, _, _, _, _, _, _, _, _, _ => none
  | k + 1, x5, x6, x7, x73, x461000, x461001, x461002, x461003, x462000, x462001, x462002 => if x73 = true then (none) else ((impl_MakerProfit.f k x461000 x461001 x461002 x461003 x462000 x462001 x462002 x5).bind fun bt466 => ((spec_MakerProfit.f k x461000 x461001 x461002 x461003 x462000 x462001 x462002 x5).bind fun bt468 => (if bt466.1 = bt468.1 then (if (bt466.2 != bt468.2) = true then (none) else (laws_FnProfits.j1 k x5 x6 x7 bt466.1 (bt466.2 != x7) x461000 x461001 x461002 x461003)) else (none))))
def laws_FnProfits.j1 : Nat → Int → Int → Bool → Int → Bool → List Int → Int → Int → Int → Option (Bool)
  | 0, _, _, _, _, _, _, _, _, _ => none
  | k + 1, x5, x6, x7, x10, x100, x461000, x461001, x461002, x461003 => if x100 = true then (none) else ((impl_JointProfit.f k x461000 x461001 x461002 x461003 x5).bind fun bt470 => ((spec_JointProfit.f k x461000 x461001 x461002 x461003 x5).bind fun bt472 => (if bt470.1 = bt472.1 then (if (bt470.2 != bt472.2) = true then (none) else (if x7 = true then (laws_FnProfits.j2 k x5 x6 x7 x10 bt470.1 bt470.2 (!bt470.2) x461000 x461001 x461002 x461003) else (laws_FnProfits.j2 k x5 x6 x7 x10 bt470.1 bt470.2 false x461000 x461001 x461002 x461003))) else (none))))
def laws_FnProfits.j2 : Nat → Int → Int → Bool → Int → Int → Bool → Bool → List Int → Int → Int → Int → Option (Bool)
  | 0, _, _, _, _, _, _, _, _, _, _, _ => none
  | k + 1, x5, x6, x7, x10, x14, x15, x127, x461000, x461001, x461002, x461003 => if x127 = true then (none) else ((impl_SalesOf.f k x461000 x461001 x461002 x461003 x5).bind fun bt474 => ((spec_SalesOf.f k x461000 x461001 x461002 x461003 x5).bind fun bt476 => (if bt474.1 = bt476.1 then (if (bt474.2 != bt476.2) = true then (none) else (laws_FnProfits.j3 k x6 x7 x10 x14 (bt474.2 != x15) x461000 x461001 x461002 x461003)) else (none))))
def laws_FnProfits.j3 : Nat → Int → Bool → Int → Int → Bool → List Int → Int → Int → Int → Option (Bool)
  | 0, _, _, _, _, _, _, _, _, _ => none
  | k + 1, x6, x7, x10, x14, x152, x461000, x461001, x461002, x461003 => if x152 = true then (none) else ((impl_JointProfits.f k x461000 x461001 x461002 x461003).bind fun bt478 => ((spec_JointProfits.f k x461000 x461001 x461002 x461003).bind fun bt482 => (if (bt478.2 != bt482.2) = true then (none) else ((impl_IsMarket.f k x461000 x461001 x461002 x461003).bind fun t486 => (if (bt478.2 != t486) = true then (none) else ((laws_rInts.f k bt478.1 bt482.1).bind fun t487 => (laws_FnProfits.j4 k x6 x7 x10 x14 bt478.1 bt478.2 (!t487) x461000 x461001 x461002 x461003)))))))
def laws_FnProfits.j4 : Nat → Int → Bool → Int → Int → List Int → Bool → Bool → List Int → Int → Int → Int → Option (Bool)
  | 0, _, _, _, _, _, _, _, _, _, _, _ => none
  | k + 1, x6, x7, x10, x14, x22, x23, x177, x461000, x461001, x461002, x461003 => if x177 = true then (none) else ((impl_JointOrder.f k x461000 x461001 x461002 x461003).bind fun bt488 => ((spec_JointOrder.f k x461000 x461001 x461002 x461003).bind fun bt490 => (if bt488.1 = bt490.1 then (if (bt488.2 != bt490.2) = true then (none) else (laws_FnProfits.j5 k x6 x7 x10 x14 x22 x23 bt488.1 (bt488.2 != x23) x461000 x461001 x461002 x461003)) else (none))))
def laws_FnProfits.j5 : Nat → Int → Bool → Int → Int → List Int → Bool → Int → Bool → List Int → Int → Int → Int → Option (Bool)
  | 0, _, _, _, _, _, _, _, _, _, _, _, _ => none
  | k + 1, x6, x7, x10, x14, x22, x23, x26, x200, x461000, x461001, x461002, x461003 => if x200 = true then (none) else ((impl_QuotientOrder.f k x461000 x461001 x461002 x461003).bind fun bt492 => ((spec_QuotientOrder.f k x461000 x461001 x461002 x461003).bind fun bt494 => (if bt492.1 = bt494.1 then (laws_FnProfits.j6 k x6 x7 x10 x14 x22 x23 x26 bt492.1 bt492.2 (bt492.2 != bt494.2) x461000 x461001 x461002 x461003) else (none))))
def laws_FnProfits.j6 : Nat → Int → Bool → Int → Int → List Int → Bool → Int → Int → Bool → Bool → List Int → Int → Int → Int → Option (Bool)
  | 0, _, _, _, _, _, _, _, _, _, _, _, _, _, _ => none
  | k + 1, x6, x7, x10, x14, x22, x23, x26, x30, x31, x218, x461000, x461001, x461002, x461003 => if x218 = true then (none) else ((impl_PlainContracts.f k x461000 x461001 x461002 x461003).bind fun bt496 => ((spec_PlainContracts.f k x461000 x461001 x461002 x461003).bind fun bt500 => (if (bt496.2 != bt500.2) = true then (none) else (if (bt496.2 != x23) = true then (none) else ((laws_rPairs.f k bt496.1 bt500.1).bind fun t504 => (laws_FnProfits.j7 k x6 x7 x10 x14 x22 x23 x26 x30 x31 bt496.1 (!t504) x461000 x461001 x461002 x461003))))))
def laws_FnProfits.j7 : Nat → Int → Bool → Int → Int → List Int → Bool → Int → Int → Bool → List (S67) → Bool → List Int → Int → Int → Int → Option (Bool)
  | 0, _, _, _, _, _, _, _, _, _, _, _, _, _, _, _ => none
  | k + 1, x6, x7, x10, x14, x22, x23, x26, x30, x31, x34, x242, x461000, x461001, x461002, x461003 => if x242 = true then (none) else ((impl_BestPlain.f k x461000 x461001 x461002 x461003).bind fun bt505 => ((spec_BestPlain.f k x461000 x461001 x461002 x461003).bind fun bt507 => (if bt505.1 = bt507.1 then (if (bt505.2 != bt507.2) = true then (none) else (laws_FnProfits.j8 k x6 x7 x10 x14 x22 x23 x26 x30 x31 x34 bt505.1 (bt505.2 != x23) x461000 x461001 x461002 x461003)) else (none))))
def laws_FnProfits.j8 : Nat → Int → Bool → Int → Int → List Int → Bool → Int → Int → Bool → List (S67) → Int → Bool → List Int → Int → Int → Int → Option (Bool)
  | 0, _, _, _, _, _, _, _, _, _, _, _, _, _, _, _, _ => none
  | k + 1, x6, x7, x10, x14, x22, x23, x26, x30, x31, x34, x38, x265, x461000, x461001, x461002, x461003 => if x265 = true then (none) else (if x7 = true then (laws_FnProfits.j9 k x22 x23 x26 x30 x31 x34 x38 ((wrap64 (x6 + x10)) != x14) x461000 x461001 x461002 x461003) else (laws_FnProfits.j9 k x22 x23 x26 x30 x31 x34 x38 false x461000 x461001 x461002 x461003))
def laws_FnProfits.j9 : Nat → List Int → Bool → Int → Int → Bool → List (S67) → Int → Bool → List Int → Int → Int → Int → Option (Bool)
  | 0, _, _, _, _, _, _, _, _, _, _, _, _ => none
  | k + 1, x22, x23, x26, x30, x31, x34, x38, x273, x461000, x461001, x461002, x461003 => if x273 = true then (none) else (if x23 = true then (if x31 = true then (laws_FnProfits.j10 k x22 x26 x34 x38 (x30 != x26) x461000 x461001 x461002 x461003) else (laws_FnProfits.j10 k x22 x26 x34 x38 false x461000 x461001 x461002 x461003)) else (some true))
def laws_FnProfits.j10 : Nat → List Int → Int → List (S67) → Int → Bool → List Int → Int → Int → Int → Option (Bool)
  | 0, _, _, _, _, _, _, _, _, _ => none
  | k + 1, x22, x26, x34, x38, x281, x461000, x461001, x461002, x461003 => if x281 = true then (none) else (laws_FnProfits.l0 k x22 x26 x34 x38 0 x461000 x461001 x461002 x461003)
def laws_FnProfits.l0 : Nat → List Int → Int → List (S67) → Int → Int → List Int → Int → Int → Int → Option (Bool)
  | 0, _, _, _, _, _, _, _, _, _ => none
  | k + 1, x22, x26, x34, x38, x42, x461000, x461001, x461002, x461003 => if x42 < (x22.length : Int) then (if 0 ≤ x42 then (if 0 ≤ x26 then (if x26 < (x22.length : Int) then (if (rd x22 x42) > (rd x22 x26) then (none) else (if x42 > 1 then (if 0 ≤ (wrap64 (x42 - 1)) then (if (wrap64 (x42 - 1)) < (x22.length : Int) then (if 0 ≤ (wrap64 (x42 - 2)) then (if (wrap64 (x42 - 2)) < (x22.length : Int) then (if (wrap64 ((rd x22 x42) - (rd x22 (wrap64 (x42 - 1))))) > (wrap64 ((rd x22 (wrap64 (x42 - 1))) - (rd x22 (wrap64 (x42 - 2))))) then (none) else (laws_FnProfits.l0 k x22 x26 x34 x38 (wrap64 (x42 + 1)) x461000 x461001 x461002 x461003)) else (none)) else (none)) else (none)) else (none)) else (laws_FnProfits.l0 k x22 x26 x34 x38 (wrap64 (x42 + 1)) x461000 x461001 x461002 x461003))) else (none)) else (none)) else (none)) else (laws_FnProfits.l1 k x26 x34 x38 0 x461000 x461001 x461002 x461003)
def laws_FnProfits.l1 : Nat → Int → List (S67) → Int → Int → List Int → Int → Int → Int → Option (Bool)
  | 0, _, _, _, _, _, _, _, _ => none
  | k + 1, x26, x34, x38, x43, x461000, x461001, x461002, x461003 => if x43 < (x34.length : Int) then (if 0 ≤ x43 then (if ((rd_T67 x34 x43).f0) > x26 then (none) else (if x43 > 0 then (if 0 ≤ (wrap64 (x43 - 1)) then (if (wrap64 (x43 - 1)) < (x34.length : Int) then (if ((rd_T67 x34 x43).f0) > ((rd_T67 x34 (wrap64 (x43 - 1))).f0) then (none) else (if 0 ≤ (wrap64 (x38 - x461002)) then (if (wrap64 (x38 - x461002)) < (x34.length : Int) then (if ((rd_T67 x34 x43).f1) > ((rd_T67 x34 (wrap64 (x38 - x461002))).f1) then (none) else (laws_FnProfits.l1 k x26 x34 x38 (wrap64 (x43 + 1)) x461000 x461001 x461002 x461003)) else (none)) else (none))) else (none)) else (none)) else (if 0 ≤ (wrap64 (x38 - x461002)) then (if (wrap64 (x38 - x461002)) < (x34.length : Int) then (if ((rd_T67 x34 x43).f1) > ((rd_T67 x34 (wrap64 (x38 - x461002))).f1) then (none) else (laws_FnProfits.l1 k x26 x34 x38 (wrap64 (x43 + 1)) x461000 x461001 x461002 x461003)) else (none)) else (none)))) else (none)) else (some true)
end
def laws_FnProfits.f (k : Nat) (l0 : List Int) : Option (Bool) := (laws_rBig.f l0).bind fun t449 => (if t449 = true then (some true) else ((spec_DrawSellerProfit.f k l0).bind fun bt450 => ((impl_SellerProfit.f k bt450.1 bt450.2.1 bt450.2.2.1 bt450.2.2.2.1 bt450.2.2.2.2.1 bt450.2.2.2.2.2.1 bt450.2.2.2.2.2.2.1 bt450.2.2.2.2.2.2.2).bind fun bt462 => ((spec_SellerProfit.f k bt450.1 bt450.2.1 bt450.2.2.1 bt450.2.2.2.1 bt450.2.2.2.2.1 bt450.2.2.2.2.2.1 bt450.2.2.2.2.2.2.1 bt450.2.2.2.2.2.2.2).bind fun bt464 => (if bt462.1 = bt464.1 then (laws_FnProfits.j0 k bt450.2.2.2.2.2.2.2 bt462.1 bt462.2 (bt462.2 != bt464.2) bt450.1 bt450.2.1 bt450.2.2.1 bt450.2.2.2.1 bt450.2.2.2.2.1 bt450.2.2.2.2.2.1 bt450.2.2.2.2.2.2.1) else (none))))))
theorem laws_FnProfits.mono_l : ∀ k, (∀ y0 y1 y2 y3 y4 y5 y6 y7 y8 y9 y10, LeO (laws_FnProfits.j0 k y0 y1 y2 y3 y4 y5 y6 y7 y8 y9 y10) (laws_FnProfits.j0 (k + 1) y0 y1 y2 y3 y4 y5 y6 y7 y8 y9 y10)) ∧ (∀ y0 y1 y2 y3 y4 y5 y6 y7 y8, LeO (laws_FnProfits.j1 k y0 y1 y2 y3 y4 y5 y6 y7 y8) (laws_FnProfits.j1 (k + 1) y0 y1 y2 y3 y4 y5 y6 y7 y8)) ∧ (∀ y0 y1 y2 y3 y4 y5 y6 y7 y8 y9 y10, LeO (laws_FnProfits.j2 k y0 y1 y2 y3 y4 y5 y6 y7 y8 y9 y10) (laws_FnProfits.j2 (k + 1) y0 y1 y2 y3 y4 y5 y6 y7 y8 y9 y10)) ∧ (∀ y0 y1 y2 y3 y4 y5 y6 y7 y8, LeO (laws_FnProfits.j3 k y0 y1 y2 y3 y4 y5 y6 y7 y8) (laws_FnProfits.j3 (k + 1) y0 y1 y2 y3 y4 y5 y6 y7 y8)) ∧ (∀ y0 y1 y2 y3 y4 y5 y6 y7 y8 y9 y10, LeO (laws_FnProfits.j4 k y0 y1 y2 y3 y4 y5 y6 y7 y8 y9 y10) (laws_FnProfits.j4 (k + 1) y0 y1 y2 y3 y4 y5 y6 y7 y8 y9 y10)) ∧ (∀ y0 y1 y2 y3 y4 y5 y6 y7 y8 y9 y10 y11, LeO (laws_FnProfits.j5 k y0 y1 y2 y3 y4 y5 y6 y7 y8 y9 y10 y11) (laws_FnProfits.j5 (k + 1) y0 y1 y2 y3 y4 y5 y6 y7 y8 y9 y10 y11)) ∧ (∀ y0 y1 y2 y3 y4 y5 y6 y7 y8 y9 y10 y11 y12 y13, LeO (laws_FnProfits.j6 k y0 y1 y2 y3 y4 y5 y6 y7 y8 y9 y10 y11 y12 y13) (laws_FnProfits.j6 (k + 1) y0 y1 y2 y3 y4 y5 y6 y7 y8 y9 y10 y11 y12 y13)) ∧ (∀ y0 y1 y2 y3 y4 y5 y6 y7 y8 y9 y10 y11 y12 y13 y14, LeO (laws_FnProfits.j7 k y0 y1 y2 y3 y4 y5 y6 y7 y8 y9 y10 y11 y12 y13 y14) (laws_FnProfits.j7 (k + 1) y0 y1 y2 y3 y4 y5 y6 y7 y8 y9 y10 y11 y12 y13 y14)) ∧ (∀ y0 y1 y2 y3 y4 y5 y6 y7 y8 y9 y10 y11 y12 y13 y14 y15, LeO (laws_FnProfits.j8 k y0 y1 y2 y3 y4 y5 y6 y7 y8 y9 y10 y11 y12 y13 y14 y15) (laws_FnProfits.j8 (k + 1) y0 y1 y2 y3 y4 y5 y6 y7 y8 y9 y10 y11 y12 y13 y14 y15)) ∧ (∀ y0 y1 y2 y3 y4 y5 y6 y7 y8 y9 y10 y11, LeO (laws_FnProfits.j9 k y0 y1 y2 y3 y4 y5 y6 y7 y8 y9 y10 y11) (laws_FnProfits.j9 (k + 1) y0 y1 y2 y3 y4 y5 y6 y7 y8 y9 y10 y11)) ∧ (∀ y0 y1 y2 y3 y4 y5 y6 y7 y8, LeO (laws_FnProfits.j10 k y0 y1 y2 y3 y4 y5 y6 y7 y8) (laws_FnProfits.j10 (k + 1) y0 y1 y2 y3 y4 y5 y6 y7 y8)) ∧ (∀ y0 y1 y2 y3 y4 y5 y6 y7 y8, LeO (laws_FnProfits.l0 k y0 y1 y2 y3 y4 y5 y6 y7 y8) (laws_FnProfits.l0 (k + 1) y0 y1 y2 y3 y4 y5 y6 y7 y8)) ∧ (∀ y0 y1 y2 y3 y4 y5 y6 y7, LeO (laws_FnProfits.l1 k y0 y1 y2 y3 y4 y5 y6 y7) (laws_FnProfits.l1 (k + 1) y0 y1 y2 y3 y4 y5 y6 y7))
  | 0 => ⟨fun _ _ _ _ _ _ _ _ _ _ _ r h => by simp [laws_FnProfits.j0] at h, fun _ _ _ _ _ _ _ _ _ r h => by simp [laws_FnProfits.j1] at h, fun _ _ _ _ _ _ _ _ _ _ _ r h => by simp [laws_FnProfits.j2] at h, fun _ _ _ _ _ _ _ _ _ r h => by simp [laws_FnProfits.j3] at h, fun _ _ _ _ _ _ _ _ _ _ _ r h => by simp [laws_FnProfits.j4] at h, fun _ _ _ _ _ _ _ _ _ _ _ _ r h => by simp [laws_FnProfits.j5] at h, fun _ _ _ _ _ _ _ _ _ _ _ _ _ _ r h => by simp [laws_FnProfits.j6] at h, fun _ _ _ _ _ _ _ _ _ _ _ _ _ _ _ r h => by simp [laws_FnProfits.j7] at h, fun _ _ _ _ _ _ _ _ _ _ _ _ _ _ _ _ r h => by simp [laws_FnProfits.j8] at h, fun _ _ _ _ _ _ _ _ _ _ _ _ r h => by simp [laws_FnProfits.j9] at h, fun _ _ _ _ _ _ _ _ _ r h => by simp [laws_FnProfits.j10] at h, fun _ _ _ _ _ _ _ _ _ r h => by simp [laws_FnProfits.l0] at h, fun _ _ _ _ _ _ _ _ r h => by simp [laws_FnProfits.l1] at h⟩
  | k + 1 => by
    obtain ⟨ih0, ih1, ih2, ih3, ih4, ih5, ih6, ih7, ih8, ih9, ih10, ih11, ih12⟩ := laws_FnProfits.mono_l k
    refine ⟨?_, ?_, ?_, ?_, ?_, ?_, ?_, ?_, ?_, ?_, ?_, ?_, ?_⟩ <;> intros <;> (first | unfold laws_FnProfits.j0 | unfold laws_FnProfits.j1 | unfold laws_FnProfits.j2 | unfold laws_FnProfits.j3 | unfold laws_FnProfits.j4 | unfold laws_FnProfits.j5 | unfold laws_FnProfits.j6 | unfold laws_FnProfits.j7 | unfold laws_FnProfits.j8 | unfold laws_FnProfits.j9 | unfold laws_FnProfits.j10 | unfold laws_FnProfits.l0 | unfold laws_FnProfits.l1) <;> repeat' first
      | (with_reducible exact ih0 _ _ _ _ _ _ _ _ _ _ _)
      | (with_reducible exact ih1 _ _ _ _ _ _ _ _ _)
      | (with_reducible exact ih2 _ _ _ _ _ _ _ _ _ _ _)
      | (with_reducible exact ih3 _ _ _ _ _ _ _ _ _)
      | (with_reducible exact ih4 _ _ _ _ _ _ _ _ _ _ _)
      | (with_reducible exact ih5 _ _ _ _ _ _ _ _ _ _ _ _)
      | (with_reducible exact ih6 _ _ _ _ _ _ _ _ _ _ _ _ _ _)
      | (with_reducible exact ih7 _ _ _ _ _ _ _ _ _ _ _ _ _ _ _)
      | (with_reducible exact ih8 _ _ _ _ _ _ _ _ _ _ _ _ _ _ _ _)
      | (with_reducible exact ih9 _ _ _ _ _ _ _ _ _ _ _ _)
      | (with_reducible exact ih10 _ _ _ _ _ _ _ _ _)
      | (with_reducible exact ih11 _ _ _ _ _ _ _ _ _)
      | (with_reducible exact ih12 _ _ _ _ _ _ _ _)
      | (with_reducible exact impl_BestPlain.mono _ _ _ _ _)
      | (with_reducible exact impl_IsMarket.mono _ _ _ _ _)
      | (with_reducible exact impl_JointOrder.mono _ _ _ _ _)
      | (with_reducible exact impl_JointProfit.mono _ _ _ _ _ _)
      | (with_reducible exact impl_JointProfits.mono _ _ _ _ _)
      | (with_reducible exact impl_MakerProfit.mono _ _ _ _ _ _ _ _ _)
      | (with_reducible exact impl_PlainContracts.mono _ _ _ _ _)
      | (with_reducible exact impl_QuotientOrder.mono _ _ _ _ _)
      | (with_reducible exact impl_SalesOf.mono _ _ _ _ _ _)
      | (with_reducible exact impl_SellerProfit.mono _ _ _ _ _ _ _ _ _)
      | (with_reducible exact laws_rInts.mono _ _ _)
      | (with_reducible exact laws_rPairs.mono _ _ _)
      | (with_reducible exact spec_BestPlain.mono _ _ _ _ _)
      | (with_reducible exact spec_DrawSellerProfit.mono _ _)
      | (with_reducible exact spec_JointOrder.mono _ _ _ _ _)
      | (with_reducible exact spec_JointProfit.mono _ _ _ _ _ _)
      | (with_reducible exact spec_JointProfits.mono _ _ _ _ _)
      | (with_reducible exact spec_MakerProfit.mono _ _ _ _ _ _ _ _ _)
      | (with_reducible exact spec_PlainContracts.mono _ _ _ _ _)
      | (with_reducible exact spec_QuotientOrder.mono _ _ _ _ _)
      | (with_reducible exact spec_SalesOf.mono _ _ _ _ _ _)
      | (with_reducible exact spec_SellerProfit.mono _ _ _ _ _ _ _ _ _)
      | (with_reducible exact LeO.refl _)
      | (with_reducible exact LeO.none _)
      | (with_reducible refine LeO.ite ?_ ?_)
      | (with_reducible refine LeO.bind ?_ (fun _ => ?_))
      | exact ih0 _ _ _ _ _ _ _ _ _ _ _
      | exact ih1 _ _ _ _ _ _ _ _ _
      | exact ih2 _ _ _ _ _ _ _ _ _ _ _
      | exact ih3 _ _ _ _ _ _ _ _ _
      | exact ih4 _ _ _ _ _ _ _ _ _ _ _
      | exact ih5 _ _ _ _ _ _ _ _ _ _ _ _
      | exact ih6 _ _ _ _ _ _ _ _ _ _ _ _ _ _
      | exact ih7 _ _ _ _ _ _ _ _ _ _ _ _ _ _ _
      | exact ih8 _ _ _ _ _ _ _ _ _ _ _ _ _ _ _ _
      | exact ih9 _ _ _ _ _ _ _ _ _ _ _ _
      | exact ih10 _ _ _ _ _ _ _ _ _
      | exact ih11 _ _ _ _ _ _ _ _ _
      | exact ih12 _ _ _ _ _ _ _ _
      | exact impl_BestPlain.mono _ _ _ _ _
      | exact impl_IsMarket.mono _ _ _ _ _
      | exact impl_JointOrder.mono _ _ _ _ _
      | exact impl_JointProfit.mono _ _ _ _ _ _
      | exact impl_JointProfits.mono _ _ _ _ _
      | exact impl_MakerProfit.mono _ _ _ _ _ _ _ _ _
      | exact impl_PlainContracts.mono _ _ _ _ _
      | exact impl_QuotientOrder.mono _ _ _ _ _
      | exact impl_SalesOf.mono _ _ _ _ _ _
      | exact impl_SellerProfit.mono _ _ _ _ _ _ _ _ _
      | exact laws_rInts.mono _ _ _
      | exact laws_rPairs.mono _ _ _
      | exact spec_BestPlain.mono _ _ _ _ _
      | exact spec_DrawSellerProfit.mono _ _
      | exact spec_JointOrder.mono _ _ _ _ _
      | exact spec_JointProfit.mono _ _ _ _ _ _
      | exact spec_JointProfits.mono _ _ _ _ _
      | exact spec_MakerProfit.mono _ _ _ _ _ _ _ _ _
      | exact spec_PlainContracts.mono _ _ _ _ _
      | exact spec_QuotientOrder.mono _ _ _ _ _
      | exact spec_SalesOf.mono _ _ _ _ _ _
      | exact spec_SellerProfit.mono _ _ _ _ _ _ _ _ _
      | exact LeO.none _
      | refine LeO.ite ?_ ?_
      | refine LeO.bind ?_ (fun _ => ?_)
theorem laws_FnProfits.mono : ∀ a0 k, LeO (laws_FnProfits.f k a0) (laws_FnProfits.f (k + 1) a0) := by
  intro a0 k
  obtain ⟨ih0, ih1, ih2, ih3, ih4, ih5, ih6, ih7, ih8, ih9, ih10, ih11, ih12⟩ := laws_FnProfits.mono_l k
  unfold laws_FnProfits.f
  repeat' first
      | (with_reducible exact ih0 _ _ _ _ _ _ _ _ _ _ _)
      | (with_reducible exact ih1 _ _ _ _ _ _ _ _ _)
      | (with_reducible exact ih2 _ _ _ _ _ _ _ _ _ _ _)
      | (with_reducible exact ih3 _ _ _ _ _ _ _ _ _)
      | (with_reducible exact ih4 _ _ _ _ _ _ _ _ _ _ _)
      | (with_reducible exact ih5 _ _ _ _ _ _ _ _ _ _ _ _)
      | (with_reducible exact ih6 _ _ _ _ _ _ _ _ _ _ _ _ _ _)
      | (with_reducible exact ih7 _ _ _ _ _ _ _ _ _ _ _ _ _ _ _)
      | (with_reducible exact ih8 _ _ _ _ _ _ _ _ _ _ _ _ _ _ _ _)
      | (with_reducible exact ih9 _ _ _ _ _ _ _ _ _ _ _ _)
      | (with_reducible exact ih10 _ _ _ _ _ _ _ _ _)
      | (with_reducible exact ih11 _ _ _ _ _ _ _ _ _)
      | (with_reducible exact ih12 _ _ _ _ _ _ _ _)
      | (with_reducible exact impl_BestPlain.mono _ _ _ _ _)
      | (with_reducible exact impl_IsMarket.mono _ _ _ _ _)
      | (with_reducible exact impl_JointOrder.mono _ _ _ _ _)
      | (with_reducible exact impl_JointProfit.mono _ _ _ _ _ _)
      | (with_reducible exact impl_JointProfits.mono _ _ _ _ _)
      | (with_reducible exact impl_MakerProfit.mono _ _ _ _ _ _ _ _ _)
      | (with_reducible exact impl_PlainContracts.mono _ _ _ _ _)
      | (with_reducible exact impl_QuotientOrder.mono _ _ _ _ _)
      | (with_reducible exact impl_SalesOf.mono _ _ _ _ _ _)
      | (with_reducible exact impl_SellerProfit.mono _ _ _ _ _ _ _ _ _)
      | (with_reducible exact laws_rInts.mono _ _ _)
      | (with_reducible exact laws_rPairs.mono _ _ _)
      | (with_reducible exact spec_BestPlain.mono _ _ _ _ _)
      | (with_reducible exact spec_DrawSellerProfit.mono _ _)
      | (with_reducible exact spec_JointOrder.mono _ _ _ _ _)
      | (with_reducible exact spec_JointProfit.mono _ _ _ _ _ _)
      | (with_reducible exact spec_JointProfits.mono _ _ _ _ _)
      | (with_reducible exact spec_MakerProfit.mono _ _ _ _ _ _ _ _ _)
      | (with_reducible exact spec_PlainContracts.mono _ _ _ _ _)
      | (with_reducible exact spec_QuotientOrder.mono _ _ _ _ _)
      | (with_reducible exact spec_SalesOf.mono _ _ _ _ _ _)
      | (with_reducible exact spec_SellerProfit.mono _ _ _ _ _ _ _ _ _)
      | (with_reducible exact LeO.refl _)
      | (with_reducible exact LeO.none _)
      | (with_reducible refine LeO.ite ?_ ?_)
      | (with_reducible refine LeO.bind ?_ (fun _ => ?_))
      | exact ih0 _ _ _ _ _ _ _ _ _ _ _
      | exact ih1 _ _ _ _ _ _ _ _ _
      | exact ih2 _ _ _ _ _ _ _ _ _ _ _
      | exact ih3 _ _ _ _ _ _ _ _ _
      | exact ih4 _ _ _ _ _ _ _ _ _ _ _
      | exact ih5 _ _ _ _ _ _ _ _ _ _ _ _
      | exact ih6 _ _ _ _ _ _ _ _ _ _ _ _ _ _
      | exact ih7 _ _ _ _ _ _ _ _ _ _ _ _ _ _ _
      | exact ih8 _ _ _ _ _ _ _ _ _ _ _ _ _ _ _ _
      | exact ih9 _ _ _ _ _ _ _ _ _ _ _ _
      | exact ih10 _ _ _ _ _ _ _ _ _
      | exact ih11 _ _ _ _ _ _ _ _ _
      | exact ih12 _ _ _ _ _ _ _ _
      | exact impl_BestPlain.mono _ _ _ _ _
      | exact impl_IsMarket.mono _ _ _ _ _
      | exact impl_JointOrder.mono _ _ _ _ _
      | exact impl_JointProfit.mono _ _ _ _ _ _
      | exact impl_JointProfits.mono _ _ _ _ _
      | exact impl_MakerProfit.mono _ _ _ _ _ _ _ _ _
      | exact impl_PlainContracts.mono _ _ _ _ _
      | exact impl_QuotientOrder.mono _ _ _ _ _
      | exact impl_SalesOf.mono _ _ _ _ _ _
      | exact impl_SellerProfit.mono _ _ _ _ _ _ _ _ _
      | exact laws_rInts.mono _ _ _
      | exact laws_rPairs.mono _ _ _
      | exact spec_BestPlain.mono _ _ _ _ _
      | exact spec_DrawSellerProfit.mono _ _
      | exact spec_JointOrder.mono _ _ _ _ _
      | exact spec_JointProfit.mono _ _ _ _ _ _
      | exact spec_JointProfits.mono _ _ _ _ _
      | exact spec_MakerProfit.mono _ _ _ _ _ _ _ _ _
      | exact spec_PlainContracts.mono _ _ _ _ _
      | exact spec_QuotientOrder.mono _ _ _ _ _
      | exact spec_SalesOf.mono _ _ _ _ _ _
      | exact spec_SellerProfit.mono _ _ _ _ _ _ _ _ _
      | exact LeO.none _
      | refine LeO.ite ?_ ?_
      | refine LeO.bind ?_ (fun _ => ?_)
-- SPLIT

end Go.Proofs.Ytiniocecpgjikaa.PFnProfits
