-- A text of this session (its program hook.py, over the kit's print.py): not a print of print.sh
import Derived.Test.YtiniocecpgjikaaPFnContractsx0
import Derived.Test.YtiniocecpgjikaaPFnContractsx1
import Derived.Test.YtiniocecpgjikaaPFnContractsx4
import Derived.Test.YtiniocecpgjikaaPFnContractsx7
import Derived.Test.YtiniocecpgjikaaPFnContractsx10
import Derived.Test.YtiniocecpgjikaaPFnContractsx11
import Derived.Test.YtiniocecpgjikaaPFnContractsx12
namespace Go.Proofs.Ytiniocecpgjikaa.PFnContracts
open Go.RowKit Go.Proofs.YtiniocecpgjikaaW.PrintWords Go.Proofs.YtiniocecpgjikaaW.PrintLast Go.Proofs.YtiniocecpgjikaaW.PrintMore
attribute [local go_sem] max2_int min2_int max_two min_two max_three min_three max_four min_four   -- for this text's walks alone
set_option linter.unusedVariables false
set_option linter.unusedSimpArgs false

attribute [local go_sem high] eqA32
-- SQUEEZED
abbrev z13_S (k : Nat) (A : Option Addr) (n c : Nat) : Prop := some k ≠ (.slice A n c : Value).ownBlock
abbrev z13_V (k : Nat) (v : Value) : Prop := some k ≠ v.ownBlock
theorem z13_A {p : Prop} (h : p) : Aside0 p := Aside0.mk h
theorem z13_C {p : Prop} (h : p := by repeat (first | exact zh | (with_reducible refine Kd.C_alloc ?_ _) | (with_reducible refine Kd.C_drewN ?_ _) | (with_reducible refine Kd.C_drew ?_))) : p := h
theorem z13_1 {p : Prop} (h : p := by repeat (first | (with_reducible first | exact HB.out | apply below_alloc | apply pw_below_drewN | apply below_drew1 | refine below_set ?_ GE434.out | refine below_set ?_ GE435.out | refine below_set ?_ GE462.out) | exact HB.out)) : p := h
theorem z13_2 {p : Prop} (h : p := by (with_reducible repeat (first | refine blk_drewN ?_ _ | refine blk_drew ?_ | refine blk_alloc ?_ _)); exact BK434.out) : p := h
theorem z13_3 {p : Prop} (h : p := by (with_reducible repeat (first | refine blk_drewN ?_ _ | refine blk_drew ?_ | refine blk_alloc ?_ _)); exact BK435.out) : p := h
theorem z13_4 {p : Prop} (h : p := by repeat (first | (with_reducible first | exact HB.out | apply below_alloc | apply pw_below_drewN | apply below_drew1 | refine below_set ?_ GE434.out | refine below_set ?_ GE435.out) | exact HB.out)) : p := h
theorem z13_5 {p : Prop} (h : p := by (with_reducible repeat (first | apply Kd.R_alloc | apply Kd.R_drewN | apply Kd.R_drew)); exact HO_435000.out) : p := h
theorem z13_6 {p : Prop} (h : p := by (try simp only [List.map_toArray, List.map_cons, List.map_nil]); first | done | rfl | (simp only [List.length_drop, List.length_take]; rfl)) : p := h
theorem z13_7 {p : Prop} (h : p := by (with_reducible repeat (first | refine blk_drewN ?_ _ | refine blk_drew ?_ | refine blk_alloc ?_ _)); exact BK462.out) : p := h
theorem z13_8 {p : Prop} (h : p := by (with_reducible repeat (first | apply Kd.R_alloc | apply Kd.R_drewN | apply Kd.R_drew)); exact HO_463000.out) : p := h
theorem z13_9 {p : Prop} (h : p := by kernel_rfl) : p := h
theorem z13_10 {p : Prop} (h : p := by rw [if_neg (show ¬ (false = true) by decide)] at H; exact H) : p := h
theorem z13_11 {p : Prop} (h : p := by (with_reducible repeat (first | apply Kd.R_alloc | apply Kd.R_drewN | apply Kd.R_drew)); exact (Kd.R_mono (Kd.R_mono (Kd.R_far (p := ⟨gb435, 2, none⟩) (Kd.R_far (p := ⟨gb435, 1, none⟩) (Kd.R_far (p := ⟨gb435, 0, none⟩) (Kd.R_far (p := ⟨gb434, 3, none⟩) (Kd.R_far (p := ⟨gb434, 2, none⟩) (Kd.R_far (p := ⟨gb434, 1, none⟩) (Kd.R_far (p := ⟨gb434, 0, none⟩) (Kd.R_types (Kd.R_types HO427.out BK434.out (by decide)) BK435.out (by decide)) (fun _ hk => hk.1.2) (.slice Ao11 t425.length co11)) (fun _ hk => hk.1.2) (.int .i64 t428)) (fun _ hk => hk.1.2) (.int .i64 t429)) (fun _ hk => hk.1.2) (.int .i64 t430)) (fun _ hk => hk.2) (.int .i64 t431)) (fun _ hk => hk.2) (.int .i64 t432)) (fun _ hk => hk.2) (.int .i64 t433)) (fun _ h_ => h_.1)) (fun _ h_ => h_.1))) : p := h
theorem z13_12 {p : Prop} (h : p := by repeat (first | (with_reducible first | exact HB.out | apply below_alloc | apply pw_below_drewN | apply below_drew1) | exact HB.out)) : p := h
theorem z13_13 {p : Prop} (h : p := by first | rfl | (simp; done) | (simp [*]; done)) : p := h
theorem z13_14 {p : Prop} (h : p := by first | (with_reducible assumption) | assumption) : p := h
theorem z13_15 {p : Prop} (h : p := by (with_reducible repeat (first | apply Kd.R_alloc | apply Kd.R_drewN | apply Kd.R_drew)); exact HO427.out) : p := h
theorem z13_16 {p : Prop} (h : p := by rw [if_pos rfl] at H; exact H) : p := h
theorem z13_17 {p : Prop} (h : p := by (with_reducible repeat (first | apply Kd.R_alloc | apply Kd.R_drewN | apply Kd.R_drew)); exact (Kd.R_mono (Kd.R_far (p := ⟨gb462, 3, none⟩) (Kd.R_far (p := ⟨gb462, 2, none⟩) (Kd.R_far (p := ⟨gb462, 1, none⟩) (Kd.R_far (p := ⟨gb462, 0, none⟩) (Kd.R_types HO456.out BK462.out (by decide)) (fun _ hk => hk.2) (.slice Ao75 t454.length co75)) (fun _ hk => hk.2) (.int .i64 t457)) (fun _ hk => hk.2) (.int .i64 t458)) (fun _ hk => hk.2) (.int .i64 t459)) (fun _ h_ => h_.1))) : p := h
theorem z13_18 {p : Prop} (h : p := by (with_reducible repeat (first | apply Kd.R_alloc | apply Kd.R_drewN | apply Kd.R_drew)); exact HO_32.out) : p := h
theorem z13_19 {p : Prop} (h : p := by (with_reducible repeat (first | apply Kd.R_alloc | apply Kd.R_drewN | apply Kd.R_drew)); exact HO_30.out) : p := h
theorem z13_20 {p : Prop} (h : p := by repeat (first | (with_reducible first | exact HB.out | apply below_alloc | apply pw_below_drewN | apply below_drew1 | refine below_set ?_ GE434.out) | exact HB.out)) : p := h
theorem z13_21 {p : Prop} (h : p := by rfl) : p := h
theorem z13_22 {p : Prop} (h : p := by (with_reducible repeat (first | apply Kd.R_alloc | apply Kd.R_drewN | apply Kd.R_drew)); exact HO471.out) : p := h
theorem z13_23 {p : Prop} (h : p := by first | rfl | (simp [errW_none, errW_some] <;> rfl) | (simp [*, errW_none, errW_some] <;> rfl)) : p := h
theorem z13_24 {p : Prop} (h : p := by have := HJ6.out; have := HJ28.out; have := HJ41.out; have := HJ55.out; have := HJ71.out; have := HJ83.out; have := HJ94.out; have := HK8.out; first | omega | exact Nat.le_refl _) : p := h
theorem z13_25 {p : Prop} (h : p := by simp) : p := h
theorem z13_26 {p : Prop} (h : p := by have := HJ6.out; have := HJ28.out; have := HJ41.out; have := HJ55.out; have := HJ71.out; have := HJ83.out; have := HJ94.out; have := HK8.out; omega) : p := h
theorem z13_27 {p : Prop} (h : p := by have := HJ6.out; have := HJ28.out; have := HJ41.out; have := HJ55.out; have := HJ71.out; first | omega | exact Nat.le_refl _) : p := h
theorem z13_28 {p : Prop} (h : p := by (with_reducible repeat (first | apply Kd.R_alloc | apply Kd.R_drewN | apply Kd.R_drew)); exact HO456.out) : p := h

/-! ### laws_FnContracts: function 8 -/
mutual
def laws_FnContracts.j0 : Nat → List Int → Bool → Bool → Bool → List Int → Int → Int → Int → Int → Int → Int → Option (Bool)
  | 0, _, _, _, _, _, _, _, _, _, _, _ => none
  | k + 1, x0, x5, x6, x78, x435000, x435001, x435002, x435003, x436000, x436001, x436002 => if x78 = true then (none) else ((impl_SellerOrder.f k x435000 x435001 x435002 x435003 x436000 x436001 x436002).bind fun bt442 => ((spec_SellerOrder.f k x435000 x435001 x435002 x435003 x436000 x436001 x436002).bind fun bt444 => (if bt442.1 = bt444.1 then (if (bt442.2 != bt444.2) = true then (none) else (laws_FnContracts.j1 k x0 x5 x6 bt442.1 (bt442.2 != x6) x435000 x435001 x435002 x435003 x436000 x436001 x436002)) else (none))))
def laws_FnContracts.j1 : Nat → List Int → Bool → Bool → Int → Bool → List Int → Int → Int → Int → Int → Int → Int → Option (Bool)
  | 0, _, _, _, _, _, _, _, _, _, _, _, _ => none
  | k + 1, x0, x5, x6, x9, x103, x435000, x435001, x435002, x435003, x436000, x436001, x436002 => if x103 = true then (none) else ((impl_ProfitLoss.f k x435000 x435001 x435002 x435003 x436000 x436001 x436002).bind fun bt446 => ((spec_ProfitLoss.f k x435000 x435001 x435002 x435003 x436000 x436001 x436002).bind fun bt448 => (if bt446.1 = bt448.1 then (if (bt446.2 != bt448.2) = true then (none) else (if (bt446.2 != x6) = true then (none) else (laws_FnContracts.j2 k x0 x5 x6 x9 bt446.1 (decide (bt446.1 < 0)) x435000 x435001 x435002 x435003 x436000 x436001 x436002))) else (none))))
def laws_FnContracts.j2 : Nat → List Int → Bool → Bool → Int → Int → Bool → List Int → Int → Int → Int → Int → Int → Int → Option (Bool)
  | 0, _, _, _, _, _, _, _, _, _, _, _, _, _ => none
  | k + 1, x0, x5, x6, x9, x13, x132, x435000, x435001, x435002, x435003, x436000, x436001, x436002 => if x132 = true then (none) else ((impl_IsCoordinated.f k x435000 x435001 x435002 x435003 x436000 x436001 x436002).bind fun bt450 => ((spec_IsCoordinated.f k x435000 x435001 x435002 x435003 x436000 x436001 x436002).bind fun bt452 => (if (bt450.1 != bt452.1) = true then (none) else (if (bt450.2 != bt452.2) = true then (none) else (if (bt450.2 != x6) = true then (none) else (if x6 = true then (laws_FnContracts.j3 k x0 x5 x9 x13 (bt450.1 != (x13 == 0)) x435000 x435001 x435002 x435003 x436000 x436001 x436002) else (laws_FnContracts.j3 k x0 x5 x9 x13 false x435000 x435001 x435002 x435003 x436000 x436001 x436002)))))))
def laws_FnContracts.j3 : Nat → List Int → Bool → Int → Int → Bool → List Int → Int → Int → Int → Int → Int → Int → Option (Bool)
  | 0, _, _, _, _, _, _, _, _, _, _, _, _ => none
  | k + 1, x0, x5, x9, x13, x166, x435000, x435001, x435002, x435003, x436000, x436001, x436002 => if x166 = true then (none) else ((spec_DrawPayFor.f k x0).bind fun bt454 => ((impl_PayFor.f k bt454.1 bt454.2.1 bt454.2.2.1 bt454.2.2.2.1 bt454.2.2.2.2.1 bt454.2.2.2.2.2).bind fun bt463 => ((spec_PayFor.f k bt454.1 bt454.2.1 bt454.2.2.1 bt454.2.2.2.1 bt454.2.2.2.2.1 bt454.2.2.2.2.2).bind fun bt465 => (if bt463.1 = bt465.1 then (laws_FnContracts.j4 k x5 x9 x13 bt454.2.2.2.2.1 bt454.2.2.2.2.2 bt463.1 bt463.2 (bt463.2 != bt465.2) x435000 x435001 x435002 x435003 x436000 x436001 x436002 bt454.1 bt454.2.1 bt454.2.2.1 bt454.2.2.2.1) else (none)))))
def laws_FnContracts.j4 : Nat → Bool → Int → Int → Int → Int → Int → Bool → Bool → List Int → Int → Int → Int → Int → Int → Int → List Int → Int → Int → Int → Option (Bool)
  | 0, _, _, _, _, _, _, _, _, _, _, _, _, _, _, _, _, _, _, _ => none
  | k + 1, x5, x9, x13, x22, x23, x24, x25, x194, x435000, x435001, x435002, x435003, x436000, x436001, x436002, x463000, x463001, x463002, x463003 => if x194 = true then (none) else (if x25 = true then ((impl_InProportion.f k x463000 x463001 x463002 x463003 x24 x22 x23).bind fun bt467 => (if bt467.2 = true then (if bt467.1 = true then (laws_FnContracts.j5 k x5 x9 x13 x435000 x435001 x435002 x435003 x436000 x436001 x436002) else (none)) else (none))) else (laws_FnContracts.j5 k x5 x9 x13 x435000 x435001 x435002 x435003 x436000 x436001 x436002))
def laws_FnContracts.j5 : Nat → Bool → Int → Int → List Int → Int → Int → Int → Int → Int → Int → Option (Bool)
  | 0, _, _, _, _, _, _, _, _, _, _ => none
  | k + 1, x5, x9, x13, x435000, x435001, x435002, x435003, x436000, x436001, x436002 => (impl_BackContracts.f k x435000 x435001 x435002 x435003).bind fun bt469 => ((spec_BackContracts.f k x435000 x435001 x435002 x435003).bind fun bt473 => (if (bt469.2 != bt473.2) = true then (none) else ((impl_IsMarket.f k x435000 x435001 x435002 x435003).bind fun t477 => (if (bt469.2 != t477) = true then (none) else (laws_FnContracts.j6 k x5 x9 x13 bt469.1 bt473.1 ((bt469.1.length : Int) != (bt473.1.length : Int)) x435000 x435001 x435002 x435003 x436000 x436001 x436002)))))
def laws_FnContracts.j6 : Nat → Bool → Int → Int → List (S32) → List (S32) → Bool → List Int → Int → Int → Int → Int → Int → Int → Option (Bool)
  | 0, _, _, _, _, _, _, _, _, _, _, _, _, _ => none
  | k + 1, x5, x9, x13, x30, x32, x236, x435000, x435001, x435002, x435003, x436000, x436001, x436002 => if x236 = true then (none) else (laws_FnContracts.l0 k x5 x9 x13 x30 x32 0 x435000 x435001 x435002 x435003 x436000 x436001 x436002)
def laws_FnContracts.l0 : Nat → Bool → Int → Int → List (S32) → List (S32) → Int → List Int → Int → Int → Int → Int → Int → Int → Option (Bool)
  | 0, _, _, _, _, _, _, _, _, _, _, _, _, _ => none
  | k + 1, x5, x9, x13, x30, x32, x34, x435000, x435001, x435002, x435003, x436000, x436001, x436002 => if x34 < (x30.length : Int) then (if 0 ≤ x34 then (if x34 < (x32.length : Int) then (if (!(((rd_T32 x30 x34).f0) == ((rd_T32 x32 x34).f0)) || (!(((rd_T32 x30 x34).f1) == ((rd_T32 x32 x34).f1)) || (!(((rd_T32 x30 x34).f2) == ((rd_T32 x32 x34).f2))))) = true then (none) else ((impl_ProfitLoss.f k x435000 x435001 x435002 x435003 ((rd_T32 x30 x34).f0) ((rd_T32 x30 x34).f1) ((rd_T32 x30 x34).f2)).bind fun bt481 => (if bt481.2 = true then (if x435001 > x435003 then (if bt481.1 = 0 then (laws_FnContracts.l0 k x5 x9 x13 x30 x32 (wrap64 (x34 + 1)) x435000 x435001 x435002 x435003 x436000 x436001 x436002) else (none)) else (laws_FnContracts.l0 k x5 x9 x13 x30 x32 (wrap64 (x34 + 1)) x435000 x435001 x435002 x435003 x436000 x436001 x436002)) else (none)))) else (none)) else (none)) else (if x5 = true then (laws_FnContracts.j8 k x9 x13 (x435001 == x435003) x435000 x435001 x435002 x435003 x436000 x436001 x436002) else (laws_FnContracts.j8 k x9 x13 true x435000 x435001 x435002 x435003 x436000 x436001 x436002))
def laws_FnContracts.j8 : Nat → Int → Int → Bool → List Int → Int → Int → Int → Int → Int → Int → Option (Bool)
  | 0, _, _, _, _, _, _, _, _, _, _ => none
  | k + 1, x9, x13, x282, x435000, x435001, x435002, x435003, x436000, x436001, x436002 => if x282 = true then (some true) else ((impl_JointOrder.f k x435000 x435001 x435002 x435003).bind fun bt483 => (if bt483.2 = true then (if x9 = bt483.1 then (laws_FnContracts.j9 k (x13 != 0) x435000 x435001 x435002 x435003 x436000 x436001 x436002) else (none)) else (none)))
def laws_FnContracts.j9 : Nat → Bool → List Int → Int → Int → Int → Int → Int → Int → Option (Bool)
  | 0, _, _, _, _, _, _, _, _ => none
  | k + 1, x298, x435000, x435001, x435002, x435003, x436000, x436001, x436002 => if x298 = true then (none) else (laws_FnContracts.l1 k (wrap64 ((wrap64 (x436002 * x435001)) - (wrap64 (100 * (wrap64 (x435003 + x436001)))))) 0 x435000 x435001 x435002 x435003 x436000 x436001 x436002)
def laws_FnContracts.l1 : Nat → Int → Int → List Int → Int → Int → Int → Int → Int → Int → Option (Bool)
  | 0, _, _, _, _, _, _, _, _, _ => none
  | k + 1, x39, x40, x435000, x435001, x435002, x435003, x436000, x436001, x436002 => if x40 ≤ 8 then ((impl_SellerProfit.f k x435000 x435001 x435002 x435003 x436000 x436001 x436002 x40).bind fun bt485 => ((impl_JointProfit.f k x435000 x435001 x435002 x435003 x40).bind fun bt487 => (if bt485.2 = true then (if bt487.2 = true then (if (wrap64 ((wrap64 (bt485.1 * 100)) * (wrap64 (x435001 - x435003)))) = (wrap64 (bt487.1 * x39)) then (laws_FnContracts.l1 k x39 (wrap64 (x40 + 1)) x435000 x435001 x435002 x435003 x436000 x436001 x436002) else (none)) else (none)) else (none)))) else (some true)
end
def laws_FnContracts.f (k : Nat) (l0 : List Int) : Option (Bool) := (laws_rBig.f l0).bind fun t424 => (if t424 = true then (some true) else ((spec_DrawInProportion.f k l0).bind fun bt425 => ((impl_InProportion.f k bt425.1 bt425.2.1 bt425.2.2.1 bt425.2.2.2.1 bt425.2.2.2.2.1 bt425.2.2.2.2.2.1 bt425.2.2.2.2.2.2).bind fun bt436 => ((spec_InProportion.f k bt425.1 bt425.2.1 bt425.2.2.1 bt425.2.2.2.1 bt425.2.2.2.2.1 bt425.2.2.2.2.2.1 bt425.2.2.2.2.2.2).bind fun bt438 => (if (bt436.1 != bt438.1) = true then (none) else (if (bt436.2 != bt438.2) = true then (none) else ((impl_IsContract.f bt425.2.2.2.2.1 bt425.2.2.2.2.2.1 bt425.2.2.2.2.2.2).bind fun t440 => ((spec_IsContract.f bt425.2.2.2.2.1 bt425.2.2.2.2.2.1 bt425.2.2.2.2.2.2).bind fun t441 => (laws_FnContracts.j0 k l0 bt436.1 bt436.2 (t440 != t441) bt425.1 bt425.2.1 bt425.2.2.1 bt425.2.2.2.1 bt425.2.2.2.2.1 bt425.2.2.2.2.2.1 bt425.2.2.2.2.2.2)))))))))
theorem laws_FnContracts.mono_l : ∀ k, (∀ y0 y1 y2 y3 y4 y5 y6 y7 y8 y9 y10, LeO (laws_FnContracts.j0 k y0 y1 y2 y3 y4 y5 y6 y7 y8 y9 y10) (laws_FnContracts.j0 (k + 1) y0 y1 y2 y3 y4 y5 y6 y7 y8 y9 y10)) ∧ (∀ y0 y1 y2 y3 y4 y5 y6 y7 y8 y9 y10 y11, LeO (laws_FnContracts.j1 k y0 y1 y2 y3 y4 y5 y6 y7 y8 y9 y10 y11) (laws_FnContracts.j1 (k + 1) y0 y1 y2 y3 y4 y5 y6 y7 y8 y9 y10 y11)) ∧ (∀ y0 y1 y2 y3 y4 y5 y6 y7 y8 y9 y10 y11 y12, LeO (laws_FnContracts.j2 k y0 y1 y2 y3 y4 y5 y6 y7 y8 y9 y10 y11 y12) (laws_FnContracts.j2 (k + 1) y0 y1 y2 y3 y4 y5 y6 y7 y8 y9 y10 y11 y12)) ∧ (∀ y0 y1 y2 y3 y4 y5 y6 y7 y8 y9 y10 y11, LeO (laws_FnContracts.j3 k y0 y1 y2 y3 y4 y5 y6 y7 y8 y9 y10 y11) (laws_FnContracts.j3 (k + 1) y0 y1 y2 y3 y4 y5 y6 y7 y8 y9 y10 y11)) ∧ (∀ y0 y1 y2 y3 y4 y5 y6 y7 y8 y9 y10 y11 y12 y13 y14 y15 y16 y17 y18, LeO (laws_FnContracts.j4 k y0 y1 y2 y3 y4 y5 y6 y7 y8 y9 y10 y11 y12 y13 y14 y15 y16 y17 y18) (laws_FnContracts.j4 (k + 1) y0 y1 y2 y3 y4 y5 y6 y7 y8 y9 y10 y11 y12 y13 y14 y15 y16 y17 y18)) ∧ (∀ y0 y1 y2 y3 y4 y5 y6 y7 y8 y9, LeO (laws_FnContracts.j5 k y0 y1 y2 y3 y4 y5 y6 y7 y8 y9) (laws_FnContracts.j5 (k + 1) y0 y1 y2 y3 y4 y5 y6 y7 y8 y9)) ∧ (∀ y0 y1 y2 y3 y4 y5 y6 y7 y8 y9 y10 y11 y12, LeO (laws_FnContracts.j6 k y0 y1 y2 y3 y4 y5 y6 y7 y8 y9 y10 y11 y12) (laws_FnContracts.j6 (k + 1) y0 y1 y2 y3 y4 y5 y6 y7 y8 y9 y10 y11 y12)) ∧ (∀ y0 y1 y2 y3 y4 y5 y6 y7 y8 y9 y10 y11 y12, LeO (laws_FnContracts.l0 k y0 y1 y2 y3 y4 y5 y6 y7 y8 y9 y10 y11 y12) (laws_FnContracts.l0 (k + 1) y0 y1 y2 y3 y4 y5 y6 y7 y8 y9 y10 y11 y12)) ∧ (∀ y0 y1 y2 y3 y4 y5 y6 y7 y8 y9, LeO (laws_FnContracts.j8 k y0 y1 y2 y3 y4 y5 y6 y7 y8 y9) (laws_FnContracts.j8 (k + 1) y0 y1 y2 y3 y4 y5 y6 y7 y8 y9)) ∧ (∀ y0 y1 y2 y3 y4 y5 y6 y7, LeO (laws_FnContracts.j9 k y0 y1 y2 y3 y4 y5 y6 y7) (laws_FnContracts.j9 (k + 1) y0 y1 y2 y3 y4 y5 y6 y7)) ∧ (∀ y0 y1 y2 y3 y4 y5 y6 y7 y8, LeO (laws_FnContracts.l1 k y0 y1 y2 y3 y4 y5 y6 y7 y8) (laws_FnContracts.l1 (k + 1) y0 y1 y2 y3 y4 y5 y6 y7 y8))
  | 0 => ⟨fun _ _ _ _ _ _ _ _ _ _ _ r h => by simp [laws_FnContracts.j0] at h, fun _ _ _ _ _ _ _ _ _ _ _ _ r h => by simp [laws_FnContracts.j1] at h, fun _ _ _ _ _ _ _ _ _ _ _ _ _ r h => by simp [laws_FnContracts.j2] at h, fun _ _ _ _ _ _ _ _ _ _ _ _ r h => by simp [laws_FnContracts.j3] at h, fun _ _ _ _ _ _ _ _ _ _ _ _ _ _ _ _ _ _ _ r h => by simp [laws_FnContracts.j4] at h, fun _ _ _ _ _ _ _ _ _ _ r h => by simp [laws_FnContracts.j5] at h, fun _ _ _ _ _ _ _ _ _ _ _ _ _ r h => by simp [laws_FnContracts.j6] at h, fun _ _ _ _ _ _ _ _ _ _ _ _ _ r h => by simp [laws_FnContracts.l0] at h, fun _ _ _ _ _ _ _ _ _ _ r h => by simp [laws_FnContracts.j8] at h, fun _ _ _ _ _ _ _ _ r h => by simp [laws_FnContracts.j9] at h, fun _ _ _ _ _ _ _ _ _ r h => by simp [laws_FnContracts.l1] at h⟩
  | k + 1 => by
    obtain ⟨ih0, ih1, ih2, ih3, ih4, ih5, ih6, ih7, ih8, ih9, ih10⟩ := laws_FnContracts.mono_l k
    refine ⟨?_, ?_, ?_, ?_, ?_, ?_, ?_, ?_, ?_, ?_, ?_⟩
    · intro y0 y1 y2 y3 y4 y5 y6 y7 y8 y9 y10
      unfold laws_FnContracts.j0
      repeat' first
      | (with_reducible exact ih0 _ _ _ _ _ _ _ _ _ _ _)
      | (with_reducible exact ih1 _ _ _ _ _ _ _ _ _ _ _ _)
      | (with_reducible exact ih2 _ _ _ _ _ _ _ _ _ _ _ _ _)
      | (with_reducible exact ih3 _ _ _ _ _ _ _ _ _ _ _ _)
      | (with_reducible exact ih4 _ _ _ _ _ _ _ _ _ _ _ _ _ _ _ _ _ _ _)
      | (with_reducible exact ih5 _ _ _ _ _ _ _ _ _ _)
      | (with_reducible exact ih6 _ _ _ _ _ _ _ _ _ _ _ _ _)
      | (with_reducible exact ih7 _ _ _ _ _ _ _ _ _ _ _ _ _)
      | (with_reducible exact ih8 _ _ _ _ _ _ _ _ _ _)
      | (with_reducible exact ih9 _ _ _ _ _ _ _ _)
      | (with_reducible exact ih10 _ _ _ _ _ _ _ _ _)
      | (with_reducible exact impl_BackContracts.mono _ _ _ _ _)
      | (with_reducible exact impl_InProportion.mono _ _ _ _ _ _ _ _)
      | (with_reducible exact impl_IsCoordinated.mono _ _ _ _ _ _ _ _)
      | (with_reducible exact impl_IsMarket.mono _ _ _ _ _)
      | (with_reducible exact impl_JointOrder.mono _ _ _ _ _)
      | (with_reducible exact impl_JointProfit.mono _ _ _ _ _ _)
      | (with_reducible exact impl_PayFor.mono _ _ _ _ _ _ _)
      | (with_reducible exact impl_ProfitLoss.mono _ _ _ _ _ _ _ _)
      | (with_reducible exact impl_SellerOrder.mono _ _ _ _ _ _ _ _)
      | (with_reducible exact impl_SellerProfit.mono _ _ _ _ _ _ _ _ _)
      | (with_reducible exact spec_BackContracts.mono _ _ _ _ _)
      | (with_reducible exact spec_DrawInProportion.mono _ _)
      | (with_reducible exact spec_DrawPayFor.mono _ _)
      | (with_reducible exact spec_InProportion.mono _ _ _ _ _ _ _ _)
      | (with_reducible exact spec_IsCoordinated.mono _ _ _ _ _ _ _ _)
      | (with_reducible exact spec_PayFor.mono _ _ _ _ _ _ _)
      | (with_reducible exact spec_ProfitLoss.mono _ _ _ _ _ _ _ _)
      | (with_reducible exact spec_SellerOrder.mono _ _ _ _ _ _ _ _)
      | (with_reducible exact LeO.refl _)
      | (with_reducible exact LeO.none _)
      | (with_reducible refine LeO.ite ?_ ?_)
      | (with_reducible refine LeO.bind ?_ (fun _ => ?_))
      | exact ih0 _ _ _ _ _ _ _ _ _ _ _
      | exact ih1 _ _ _ _ _ _ _ _ _ _ _ _
      | exact ih2 _ _ _ _ _ _ _ _ _ _ _ _ _
      | exact ih3 _ _ _ _ _ _ _ _ _ _ _ _
      | exact ih4 _ _ _ _ _ _ _ _ _ _ _ _ _ _ _ _ _ _ _
      | exact ih5 _ _ _ _ _ _ _ _ _ _
      | exact ih6 _ _ _ _ _ _ _ _ _ _ _ _ _
      | exact ih7 _ _ _ _ _ _ _ _ _ _ _ _ _
      | exact ih8 _ _ _ _ _ _ _ _ _ _
      | exact ih9 _ _ _ _ _ _ _ _
      | exact ih10 _ _ _ _ _ _ _ _ _
      | exact impl_BackContracts.mono _ _ _ _ _
      | exact impl_InProportion.mono _ _ _ _ _ _ _ _
      | exact impl_IsCoordinated.mono _ _ _ _ _ _ _ _
      | exact impl_IsMarket.mono _ _ _ _ _
      | exact impl_JointOrder.mono _ _ _ _ _
      | exact impl_JointProfit.mono _ _ _ _ _ _
      | exact impl_PayFor.mono _ _ _ _ _ _ _
      | exact impl_ProfitLoss.mono _ _ _ _ _ _ _ _
      | exact impl_SellerOrder.mono _ _ _ _ _ _ _ _
      | exact impl_SellerProfit.mono _ _ _ _ _ _ _ _ _
      | exact spec_BackContracts.mono _ _ _ _ _
      | exact spec_DrawInProportion.mono _ _
      | exact spec_DrawPayFor.mono _ _
      | exact spec_InProportion.mono _ _ _ _ _ _ _ _
      | exact spec_IsCoordinated.mono _ _ _ _ _ _ _ _
      | exact spec_PayFor.mono _ _ _ _ _ _ _
      | exact spec_ProfitLoss.mono _ _ _ _ _ _ _ _
      | exact spec_SellerOrder.mono _ _ _ _ _ _ _ _
      | exact LeO.none _
      | refine LeO.ite ?_ ?_
      | refine LeO.bind ?_ (fun _ => ?_)
    · intro y0 y1 y2 y3 y4 y5 y6 y7 y8 y9 y10 y11
      unfold laws_FnContracts.j1
      repeat' first
      | (with_reducible exact ih0 _ _ _ _ _ _ _ _ _ _ _)
      | (with_reducible exact ih1 _ _ _ _ _ _ _ _ _ _ _ _)
      | (with_reducible exact ih2 _ _ _ _ _ _ _ _ _ _ _ _ _)
      | (with_reducible exact ih3 _ _ _ _ _ _ _ _ _ _ _ _)
      | (with_reducible exact ih4 _ _ _ _ _ _ _ _ _ _ _ _ _ _ _ _ _ _ _)
      | (with_reducible exact ih5 _ _ _ _ _ _ _ _ _ _)
      | (with_reducible exact ih6 _ _ _ _ _ _ _ _ _ _ _ _ _)
      | (with_reducible exact ih7 _ _ _ _ _ _ _ _ _ _ _ _ _)
      | (with_reducible exact ih8 _ _ _ _ _ _ _ _ _ _)
      | (with_reducible exact ih9 _ _ _ _ _ _ _ _)
      | (with_reducible exact ih10 _ _ _ _ _ _ _ _ _)
      | (with_reducible exact impl_BackContracts.mono _ _ _ _ _)
      | (with_reducible exact impl_InProportion.mono _ _ _ _ _ _ _ _)
      | (with_reducible exact impl_IsCoordinated.mono _ _ _ _ _ _ _ _)
      | (with_reducible exact impl_IsMarket.mono _ _ _ _ _)
      | (with_reducible exact impl_JointOrder.mono _ _ _ _ _)
      | (with_reducible exact impl_JointProfit.mono _ _ _ _ _ _)
      | (with_reducible exact impl_PayFor.mono _ _ _ _ _ _ _)
      | (with_reducible exact impl_ProfitLoss.mono _ _ _ _ _ _ _ _)
      | (with_reducible exact impl_SellerOrder.mono _ _ _ _ _ _ _ _)
      | (with_reducible exact impl_SellerProfit.mono _ _ _ _ _ _ _ _ _)
      | (with_reducible exact spec_BackContracts.mono _ _ _ _ _)
      | (with_reducible exact spec_DrawInProportion.mono _ _)
      | (with_reducible exact spec_DrawPayFor.mono _ _)
      | (with_reducible exact spec_InProportion.mono _ _ _ _ _ _ _ _)
      | (with_reducible exact spec_IsCoordinated.mono _ _ _ _ _ _ _ _)
      | (with_reducible exact spec_PayFor.mono _ _ _ _ _ _ _)
      | (with_reducible exact spec_ProfitLoss.mono _ _ _ _ _ _ _ _)
      | (with_reducible exact spec_SellerOrder.mono _ _ _ _ _ _ _ _)
      | (with_reducible exact LeO.refl _)
      | (with_reducible exact LeO.none _)
      | (with_reducible refine LeO.ite ?_ ?_)
      | (with_reducible refine LeO.bind ?_ (fun _ => ?_))
      | exact ih0 _ _ _ _ _ _ _ _ _ _ _
      | exact ih1 _ _ _ _ _ _ _ _ _ _ _ _
      | exact ih2 _ _ _ _ _ _ _ _ _ _ _ _ _
      | exact ih3 _ _ _ _ _ _ _ _ _ _ _ _
      | exact ih4 _ _ _ _ _ _ _ _ _ _ _ _ _ _ _ _ _ _ _
      | exact ih5 _ _ _ _ _ _ _ _ _ _
      | exact ih6 _ _ _ _ _ _ _ _ _ _ _ _ _
      | exact ih7 _ _ _ _ _ _ _ _ _ _ _ _ _
      | exact ih8 _ _ _ _ _ _ _ _ _ _
      | exact ih9 _ _ _ _ _ _ _ _
      | exact ih10 _ _ _ _ _ _ _ _ _
      | exact impl_BackContracts.mono _ _ _ _ _
      | exact impl_InProportion.mono _ _ _ _ _ _ _ _
      | exact impl_IsCoordinated.mono _ _ _ _ _ _ _ _
      | exact impl_IsMarket.mono _ _ _ _ _
      | exact impl_JointOrder.mono _ _ _ _ _
      | exact impl_JointProfit.mono _ _ _ _ _ _
      | exact impl_PayFor.mono _ _ _ _ _ _ _
      | exact impl_ProfitLoss.mono _ _ _ _ _ _ _ _
      | exact impl_SellerOrder.mono _ _ _ _ _ _ _ _
      | exact impl_SellerProfit.mono _ _ _ _ _ _ _ _ _
      | exact spec_BackContracts.mono _ _ _ _ _
      | exact spec_DrawInProportion.mono _ _
      | exact spec_DrawPayFor.mono _ _
      | exact spec_InProportion.mono _ _ _ _ _ _ _ _
      | exact spec_IsCoordinated.mono _ _ _ _ _ _ _ _
      | exact spec_PayFor.mono _ _ _ _ _ _ _
      | exact spec_ProfitLoss.mono _ _ _ _ _ _ _ _
      | exact spec_SellerOrder.mono _ _ _ _ _ _ _ _
      | exact LeO.none _
      | refine LeO.ite ?_ ?_
      | refine LeO.bind ?_ (fun _ => ?_)
    · intro y0 y1 y2 y3 y4 y5 y6 y7 y8 y9 y10 y11 y12
      unfold laws_FnContracts.j2
      repeat' first
      | (with_reducible exact ih0 _ _ _ _ _ _ _ _ _ _ _)
      | (with_reducible exact ih1 _ _ _ _ _ _ _ _ _ _ _ _)
      | (with_reducible exact ih2 _ _ _ _ _ _ _ _ _ _ _ _ _)
      | (with_reducible exact ih3 _ _ _ _ _ _ _ _ _ _ _ _)
      | (with_reducible exact ih4 _ _ _ _ _ _ _ _ _ _ _ _ _ _ _ _ _ _ _)
      | (with_reducible exact ih5 _ _ _ _ _ _ _ _ _ _)
      | (with_reducible exact ih6 _ _ _ _ _ _ _ _ _ _ _ _ _)
      | (with_reducible exact ih7 _ _ _ _ _ _ _ _ _ _ _ _ _)
      | (with_reducible exact ih8 _ _ _ _ _ _ _ _ _ _)
      | (with_reducible exact ih9 _ _ _ _ _ _ _ _)
      | (with_reducible exact ih10 _ _ _ _ _ _ _ _ _)
      | (with_reducible exact impl_BackContracts.mono _ _ _ _ _)
      | (with_reducible exact impl_InProportion.mono _ _ _ _ _ _ _ _)
      | (with_reducible exact impl_IsCoordinated.mono _ _ _ _ _ _ _ _)
      | (with_reducible exact impl_IsMarket.mono _ _ _ _ _)
      | (with_reducible exact impl_JointOrder.mono _ _ _ _ _)
      | (with_reducible exact impl_JointProfit.mono _ _ _ _ _ _)
      | (with_reducible exact impl_PayFor.mono _ _ _ _ _ _ _)
      | (with_reducible exact impl_ProfitLoss.mono _ _ _ _ _ _ _ _)
      | (with_reducible exact impl_SellerOrder.mono _ _ _ _ _ _ _ _)
      | (with_reducible exact impl_SellerProfit.mono _ _ _ _ _ _ _ _ _)
      | (with_reducible exact spec_BackContracts.mono _ _ _ _ _)
      | (with_reducible exact spec_DrawInProportion.mono _ _)
      | (with_reducible exact spec_DrawPayFor.mono _ _)
      | (with_reducible exact spec_InProportion.mono _ _ _ _ _ _ _ _)
      | (with_reducible exact spec_IsCoordinated.mono _ _ _ _ _ _ _ _)
      | (with_reducible exact spec_PayFor.mono _ _ _ _ _ _ _)
      | (with_reducible exact spec_ProfitLoss.mono _ _ _ _ _ _ _ _)
      | (with_reducible exact spec_SellerOrder.mono _ _ _ _ _ _ _ _)
      | (with_reducible exact LeO.refl _)
      | (with_reducible exact LeO.none _)
      | (with_reducible refine LeO.ite ?_ ?_)
      | (with_reducible refine LeO.bind ?_ (fun _ => ?_))
      | exact ih0 _ _ _ _ _ _ _ _ _ _ _
      | exact ih1 _ _ _ _ _ _ _ _ _ _ _ _
      | exact ih2 _ _ _ _ _ _ _ _ _ _ _ _ _
      | exact ih3 _ _ _ _ _ _ _ _ _ _ _ _
      | exact ih4 _ _ _ _ _ _ _ _ _ _ _ _ _ _ _ _ _ _ _
      | exact ih5 _ _ _ _ _ _ _ _ _ _
      | exact ih6 _ _ _ _ _ _ _ _ _ _ _ _ _
      | exact ih7 _ _ _ _ _ _ _ _ _ _ _ _ _
      | exact ih8 _ _ _ _ _ _ _ _ _ _
      | exact ih9 _ _ _ _ _ _ _ _
      | exact ih10 _ _ _ _ _ _ _ _ _
      | exact impl_BackContracts.mono _ _ _ _ _
      | exact impl_InProportion.mono _ _ _ _ _ _ _ _
      | exact impl_IsCoordinated.mono _ _ _ _ _ _ _ _
      | exact impl_IsMarket.mono _ _ _ _ _
      | exact impl_JointOrder.mono _ _ _ _ _
      | exact impl_JointProfit.mono _ _ _ _ _ _
      | exact impl_PayFor.mono _ _ _ _ _ _ _
      | exact impl_ProfitLoss.mono _ _ _ _ _ _ _ _
      | exact impl_SellerOrder.mono _ _ _ _ _ _ _ _
      | exact impl_SellerProfit.mono _ _ _ _ _ _ _ _ _
      | exact spec_BackContracts.mono _ _ _ _ _
      | exact spec_DrawInProportion.mono _ _
      | exact spec_DrawPayFor.mono _ _
      | exact spec_InProportion.mono _ _ _ _ _ _ _ _
      | exact spec_IsCoordinated.mono _ _ _ _ _ _ _ _
      | exact spec_PayFor.mono _ _ _ _ _ _ _
      | exact spec_ProfitLoss.mono _ _ _ _ _ _ _ _
      | exact spec_SellerOrder.mono _ _ _ _ _ _ _ _
      | exact LeO.none _
      | refine LeO.ite ?_ ?_
      | refine LeO.bind ?_ (fun _ => ?_)
    · intro y0 y1 y2 y3 y4 y5 y6 y7 y8 y9 y10 y11
      unfold laws_FnContracts.j3
      repeat' first
      | (with_reducible exact ih0 _ _ _ _ _ _ _ _ _ _ _)
      | (with_reducible exact ih1 _ _ _ _ _ _ _ _ _ _ _ _)
      | (with_reducible exact ih2 _ _ _ _ _ _ _ _ _ _ _ _ _)
      | (with_reducible exact ih3 _ _ _ _ _ _ _ _ _ _ _ _)
      | (with_reducible exact ih4 _ _ _ _ _ _ _ _ _ _ _ _ _ _ _ _ _ _ _)
      | (with_reducible exact ih5 _ _ _ _ _ _ _ _ _ _)
      | (with_reducible exact ih6 _ _ _ _ _ _ _ _ _ _ _ _ _)
      | (with_reducible exact ih7 _ _ _ _ _ _ _ _ _ _ _ _ _)
      | (with_reducible exact ih8 _ _ _ _ _ _ _ _ _ _)
      | (with_reducible exact ih9 _ _ _ _ _ _ _ _)
      | (with_reducible exact ih10 _ _ _ _ _ _ _ _ _)
      | (with_reducible exact impl_BackContracts.mono _ _ _ _ _)
      | (with_reducible exact impl_InProportion.mono _ _ _ _ _ _ _ _)
      | (with_reducible exact impl_IsCoordinated.mono _ _ _ _ _ _ _ _)
      | (with_reducible exact impl_IsMarket.mono _ _ _ _ _)
      | (with_reducible exact impl_JointOrder.mono _ _ _ _ _)
      | (with_reducible exact impl_JointProfit.mono _ _ _ _ _ _)
      | (with_reducible exact impl_PayFor.mono _ _ _ _ _ _ _)
      | (with_reducible exact impl_ProfitLoss.mono _ _ _ _ _ _ _ _)
      | (with_reducible exact impl_SellerOrder.mono _ _ _ _ _ _ _ _)
      | (with_reducible exact impl_SellerProfit.mono _ _ _ _ _ _ _ _ _)
      | (with_reducible exact spec_BackContracts.mono _ _ _ _ _)
      | (with_reducible exact spec_DrawInProportion.mono _ _)
      | (with_reducible exact spec_DrawPayFor.mono _ _)
      | (with_reducible exact spec_InProportion.mono _ _ _ _ _ _ _ _)
      | (with_reducible exact spec_IsCoordinated.mono _ _ _ _ _ _ _ _)
      | (with_reducible exact spec_PayFor.mono _ _ _ _ _ _ _)
      | (with_reducible exact spec_ProfitLoss.mono _ _ _ _ _ _ _ _)
      | (with_reducible exact spec_SellerOrder.mono _ _ _ _ _ _ _ _)
      | (with_reducible exact LeO.refl _)
      | (with_reducible exact LeO.none _)
      | (with_reducible refine LeO.ite ?_ ?_)
      | (with_reducible refine LeO.bind ?_ (fun _ => ?_))
      | exact ih0 _ _ _ _ _ _ _ _ _ _ _
      | exact ih1 _ _ _ _ _ _ _ _ _ _ _ _
      | exact ih2 _ _ _ _ _ _ _ _ _ _ _ _ _
      | exact ih3 _ _ _ _ _ _ _ _ _ _ _ _
      | exact ih4 _ _ _ _ _ _ _ _ _ _ _ _ _ _ _ _ _ _ _
      | exact ih5 _ _ _ _ _ _ _ _ _ _
      | exact ih6 _ _ _ _ _ _ _ _ _ _ _ _ _
      | exact ih7 _ _ _ _ _ _ _ _ _ _ _ _ _
      | exact ih8 _ _ _ _ _ _ _ _ _ _
      | exact ih9 _ _ _ _ _ _ _ _
      | exact ih10 _ _ _ _ _ _ _ _ _
      | exact impl_BackContracts.mono _ _ _ _ _
      | exact impl_InProportion.mono _ _ _ _ _ _ _ _
      | exact impl_IsCoordinated.mono _ _ _ _ _ _ _ _
      | exact impl_IsMarket.mono _ _ _ _ _
      | exact impl_JointOrder.mono _ _ _ _ _
      | exact impl_JointProfit.mono _ _ _ _ _ _
      | exact impl_PayFor.mono _ _ _ _ _ _ _
      | exact impl_ProfitLoss.mono _ _ _ _ _ _ _ _
      | exact impl_SellerOrder.mono _ _ _ _ _ _ _ _
      | exact impl_SellerProfit.mono _ _ _ _ _ _ _ _ _
      | exact spec_BackContracts.mono _ _ _ _ _
      | exact spec_DrawInProportion.mono _ _
      | exact spec_DrawPayFor.mono _ _
      | exact spec_InProportion.mono _ _ _ _ _ _ _ _
      | exact spec_IsCoordinated.mono _ _ _ _ _ _ _ _
      | exact spec_PayFor.mono _ _ _ _ _ _ _
      | exact spec_ProfitLoss.mono _ _ _ _ _ _ _ _
      | exact spec_SellerOrder.mono _ _ _ _ _ _ _ _
      | exact LeO.none _
      | refine LeO.ite ?_ ?_
      | refine LeO.bind ?_ (fun _ => ?_)
    · intro y0 y1 y2 y3 y4 y5 y6 y7 y8 y9 y10 y11 y12 y13 y14 y15 y16 y17 y18
      unfold laws_FnContracts.j4
      repeat' first
      | (with_reducible exact ih0 _ _ _ _ _ _ _ _ _ _ _)
      | (with_reducible exact ih1 _ _ _ _ _ _ _ _ _ _ _ _)
      | (with_reducible exact ih2 _ _ _ _ _ _ _ _ _ _ _ _ _)
      | (with_reducible exact ih3 _ _ _ _ _ _ _ _ _ _ _ _)
      | (with_reducible exact ih4 _ _ _ _ _ _ _ _ _ _ _ _ _ _ _ _ _ _ _)
      | (with_reducible exact ih5 _ _ _ _ _ _ _ _ _ _)
      | (with_reducible exact ih6 _ _ _ _ _ _ _ _ _ _ _ _ _)
      | (with_reducible exact ih7 _ _ _ _ _ _ _ _ _ _ _ _ _)
      | (with_reducible exact ih8 _ _ _ _ _ _ _ _ _ _)
      | (with_reducible exact ih9 _ _ _ _ _ _ _ _)
      | (with_reducible exact ih10 _ _ _ _ _ _ _ _ _)
      | (with_reducible exact impl_BackContracts.mono _ _ _ _ _)
      | (with_reducible exact impl_InProportion.mono _ _ _ _ _ _ _ _)
      | (with_reducible exact impl_IsCoordinated.mono _ _ _ _ _ _ _ _)
      | (with_reducible exact impl_IsMarket.mono _ _ _ _ _)
      | (with_reducible exact impl_JointOrder.mono _ _ _ _ _)
      | (with_reducible exact impl_JointProfit.mono _ _ _ _ _ _)
      | (with_reducible exact impl_PayFor.mono _ _ _ _ _ _ _)
      | (with_reducible exact impl_ProfitLoss.mono _ _ _ _ _ _ _ _)
      | (with_reducible exact impl_SellerOrder.mono _ _ _ _ _ _ _ _)
      | (with_reducible exact impl_SellerProfit.mono _ _ _ _ _ _ _ _ _)
      | (with_reducible exact spec_BackContracts.mono _ _ _ _ _)
      | (with_reducible exact spec_DrawInProportion.mono _ _)
      | (with_reducible exact spec_DrawPayFor.mono _ _)
      | (with_reducible exact spec_InProportion.mono _ _ _ _ _ _ _ _)
      | (with_reducible exact spec_IsCoordinated.mono _ _ _ _ _ _ _ _)
      | (with_reducible exact spec_PayFor.mono _ _ _ _ _ _ _)
      | (with_reducible exact spec_ProfitLoss.mono _ _ _ _ _ _ _ _)
      | (with_reducible exact spec_SellerOrder.mono _ _ _ _ _ _ _ _)
      | (with_reducible exact LeO.refl _)
      | (with_reducible exact LeO.none _)
      | (with_reducible refine LeO.ite ?_ ?_)
      | (with_reducible refine LeO.bind ?_ (fun _ => ?_))
      | exact ih0 _ _ _ _ _ _ _ _ _ _ _
      | exact ih1 _ _ _ _ _ _ _ _ _ _ _ _
      | exact ih2 _ _ _ _ _ _ _ _ _ _ _ _ _
      | exact ih3 _ _ _ _ _ _ _ _ _ _ _ _
      | exact ih4 _ _ _ _ _ _ _ _ _ _ _ _ _ _ _ _ _ _ _
      | exact ih5 _ _ _ _ _ _ _ _ _ _
      | exact ih6 _ _ _ _ _ _ _ _ _ _ _ _ _
      | exact ih7 _ _ _ _ _ _ _ _ _ _ _ _ _
      | exact ih8 _ _ _ _ _ _ _ _ _ _
      | exact ih9 _ _ _ _ _ _ _ _
      | exact ih10 _ _ _ _ _ _ _ _ _
      | exact impl_BackContracts.mono _ _ _ _ _
      | exact impl_InProportion.mono _ _ _ _ _ _ _ _
      | exact impl_IsCoordinated.mono _ _ _ _ _ _ _ _
      | exact impl_IsMarket.mono _ _ _ _ _
      | exact impl_JointOrder.mono _ _ _ _ _
      | exact impl_JointProfit.mono _ _ _ _ _ _
      | exact impl_PayFor.mono _ _ _ _ _ _ _
      | exact impl_ProfitLoss.mono _ _ _ _ _ _ _ _
      | exact impl_SellerOrder.mono _ _ _ _ _ _ _ _
      | exact impl_SellerProfit.mono _ _ _ _ _ _ _ _ _
      | exact spec_BackContracts.mono _ _ _ _ _
      | exact spec_DrawInProportion.mono _ _
      | exact spec_DrawPayFor.mono _ _
      | exact spec_InProportion.mono _ _ _ _ _ _ _ _
      | exact spec_IsCoordinated.mono _ _ _ _ _ _ _ _
      | exact spec_PayFor.mono _ _ _ _ _ _ _
      | exact spec_ProfitLoss.mono _ _ _ _ _ _ _ _
      | exact spec_SellerOrder.mono _ _ _ _ _ _ _ _
      | exact LeO.none _
      | refine LeO.ite ?_ ?_
      | refine LeO.bind ?_ (fun _ => ?_)
    · intro y0 y1 y2 y3 y4 y5 y6 y7 y8 y9
      unfold laws_FnContracts.j5
      repeat' first
      | (with_reducible exact ih0 _ _ _ _ _ _ _ _ _ _ _)
      | (with_reducible exact ih1 _ _ _ _ _ _ _ _ _ _ _ _)
      | (with_reducible exact ih2 _ _ _ _ _ _ _ _ _ _ _ _ _)
      | (with_reducible exact ih3 _ _ _ _ _ _ _ _ _ _ _ _)
      | (with_reducible exact ih4 _ _ _ _ _ _ _ _ _ _ _ _ _ _ _ _ _ _ _)
      | (with_reducible exact ih5 _ _ _ _ _ _ _ _ _ _)
      | (with_reducible exact ih6 _ _ _ _ _ _ _ _ _ _ _ _ _)
      | (with_reducible exact ih7 _ _ _ _ _ _ _ _ _ _ _ _ _)
      | (with_reducible exact ih8 _ _ _ _ _ _ _ _ _ _)
      | (with_reducible exact ih9 _ _ _ _ _ _ _ _)
      | (with_reducible exact ih10 _ _ _ _ _ _ _ _ _)
      | (with_reducible exact impl_BackContracts.mono _ _ _ _ _)
      | (with_reducible exact impl_InProportion.mono _ _ _ _ _ _ _ _)
      | (with_reducible exact impl_IsCoordinated.mono _ _ _ _ _ _ _ _)
      | (with_reducible exact impl_IsMarket.mono _ _ _ _ _)
      | (with_reducible exact impl_JointOrder.mono _ _ _ _ _)
      | (with_reducible exact impl_JointProfit.mono _ _ _ _ _ _)
      | (with_reducible exact impl_PayFor.mono _ _ _ _ _ _ _)
      | (with_reducible exact impl_ProfitLoss.mono _ _ _ _ _ _ _ _)
      | (with_reducible exact impl_SellerOrder.mono _ _ _ _ _ _ _ _)
      | (with_reducible exact impl_SellerProfit.mono _ _ _ _ _ _ _ _ _)
      | (with_reducible exact spec_BackContracts.mono _ _ _ _ _)
      | (with_reducible exact spec_DrawInProportion.mono _ _)
      | (with_reducible exact spec_DrawPayFor.mono _ _)
      | (with_reducible exact spec_InProportion.mono _ _ _ _ _ _ _ _)
      | (with_reducible exact spec_IsCoordinated.mono _ _ _ _ _ _ _ _)
      | (with_reducible exact spec_PayFor.mono _ _ _ _ _ _ _)
      | (with_reducible exact spec_ProfitLoss.mono _ _ _ _ _ _ _ _)
      | (with_reducible exact spec_SellerOrder.mono _ _ _ _ _ _ _ _)
      | (with_reducible exact LeO.refl _)
      | (with_reducible exact LeO.none _)
      | (with_reducible refine LeO.ite ?_ ?_)
      | (with_reducible refine LeO.bind ?_ (fun _ => ?_))
      | exact ih0 _ _ _ _ _ _ _ _ _ _ _
      | exact ih1 _ _ _ _ _ _ _ _ _ _ _ _
      | exact ih2 _ _ _ _ _ _ _ _ _ _ _ _ _
      | exact ih3 _ _ _ _ _ _ _ _ _ _ _ _
      | exact ih4 _ _ _ _ _ _ _ _ _ _ _ _ _ _ _ _ _ _ _
      | exact ih5 _ _ _ _ _ _ _ _ _ _
      | exact ih6 _ _ _ _ _ _ _ _ _ _ _ _ _
      | exact ih7 _ _ _ _ _ _ _ _ _ _ _ _ _
      | exact ih8 _ _ _ _ _ _ _ _ _ _
      | exact ih9 _ _ _ _ _ _ _ _
      | exact ih10 _ _ _ _ _ _ _ _ _
      | exact impl_BackContracts.mono _ _ _ _ _
      | exact impl_InProportion.mono _ _ _ _ _ _ _ _
      | exact impl_IsCoordinated.mono _ _ _ _ _ _ _ _
      | exact impl_IsMarket.mono _ _ _ _ _
      | exact impl_JointOrder.mono _ _ _ _ _
      | exact impl_JointProfit.mono _ _ _ _ _ _
      | exact impl_PayFor.mono _ _ _ _ _ _ _
      | exact impl_ProfitLoss.mono _ _ _ _ _ _ _ _
      | exact impl_SellerOrder.mono _ _ _ _ _ _ _ _
      | exact impl_SellerProfit.mono _ _ _ _ _ _ _ _ _
      | exact spec_BackContracts.mono _ _ _ _ _
      | exact spec_DrawInProportion.mono _ _
      | exact spec_DrawPayFor.mono _ _
      | exact spec_InProportion.mono _ _ _ _ _ _ _ _
      | exact spec_IsCoordinated.mono _ _ _ _ _ _ _ _
      | exact spec_PayFor.mono _ _ _ _ _ _ _
      | exact spec_ProfitLoss.mono _ _ _ _ _ _ _ _
      | exact spec_SellerOrder.mono _ _ _ _ _ _ _ _
      | exact LeO.none _
      | refine LeO.ite ?_ ?_
      | refine LeO.bind ?_ (fun _ => ?_)
    · intro y0 y1 y2 y3 y4 y5 y6 y7 y8 y9 y10 y11 y12
      unfold laws_FnContracts.j6
      repeat' first
      | (with_reducible exact ih0 _ _ _ _ _ _ _ _ _ _ _)
      | (with_reducible exact ih1 _ _ _ _ _ _ _ _ _ _ _ _)
      | (with_reducible exact ih2 _ _ _ _ _ _ _ _ _ _ _ _ _)
      | (with_reducible exact ih3 _ _ _ _ _ _ _ _ _ _ _ _)
      | (with_reducible exact ih4 _ _ _ _ _ _ _ _ _ _ _ _ _ _ _ _ _ _ _)
      | (with_reducible exact ih5 _ _ _ _ _ _ _ _ _ _)
      | (with_reducible exact ih6 _ _ _ _ _ _ _ _ _ _ _ _ _)
      | (with_reducible exact ih7 _ _ _ _ _ _ _ _ _ _ _ _ _)
      | (with_reducible exact ih8 _ _ _ _ _ _ _ _ _ _)
      | (with_reducible exact ih9 _ _ _ _ _ _ _ _)
      | (with_reducible exact ih10 _ _ _ _ _ _ _ _ _)
      | (with_reducible exact impl_BackContracts.mono _ _ _ _ _)
      | (with_reducible exact impl_InProportion.mono _ _ _ _ _ _ _ _)
      | (with_reducible exact impl_IsCoordinated.mono _ _ _ _ _ _ _ _)
      | (with_reducible exact impl_IsMarket.mono _ _ _ _ _)
      | (with_reducible exact impl_JointOrder.mono _ _ _ _ _)
      | (with_reducible exact impl_JointProfit.mono _ _ _ _ _ _)
      | (with_reducible exact impl_PayFor.mono _ _ _ _ _ _ _)
      | (with_reducible exact impl_ProfitLoss.mono _ _ _ _ _ _ _ _)
      | (with_reducible exact impl_SellerOrder.mono _ _ _ _ _ _ _ _)
      | (with_reducible exact impl_SellerProfit.mono _ _ _ _ _ _ _ _ _)
      | (with_reducible exact spec_BackContracts.mono _ _ _ _ _)
      | (with_reducible exact spec_DrawInProportion.mono _ _)
      | (with_reducible exact spec_DrawPayFor.mono _ _)
      | (with_reducible exact spec_InProportion.mono _ _ _ _ _ _ _ _)
      | (with_reducible exact spec_IsCoordinated.mono _ _ _ _ _ _ _ _)
      | (with_reducible exact spec_PayFor.mono _ _ _ _ _ _ _)
      | (with_reducible exact spec_ProfitLoss.mono _ _ _ _ _ _ _ _)
      | (with_reducible exact spec_SellerOrder.mono _ _ _ _ _ _ _ _)
      | (with_reducible exact LeO.refl _)
      | (with_reducible exact LeO.none _)
      | (with_reducible refine LeO.ite ?_ ?_)
      | (with_reducible refine LeO.bind ?_ (fun _ => ?_))
      | exact ih0 _ _ _ _ _ _ _ _ _ _ _
      | exact ih1 _ _ _ _ _ _ _ _ _ _ _ _
      | exact ih2 _ _ _ _ _ _ _ _ _ _ _ _ _
      | exact ih3 _ _ _ _ _ _ _ _ _ _ _ _
      | exact ih4 _ _ _ _ _ _ _ _ _ _ _ _ _ _ _ _ _ _ _
      | exact ih5 _ _ _ _ _ _ _ _ _ _
      | exact ih6 _ _ _ _ _ _ _ _ _ _ _ _ _
      | exact ih7 _ _ _ _ _ _ _ _ _ _ _ _ _
      | exact ih8 _ _ _ _ _ _ _ _ _ _
      | exact ih9 _ _ _ _ _ _ _ _
      | exact ih10 _ _ _ _ _ _ _ _ _
      | exact impl_BackContracts.mono _ _ _ _ _
      | exact impl_InProportion.mono _ _ _ _ _ _ _ _
      | exact impl_IsCoordinated.mono _ _ _ _ _ _ _ _
      | exact impl_IsMarket.mono _ _ _ _ _
      | exact impl_JointOrder.mono _ _ _ _ _
      | exact impl_JointProfit.mono _ _ _ _ _ _
      | exact impl_PayFor.mono _ _ _ _ _ _ _
      | exact impl_ProfitLoss.mono _ _ _ _ _ _ _ _
      | exact impl_SellerOrder.mono _ _ _ _ _ _ _ _
      | exact impl_SellerProfit.mono _ _ _ _ _ _ _ _ _
      | exact spec_BackContracts.mono _ _ _ _ _
      | exact spec_DrawInProportion.mono _ _
      | exact spec_DrawPayFor.mono _ _
      | exact spec_InProportion.mono _ _ _ _ _ _ _ _
      | exact spec_IsCoordinated.mono _ _ _ _ _ _ _ _
      | exact spec_PayFor.mono _ _ _ _ _ _ _
      | exact spec_ProfitLoss.mono _ _ _ _ _ _ _ _
      | exact spec_SellerOrder.mono _ _ _ _ _ _ _ _
      | exact LeO.none _
      | refine LeO.ite ?_ ?_
      | refine LeO.bind ?_ (fun _ => ?_)
    · intro y0 y1 y2 y3 y4 y5 y6 y7 y8 y9 y10 y11 y12
      unfold laws_FnContracts.l0
      repeat' first
      | (with_reducible exact ih0 _ _ _ _ _ _ _ _ _ _ _)
      | (with_reducible exact ih1 _ _ _ _ _ _ _ _ _ _ _ _)
      | (with_reducible exact ih2 _ _ _ _ _ _ _ _ _ _ _ _ _)
      | (with_reducible exact ih3 _ _ _ _ _ _ _ _ _ _ _ _)
      | (with_reducible exact ih4 _ _ _ _ _ _ _ _ _ _ _ _ _ _ _ _ _ _ _)
      | (with_reducible exact ih5 _ _ _ _ _ _ _ _ _ _)
      | (with_reducible exact ih6 _ _ _ _ _ _ _ _ _ _ _ _ _)
      | (with_reducible exact ih7 _ _ _ _ _ _ _ _ _ _ _ _ _)
      | (with_reducible exact ih8 _ _ _ _ _ _ _ _ _ _)
      | (with_reducible exact ih9 _ _ _ _ _ _ _ _)
      | (with_reducible exact ih10 _ _ _ _ _ _ _ _ _)
      | (with_reducible exact impl_BackContracts.mono _ _ _ _ _)
      | (with_reducible exact impl_InProportion.mono _ _ _ _ _ _ _ _)
      | (with_reducible exact impl_IsCoordinated.mono _ _ _ _ _ _ _ _)
      | (with_reducible exact impl_IsMarket.mono _ _ _ _ _)
      | (with_reducible exact impl_JointOrder.mono _ _ _ _ _)
      | (with_reducible exact impl_JointProfit.mono _ _ _ _ _ _)
      | (with_reducible exact impl_PayFor.mono _ _ _ _ _ _ _)
      | (with_reducible exact impl_ProfitLoss.mono _ _ _ _ _ _ _ _)
      | (with_reducible exact impl_SellerOrder.mono _ _ _ _ _ _ _ _)
      | (with_reducible exact impl_SellerProfit.mono _ _ _ _ _ _ _ _ _)
      | (with_reducible exact spec_BackContracts.mono _ _ _ _ _)
      | (with_reducible exact spec_DrawInProportion.mono _ _)
      | (with_reducible exact spec_DrawPayFor.mono _ _)
      | (with_reducible exact spec_InProportion.mono _ _ _ _ _ _ _ _)
      | (with_reducible exact spec_IsCoordinated.mono _ _ _ _ _ _ _ _)
      | (with_reducible exact spec_PayFor.mono _ _ _ _ _ _ _)
      | (with_reducible exact spec_ProfitLoss.mono _ _ _ _ _ _ _ _)
      | (with_reducible exact spec_SellerOrder.mono _ _ _ _ _ _ _ _)
      | (with_reducible exact LeO.refl _)
      | (with_reducible exact LeO.none _)
      | (with_reducible refine LeO.ite ?_ ?_)
      | (with_reducible refine LeO.bind ?_ (fun _ => ?_))
      | exact ih0 _ _ _ _ _ _ _ _ _ _ _
      | exact ih1 _ _ _ _ _ _ _ _ _ _ _ _
      | exact ih2 _ _ _ _ _ _ _ _ _ _ _ _ _
      | exact ih3 _ _ _ _ _ _ _ _ _ _ _ _
      | exact ih4 _ _ _ _ _ _ _ _ _ _ _ _ _ _ _ _ _ _ _
      | exact ih5 _ _ _ _ _ _ _ _ _ _
      | exact ih6 _ _ _ _ _ _ _ _ _ _ _ _ _
      | exact ih7 _ _ _ _ _ _ _ _ _ _ _ _ _
      | exact ih8 _ _ _ _ _ _ _ _ _ _
      | exact ih9 _ _ _ _ _ _ _ _
      | exact ih10 _ _ _ _ _ _ _ _ _
      | exact impl_BackContracts.mono _ _ _ _ _
      | exact impl_InProportion.mono _ _ _ _ _ _ _ _
      | exact impl_IsCoordinated.mono _ _ _ _ _ _ _ _
      | exact impl_IsMarket.mono _ _ _ _ _
      | exact impl_JointOrder.mono _ _ _ _ _
      | exact impl_JointProfit.mono _ _ _ _ _ _
      | exact impl_PayFor.mono _ _ _ _ _ _ _
      | exact impl_ProfitLoss.mono _ _ _ _ _ _ _ _
      | exact impl_SellerOrder.mono _ _ _ _ _ _ _ _
      | exact impl_SellerProfit.mono _ _ _ _ _ _ _ _ _
      | exact spec_BackContracts.mono _ _ _ _ _
      | exact spec_DrawInProportion.mono _ _
      | exact spec_DrawPayFor.mono _ _
      | exact spec_InProportion.mono _ _ _ _ _ _ _ _
      | exact spec_IsCoordinated.mono _ _ _ _ _ _ _ _
      | exact spec_PayFor.mono _ _ _ _ _ _ _
      | exact spec_ProfitLoss.mono _ _ _ _ _ _ _ _
      | exact spec_SellerOrder.mono _ _ _ _ _ _ _ _
      | exact LeO.none _
      | refine LeO.ite ?_ ?_
      | refine LeO.bind ?_ (fun _ => ?_)
    · intro y0 y1 y2 y3 y4 y5 y6 y7 y8 y9
      unfold laws_FnContracts.j8
      repeat' first
      | (with_reducible exact ih0 _ _ _ _ _ _ _ _ _ _ _)
      | (with_reducible exact ih1 _ _ _ _ _ _ _ _ _ _ _ _)
      | (with_reducible exact ih2 _ _ _ _ _ _ _ _ _ _ _ _ _)
      | (with_reducible exact ih3 _ _ _ _ _ _ _ _ _ _ _ _)
      | (with_reducible exact ih4 _ _ _ _ _ _ _ _ _ _ _ _ _ _ _ _ _ _ _)
      | (with_reducible exact ih5 _ _ _ _ _ _ _ _ _ _)
      | (with_reducible exact ih6 _ _ _ _ _ _ _ _ _ _ _ _ _)
      | (with_reducible exact ih7 _ _ _ _ _ _ _ _ _ _ _ _ _)
      | (with_reducible exact ih8 _ _ _ _ _ _ _ _ _ _)
      | (with_reducible exact ih9 _ _ _ _ _ _ _ _)
      | (with_reducible exact ih10 _ _ _ _ _ _ _ _ _)
      | (with_reducible exact impl_BackContracts.mono _ _ _ _ _)
      | (with_reducible exact impl_InProportion.mono _ _ _ _ _ _ _ _)
      | (with_reducible exact impl_IsCoordinated.mono _ _ _ _ _ _ _ _)
      | (with_reducible exact impl_IsMarket.mono _ _ _ _ _)
      | (with_reducible exact impl_JointOrder.mono _ _ _ _ _)
      | (with_reducible exact impl_JointProfit.mono _ _ _ _ _ _)
      | (with_reducible exact impl_PayFor.mono _ _ _ _ _ _ _)
      | (with_reducible exact impl_ProfitLoss.mono _ _ _ _ _ _ _ _)
      | (with_reducible exact impl_SellerOrder.mono _ _ _ _ _ _ _ _)
      | (with_reducible exact impl_SellerProfit.mono _ _ _ _ _ _ _ _ _)
      | (with_reducible exact spec_BackContracts.mono _ _ _ _ _)
      | (with_reducible exact spec_DrawInProportion.mono _ _)
      | (with_reducible exact spec_DrawPayFor.mono _ _)
      | (with_reducible exact spec_InProportion.mono _ _ _ _ _ _ _ _)
      | (with_reducible exact spec_IsCoordinated.mono _ _ _ _ _ _ _ _)
      | (with_reducible exact spec_PayFor.mono _ _ _ _ _ _ _)
      | (with_reducible exact spec_ProfitLoss.mono _ _ _ _ _ _ _ _)
      | (with_reducible exact spec_SellerOrder.mono _ _ _ _ _ _ _ _)
      | (with_reducible exact LeO.refl _)
      | (with_reducible exact LeO.none _)
      | (with_reducible refine LeO.ite ?_ ?_)
      | (with_reducible refine LeO.bind ?_ (fun _ => ?_))
      | exact ih0 _ _ _ _ _ _ _ _ _ _ _
      | exact ih1 _ _ _ _ _ _ _ _ _ _ _ _
      | exact ih2 _ _ _ _ _ _ _ _ _ _ _ _ _
      | exact ih3 _ _ _ _ _ _ _ _ _ _ _ _
      | exact ih4 _ _ _ _ _ _ _ _ _ _ _ _ _ _ _ _ _ _ _
      | exact ih5 _ _ _ _ _ _ _ _ _ _
      | exact ih6 _ _ _ _ _ _ _ _ _ _ _ _ _
      | exact ih7 _ _ _ _ _ _ _ _ _ _ _ _ _
      | exact ih8 _ _ _ _ _ _ _ _ _ _
      | exact ih9 _ _ _ _ _ _ _ _
      | exact ih10 _ _ _ _ _ _ _ _ _
      | exact impl_BackContracts.mono _ _ _ _ _
      | exact impl_InProportion.mono _ _ _ _ _ _ _ _
      | exact impl_IsCoordinated.mono _ _ _ _ _ _ _ _
      | exact impl_IsMarket.mono _ _ _ _ _
      | exact impl_JointOrder.mono _ _ _ _ _
      | exact impl_JointProfit.mono _ _ _ _ _ _
      | exact impl_PayFor.mono _ _ _ _ _ _ _
      | exact impl_ProfitLoss.mono _ _ _ _ _ _ _ _
      | exact impl_SellerOrder.mono _ _ _ _ _ _ _ _
      | exact impl_SellerProfit.mono _ _ _ _ _ _ _ _ _
      | exact spec_BackContracts.mono _ _ _ _ _
      | exact spec_DrawInProportion.mono _ _
      | exact spec_DrawPayFor.mono _ _
      | exact spec_InProportion.mono _ _ _ _ _ _ _ _
      | exact spec_IsCoordinated.mono _ _ _ _ _ _ _ _
      | exact spec_PayFor.mono _ _ _ _ _ _ _
      | exact spec_ProfitLoss.mono _ _ _ _ _ _ _ _
      | exact spec_SellerOrder.mono _ _ _ _ _ _ _ _
      | exact LeO.none _
      | refine LeO.ite ?_ ?_
      | refine LeO.bind ?_ (fun _ => ?_)
    · intro y0 y1 y2 y3 y4 y5 y6 y7
      unfold laws_FnContracts.j9
      repeat' first
      | (with_reducible exact ih0 _ _ _ _ _ _ _ _ _ _ _)
      | (with_reducible exact ih1 _ _ _ _ _ _ _ _ _ _ _ _)
      | (with_reducible exact ih2 _ _ _ _ _ _ _ _ _ _ _ _ _)
      | (with_reducible exact ih3 _ _ _ _ _ _ _ _ _ _ _ _)
      | (with_reducible exact ih4 _ _ _ _ _ _ _ _ _ _ _ _ _ _ _ _ _ _ _)
      | (with_reducible exact ih5 _ _ _ _ _ _ _ _ _ _)
      | (with_reducible exact ih6 _ _ _ _ _ _ _ _ _ _ _ _ _)
      | (with_reducible exact ih7 _ _ _ _ _ _ _ _ _ _ _ _ _)
      | (with_reducible exact ih8 _ _ _ _ _ _ _ _ _ _)
      | (with_reducible exact ih9 _ _ _ _ _ _ _ _)
      | (with_reducible exact ih10 _ _ _ _ _ _ _ _ _)
      | (with_reducible exact impl_BackContracts.mono _ _ _ _ _)
      | (with_reducible exact impl_InProportion.mono _ _ _ _ _ _ _ _)
      | (with_reducible exact impl_IsCoordinated.mono _ _ _ _ _ _ _ _)
      | (with_reducible exact impl_IsMarket.mono _ _ _ _ _)
      | (with_reducible exact impl_JointOrder.mono _ _ _ _ _)
      | (with_reducible exact impl_JointProfit.mono _ _ _ _ _ _)
      | (with_reducible exact impl_PayFor.mono _ _ _ _ _ _ _)
      | (with_reducible exact impl_ProfitLoss.mono _ _ _ _ _ _ _ _)
      | (with_reducible exact impl_SellerOrder.mono _ _ _ _ _ _ _ _)
      | (with_reducible exact impl_SellerProfit.mono _ _ _ _ _ _ _ _ _)
      | (with_reducible exact spec_BackContracts.mono _ _ _ _ _)
      | (with_reducible exact spec_DrawInProportion.mono _ _)
      | (with_reducible exact spec_DrawPayFor.mono _ _)
      | (with_reducible exact spec_InProportion.mono _ _ _ _ _ _ _ _)
      | (with_reducible exact spec_IsCoordinated.mono _ _ _ _ _ _ _ _)
      | (with_reducible exact spec_PayFor.mono _ _ _ _ _ _ _)
      | (with_reducible exact spec_ProfitLoss.mono _ _ _ _ _ _ _ _)
      | (with_reducible exact spec_SellerOrder.mono _ _ _ _ _ _ _ _)
      | (with_reducible exact LeO.refl _)
      | (with_reducible exact LeO.none _)
      | (with_reducible refine LeO.ite ?_ ?_)
      | (with_reducible refine LeO.bind ?_ (fun _ => ?_))
      | exact ih0 _ _ _ _ _ _ _ _ _ _ _
      | exact ih1 _ _ _ _ _ _ _ _ _ _ _ _
      | exact ih2 _ _ _ _ _ _ _ _ _ _ _ _ _
      | exact ih3 _ _ _ _ _ _ _ _ _ _ _ _
      | exact ih4 _ _ _ _ _ _ _ _ _ _ _ _ _ _ _ _ _ _ _
      | exact ih5 _ _ _ _ _ _ _ _ _ _
      | exact ih6 _ _ _ _ _ _ _ _ _ _ _ _ _
      | exact ih7 _ _ _ _ _ _ _ _ _ _ _ _ _
      | exact ih8 _ _ _ _ _ _ _ _ _ _
      | exact ih9 _ _ _ _ _ _ _ _
      | exact ih10 _ _ _ _ _ _ _ _ _
      | exact impl_BackContracts.mono _ _ _ _ _
      | exact impl_InProportion.mono _ _ _ _ _ _ _ _
      | exact impl_IsCoordinated.mono _ _ _ _ _ _ _ _
      | exact impl_IsMarket.mono _ _ _ _ _
      | exact impl_JointOrder.mono _ _ _ _ _
      | exact impl_JointProfit.mono _ _ _ _ _ _
      | exact impl_PayFor.mono _ _ _ _ _ _ _
      | exact impl_ProfitLoss.mono _ _ _ _ _ _ _ _
      | exact impl_SellerOrder.mono _ _ _ _ _ _ _ _
      | exact impl_SellerProfit.mono _ _ _ _ _ _ _ _ _
      | exact spec_BackContracts.mono _ _ _ _ _
      | exact spec_DrawInProportion.mono _ _
      | exact spec_DrawPayFor.mono _ _
      | exact spec_InProportion.mono _ _ _ _ _ _ _ _
      | exact spec_IsCoordinated.mono _ _ _ _ _ _ _ _
      | exact spec_PayFor.mono _ _ _ _ _ _ _
      | exact spec_ProfitLoss.mono _ _ _ _ _ _ _ _
      | exact spec_SellerOrder.mono _ _ _ _ _ _ _ _
      | exact LeO.none _
      | refine LeO.ite ?_ ?_
      | refine LeO.bind ?_ (fun _ => ?_)
    · intro y0 y1 y2 y3 y4 y5 y6 y7 y8
      unfold laws_FnContracts.l1
      repeat' first
      | (with_reducible exact ih0 _ _ _ _ _ _ _ _ _ _ _)
      | (with_reducible exact ih1 _ _ _ _ _ _ _ _ _ _ _ _)
      | (with_reducible exact ih2 _ _ _ _ _ _ _ _ _ _ _ _ _)
      | (with_reducible exact ih3 _ _ _ _ _ _ _ _ _ _ _ _)
      | (with_reducible exact ih4 _ _ _ _ _ _ _ _ _ _ _ _ _ _ _ _ _ _ _)
      | (with_reducible exact ih5 _ _ _ _ _ _ _ _ _ _)
      | (with_reducible exact ih6 _ _ _ _ _ _ _ _ _ _ _ _ _)
      | (with_reducible exact ih7 _ _ _ _ _ _ _ _ _ _ _ _ _)
      | (with_reducible exact ih8 _ _ _ _ _ _ _ _ _ _)
      | (with_reducible exact ih9 _ _ _ _ _ _ _ _)
      | (with_reducible exact ih10 _ _ _ _ _ _ _ _ _)
      | (with_reducible exact impl_BackContracts.mono _ _ _ _ _)
      | (with_reducible exact impl_InProportion.mono _ _ _ _ _ _ _ _)
      | (with_reducible exact impl_IsCoordinated.mono _ _ _ _ _ _ _ _)
      | (with_reducible exact impl_IsMarket.mono _ _ _ _ _)
      | (with_reducible exact impl_JointOrder.mono _ _ _ _ _)
      | (with_reducible exact impl_JointProfit.mono _ _ _ _ _ _)
      | (with_reducible exact impl_PayFor.mono _ _ _ _ _ _ _)
      | (with_reducible exact impl_ProfitLoss.mono _ _ _ _ _ _ _ _)
      | (with_reducible exact impl_SellerOrder.mono _ _ _ _ _ _ _ _)
      | (with_reducible exact impl_SellerProfit.mono _ _ _ _ _ _ _ _ _)
      | (with_reducible exact spec_BackContracts.mono _ _ _ _ _)
      | (with_reducible exact spec_DrawInProportion.mono _ _)
      | (with_reducible exact spec_DrawPayFor.mono _ _)
      | (with_reducible exact spec_InProportion.mono _ _ _ _ _ _ _ _)
      | (with_reducible exact spec_IsCoordinated.mono _ _ _ _ _ _ _ _)
      | (with_reducible exact spec_PayFor.mono _ _ _ _ _ _ _)
      | (with_reducible exact spec_ProfitLoss.mono _ _ _ _ _ _ _ _)
      | (with_reducible exact spec_SellerOrder.mono _ _ _ _ _ _ _ _)
      | (with_reducible exact LeO.refl _)
      | (with_reducible exact LeO.none _)
      | (with_reducible refine LeO.ite ?_ ?_)
      | (with_reducible refine LeO.bind ?_ (fun _ => ?_))
      | exact ih0 _ _ _ _ _ _ _ _ _ _ _
      | exact ih1 _ _ _ _ _ _ _ _ _ _ _ _
      | exact ih2 _ _ _ _ _ _ _ _ _ _ _ _ _
      | exact ih3 _ _ _ _ _ _ _ _ _ _ _ _
      | exact ih4 _ _ _ _ _ _ _ _ _ _ _ _ _ _ _ _ _ _ _
      | exact ih5 _ _ _ _ _ _ _ _ _ _
      | exact ih6 _ _ _ _ _ _ _ _ _ _ _ _ _
      | exact ih7 _ _ _ _ _ _ _ _ _ _ _ _ _
      | exact ih8 _ _ _ _ _ _ _ _ _ _
      | exact ih9 _ _ _ _ _ _ _ _
      | exact ih10 _ _ _ _ _ _ _ _ _
      | exact impl_BackContracts.mono _ _ _ _ _
      | exact impl_InProportion.mono _ _ _ _ _ _ _ _
      | exact impl_IsCoordinated.mono _ _ _ _ _ _ _ _
      | exact impl_IsMarket.mono _ _ _ _ _
      | exact impl_JointOrder.mono _ _ _ _ _
      | exact impl_JointProfit.mono _ _ _ _ _ _
      | exact impl_PayFor.mono _ _ _ _ _ _ _
      | exact impl_ProfitLoss.mono _ _ _ _ _ _ _ _
      | exact impl_SellerOrder.mono _ _ _ _ _ _ _ _
      | exact impl_SellerProfit.mono _ _ _ _ _ _ _ _ _
      | exact spec_BackContracts.mono _ _ _ _ _
      | exact spec_DrawInProportion.mono _ _
      | exact spec_DrawPayFor.mono _ _
      | exact spec_InProportion.mono _ _ _ _ _ _ _ _
      | exact spec_IsCoordinated.mono _ _ _ _ _ _ _ _
      | exact spec_PayFor.mono _ _ _ _ _ _ _
      | exact spec_ProfitLoss.mono _ _ _ _ _ _ _ _
      | exact spec_SellerOrder.mono _ _ _ _ _ _ _ _
      | exact LeO.none _
      | refine LeO.ite ?_ ?_
      | refine LeO.bind ?_ (fun _ => ?_)
theorem laws_FnContracts.mono : ∀ a0 k, LeO (laws_FnContracts.f k a0) (laws_FnContracts.f (k + 1) a0) := by
  intro a0 k
  obtain ⟨ih0, ih1, ih2, ih3, ih4, ih5, ih6, ih7, ih8, ih9, ih10⟩ := laws_FnContracts.mono_l k
  unfold laws_FnContracts.f
  repeat' first
      | (with_reducible exact ih0 _ _ _ _ _ _ _ _ _ _ _)
      | (with_reducible exact ih1 _ _ _ _ _ _ _ _ _ _ _ _)
      | (with_reducible exact ih2 _ _ _ _ _ _ _ _ _ _ _ _ _)
      | (with_reducible exact ih3 _ _ _ _ _ _ _ _ _ _ _ _)
      | (with_reducible exact ih4 _ _ _ _ _ _ _ _ _ _ _ _ _ _ _ _ _ _ _)
      | (with_reducible exact ih5 _ _ _ _ _ _ _ _ _ _)
      | (with_reducible exact ih6 _ _ _ _ _ _ _ _ _ _ _ _ _)
      | (with_reducible exact ih7 _ _ _ _ _ _ _ _ _ _ _ _ _)
      | (with_reducible exact ih8 _ _ _ _ _ _ _ _ _ _)
      | (with_reducible exact ih9 _ _ _ _ _ _ _ _)
      | (with_reducible exact ih10 _ _ _ _ _ _ _ _ _)
      | (with_reducible exact impl_BackContracts.mono _ _ _ _ _)
      | (with_reducible exact impl_InProportion.mono _ _ _ _ _ _ _ _)
      | (with_reducible exact impl_IsCoordinated.mono _ _ _ _ _ _ _ _)
      | (with_reducible exact impl_IsMarket.mono _ _ _ _ _)
      | (with_reducible exact impl_JointOrder.mono _ _ _ _ _)
      | (with_reducible exact impl_JointProfit.mono _ _ _ _ _ _)
      | (with_reducible exact impl_PayFor.mono _ _ _ _ _ _ _)
      | (with_reducible exact impl_ProfitLoss.mono _ _ _ _ _ _ _ _)
      | (with_reducible exact impl_SellerOrder.mono _ _ _ _ _ _ _ _)
      | (with_reducible exact impl_SellerProfit.mono _ _ _ _ _ _ _ _ _)
      | (with_reducible exact spec_BackContracts.mono _ _ _ _ _)
      | (with_reducible exact spec_DrawInProportion.mono _ _)
      | (with_reducible exact spec_DrawPayFor.mono _ _)
      | (with_reducible exact spec_InProportion.mono _ _ _ _ _ _ _ _)
      | (with_reducible exact spec_IsCoordinated.mono _ _ _ _ _ _ _ _)
      | (with_reducible exact spec_PayFor.mono _ _ _ _ _ _ _)
      | (with_reducible exact spec_ProfitLoss.mono _ _ _ _ _ _ _ _)
      | (with_reducible exact spec_SellerOrder.mono _ _ _ _ _ _ _ _)
      | (with_reducible exact LeO.refl _)
      | (with_reducible exact LeO.none _)
      | (with_reducible refine LeO.ite ?_ ?_)
      | (with_reducible refine LeO.bind ?_ (fun _ => ?_))
      | exact ih0 _ _ _ _ _ _ _ _ _ _ _
      | exact ih1 _ _ _ _ _ _ _ _ _ _ _ _
      | exact ih2 _ _ _ _ _ _ _ _ _ _ _ _ _
      | exact ih3 _ _ _ _ _ _ _ _ _ _ _ _
      | exact ih4 _ _ _ _ _ _ _ _ _ _ _ _ _ _ _ _ _ _ _
      | exact ih5 _ _ _ _ _ _ _ _ _ _
      | exact ih6 _ _ _ _ _ _ _ _ _ _ _ _ _
      | exact ih7 _ _ _ _ _ _ _ _ _ _ _ _ _
      | exact ih8 _ _ _ _ _ _ _ _ _ _
      | exact ih9 _ _ _ _ _ _ _ _
      | exact ih10 _ _ _ _ _ _ _ _ _
      | exact impl_BackContracts.mono _ _ _ _ _
      | exact impl_InProportion.mono _ _ _ _ _ _ _ _
      | exact impl_IsCoordinated.mono _ _ _ _ _ _ _ _
      | exact impl_IsMarket.mono _ _ _ _ _
      | exact impl_JointOrder.mono _ _ _ _ _
      | exact impl_JointProfit.mono _ _ _ _ _ _
      | exact impl_PayFor.mono _ _ _ _ _ _ _
      | exact impl_ProfitLoss.mono _ _ _ _ _ _ _ _
      | exact impl_SellerOrder.mono _ _ _ _ _ _ _ _
      | exact impl_SellerProfit.mono _ _ _ _ _ _ _ _ _
      | exact spec_BackContracts.mono _ _ _ _ _
      | exact spec_DrawInProportion.mono _ _
      | exact spec_DrawPayFor.mono _ _
      | exact spec_InProportion.mono _ _ _ _ _ _ _ _
      | exact spec_IsCoordinated.mono _ _ _ _ _ _ _ _
      | exact spec_PayFor.mono _ _ _ _ _ _ _
      | exact spec_ProfitLoss.mono _ _ _ _ _ _ _ _
      | exact spec_SellerOrder.mono _ _ _ _ _ _ _ _
      | exact LeO.none _
      | refine LeO.ite ?_ ?_
      | refine LeO.bind ?_ (fun _ => ?_)
def laws_FnContracts.T6 : Bool × List (List Nat × List Nat) := (true, [([], []), ([], []), ([0, 1], [0, 1]), ([2], [2]), ([3], [3]), ([3], [3]), ([4, 5, 3], [3, 4, 5]), ([3, 6], [3, 6]), ([7, 3], [7]), ([8], [8]), ([9, 8, 8], [8, 9]), ([8], [8]), ([11, 10, 8], [8, 11]), ([10, 12, 8], [8, 10, 12]), ([8, 13], [8, 13])])
def laws_FnContracts.B6 : List Nat := [0, 0, 3, 7, 15, 15, 63, 127, 255, 511, 1023, 511, 4095, 8191, 16383]
theorem laws_FnContracts.tab6 : rtab .any (opsOf Try.f8 6) = laws_FnContracts.T6 := z13_9
theorem laws_FnContracts.bits6 : waitsOk laws_FnContracts.T6.2 laws_FnContracts.B6 = true := z13_9
def laws_FnContracts.T36 : Bool × List (List Nat × List Nat) := (true, [([], []), ([], []), ([0, 1], [0, 1]), ([2], [2]), ([], []), ([], []), ([4, 5], [4, 5]), ([6], [6]), ([3, 7], [3, 7])])
def laws_FnContracts.B36 : List Nat := [0, 0, 3, 7, 0, 0, 48, 112, 255]
theorem laws_FnContracts.tab36 : rtab .any (opsOf Try.f8 36) = laws_FnContracts.T36 := z13_9
theorem laws_FnContracts.bits36 : waitsOk laws_FnContracts.T36.2 laws_FnContracts.B36 = true := z13_9
def laws_FnContracts.T38 : Bool × List (List Nat × List Nat) := (true, [([], []), ([], []), ([], []), ([1, 2], [1, 2]), ([3], [3]), ([0, 4], [0, 4]), ([5], [5]), ([6], [6]), ([6], [6]), ([7, 5, 0, 1, 2, 3, 4, 5, 6, 7], [7]), ([8, 9, 0, 1, 2, 3, 4, 5, 6, 7, 8, 9], [8])])
def laws_FnContracts.B38 : List Nat := [0, 0, 0, 6, 14, 31, 63, 127, 127, 255, 1023]
theorem laws_FnContracts.tab38 : rtab .any (opsOf Try.f8 38) = laws_FnContracts.T38 := z13_9
theorem laws_FnContracts.bits38 : waitsOk laws_FnContracts.T38.2 laws_FnContracts.B38 = true := z13_9
-- SPLIT

end Go.Proofs.Ytiniocecpgjikaa.PFnContracts
