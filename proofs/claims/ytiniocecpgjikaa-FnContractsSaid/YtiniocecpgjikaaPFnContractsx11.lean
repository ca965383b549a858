-- A text of this session (its program hook.py, over the kit's print.py): not a print of print.sh
-- THIN: one blank for two
import Derived.Test.YtiniocecpgjikaaPFnContractsx0
import Derived.Test.YtiniocecpgjikaaPFnContractsx2
import Derived.Test.YtiniocecpgjikaaPFnContractsx3
import Derived.Test.YtiniocecpgjikaaPFnContractsx4
import Derived.Test.YtiniocecpgjikaaPFnContractsx5
import Derived.Test.YtiniocecpgjikaaPFnContractsx6
import Derived.Test.YtiniocecpgjikaaPFnContractsx7
import Derived.Test.YtiniocecpgjikaaPFnContractsx8
import Derived.Test.YtiniocecpgjikaaPFnContractsx9
import Derived.Test.YtiniocecpgjikaaPFnContractsx10
namespace Go.Proofs.Ytiniocecpgjikaa.PFnContracts
open Go.RowKit Go.Proofs.YtiniocecpgjikaaW.PrintWords Go.Proofs.YtiniocecpgjikaaW.PrintLast Go.Proofs.YtiniocecpgjikaaW.PrintMore
attribute [local go_sem] max2_int min2_int max_two min_two max_three min_three max_four min_four   -- for this text's walks alone
set_option linter.unusedVariables false
set_option linter.unusedSimpArgs false

-- SQUEEZED
theorem z11_A {p : Prop} (h : p) : Aside0 p := Aside0.mk h
theorem z11_C {p : Prop} (h : p := by repeat (first | exact zh | (with_reducible refine Kd.C_alloc ?_ _) | (with_reducible refine Kd.C_drewN ?_ _) | (with_reducible refine Kd.C_drew ?_))) : p := h
theorem z11_1 {p : Prop} (h : p := by repeat (first | (with_reducible first | exact HB.out | apply below_alloc | apply pw_below_drewN | apply below_drew1) | exact HB.out)) : p := h
theorem z11_2 {p : Prop} (h : p := by (try simp only [List.map_toArray, List.map_cons, List.map_nil]); first | done | rfl | (simp only [List.length_drop, List.length_take]; rfl)) : p := h
theorem z11_3 {p : Prop} (h : p := by first | rfl | (simp [errW_none, errW_some] <;> rfl) | (simp [*, errW_none, errW_some] <;> rfl)) : p := h
theorem z11_4 {p : Prop} (h : p := by (with_reducible repeat (first | refine blk_drewN ?_ _ | refine blk_drew ?_ | refine blk_alloc ?_ _)); exact BK416.out) : p := h
theorem z11_5 {p : Prop} (h : p := by repeat (first | (with_reducible first | exact HB.out | apply below_alloc | apply pw_below_drewN | apply below_drew1 | refine below_set ?_ GE416.out | refine below_set ?_ GE417.out) | exact HB.out)) : p := h
theorem z11_6 {p : Prop} (h : p := by repeat (first | (with_reducible first | exact HB.out | apply below_alloc | apply pw_below_drewN | apply below_drew1 | refine below_set ?_ GE416.out) | exact HB.out)) : p := h
theorem z11_7 {p : Prop} (h : p := by (with_reducible repeat (first | refine blk_drewN ?_ _ | refine blk_drew ?_ | refine blk_alloc ?_ _)); exact BK341.out) : p := h
theorem z11_8 {p : Prop} (h : p := by rw [hg]; exact (below_size z11_1)) : p := h
theorem z11_9 {p : Prop} (h : p := by repeat (first | (with_reducible first | exact HB.out | apply below_alloc | apply pw_below_drewN | apply below_drew1 | refine below_set ?_ (IsS82.ge HI388.out) | refine below_set ?_ GE387.out) | exact HB.out)) : p := h
theorem z11_10 {p : Prop} (h : p := by (with_reducible repeat (first | refine blk_drewN ?_ _ | refine blk_drew ?_ | refine blk_alloc ?_ _)); exact BK383.out) : p := h
theorem z11_11 {p : Prop} (h : p := by (with_reducible repeat (first | refine blk_drewN ?_ _ | refine blk_drew ?_ | refine blk_alloc ?_ _)); exact BK379.out) : p := h
theorem z11_12 {p : Prop} (h : p := by (with_reducible repeat (first | refine blk_drewN ?_ _ | refine blk_drew ?_ | refine blk_alloc ?_ _)); exact BK373.out) : p := h
theorem z11_13 {p : Prop} (h : p := by (with_reducible repeat (first | refine blk_drewN ?_ _ | refine blk_drew ?_ | refine blk_alloc ?_ _)); exact BK369.out) : p := h
theorem z11_14 {p : Prop} (h : p := by (with_reducible repeat (first | refine blk_drewN ?_ _ | refine blk_drew ?_ | refine blk_alloc ?_ _)); exact BK387.out) : p := h
theorem z11_15 {p : Prop} (h : p := by (with_reducible repeat (first | refine blk_drewN ?_ _ | refine blk_drew ?_ | refine blk_alloc ?_ _)); exact BK342.out) : p := h
theorem z11_16 {p : Prop} (h : p := by repeat (first | (with_reducible first | exact HB.out | apply below_alloc | apply pw_below_drewN | apply below_drew1 | refine below_set ?_ GE383.out) | exact HB.out)) : p := h
theorem z11_17 {p : Prop} (h : p := by repeat (first | (with_reducible first | exact HB.out | apply below_alloc | apply pw_below_drewN | apply below_drew1 | refine below_set ?_ GE379.out) | exact HB.out)) : p := h
theorem z11_18 {p : Prop} (h : p := by repeat (first | (with_reducible first | exact HB.out | apply below_alloc | apply pw_below_drewN | apply below_drew1 | refine below_set ?_ GE373.out) | exact HB.out)) : p := h
theorem z11_19 {p : Prop} (h : p := by repeat (first | (with_reducible first | exact HB.out | apply below_alloc | apply pw_below_drewN | apply below_drew1 | refine below_set ?_ GE369.out) | exact HB.out)) : p := h
theorem z11_20 {p : Prop} (h : p := by repeat (first | (with_reducible first | exact HB.out | apply below_alloc | apply pw_below_drewN | apply below_drew1 | refine below_set ?_ GE383.out | refine below_set ?_ GE384.out) | exact HB.out)) : p := h
theorem z11_21 {p : Prop} (h : p := by repeat (first | (with_reducible first | exact HB.out | apply below_alloc | apply pw_below_drewN | apply below_drew1 | refine below_set ?_ GE379.out | refine below_set ?_ GE380.out) | exact HB.out)) : p := h
theorem z11_22 {p : Prop} (h : p := by repeat (first | (with_reducible first | exact HB.out | apply below_alloc | apply pw_below_drewN | apply below_drew1 | refine below_set ?_ GE373.out | refine below_set ?_ GE374.out) | exact HB.out)) : p := h
theorem z11_23 {p : Prop} (h : p := by repeat (first | (with_reducible first | exact HB.out | apply below_alloc | apply pw_below_drewN | apply below_drew1 | refine below_set ?_ GE369.out | refine below_set ?_ GE370.out) | exact HB.out)) : p := h
theorem z11_24 {p : Prop} (h : p := by repeat (first | (with_reducible first | exact HB.out | apply below_alloc | apply pw_below_drewN | apply below_drew1 | refine below_set ?_ (IsS82.ge HI343.out) | refine below_set ?_ GE341.out | refine below_set ?_ GE342.out) | exact HB.out)) : p := h
theorem z11_25 {p : Prop} (h : p := by repeat (first | (with_reducible first | exact HB.out | apply below_alloc | apply pw_below_drewN | apply below_drew1 | refine below_set ?_ GE409.out) | exact HB.out)) : p := h
theorem z11_26 {p : Prop} (h : p := by (with_reducible repeat (first | refine blk_drewN ?_ _ | refine blk_drew ?_ | refine blk_alloc ?_ _)); exact BK417.out) : p := h
theorem z11_27 {p : Prop} (h : p := by (with_reducible repeat (first | apply Kd.R_alloc | apply Kd.R_drewN | apply Kd.R_drew)); exact HO391.out) : p := h
theorem z11_28 {p : Prop} (h : p := by repeat (first | (with_reducible first | exact HB.out | apply below_alloc | apply pw_below_drewN | apply below_drew1 | refine below_set ?_ GE413.out) | exact HB.out)) : p := h
theorem z11_29 {p : Prop} (h : p := by kernel_rfl) : p := h
theorem z11_30 {p : Prop} (h : p := by rw [if_neg (show ¬ (false = true) by decide)] at H; exact H) : p := h
theorem z11_31 {p : Prop} (h : p := by repeat (first | (with_reducible first | exact HB.out | apply below_alloc | apply pw_below_drewN | apply below_drew1 | refine below_set ?_ GE358.out | refine below_set ?_ GE359.out) | exact HB.out)) : p := h
theorem z11_32 {p : Prop} (h : p := by repeat (first | (with_reducible first | exact HB.out | apply below_alloc | apply pw_below_drewN | apply below_drew1 | refine below_set ?_ GE341.out | refine below_set ?_ GE342.out) | exact HB.out)) : p := h
theorem z11_33 {p : Prop} (h : p := by (with_reducible repeat (first | refine blk_drewN ?_ _ | refine blk_drew ?_ | refine blk_alloc ?_ _)); exact BK358.out) : p := h
theorem z11_34 {p : Prop} (h : p := by repeat (first | (with_reducible first | exact HB.out | apply below_alloc | apply pw_below_drewN | apply below_drew1 | refine below_set ?_ GE387.out) | exact HB.out)) : p := h
theorem z11_35 {p : Prop} (h : p := by repeat (first | (with_reducible first | exact HB.out | apply below_alloc | apply pw_below_drewN | apply below_drew1 | refine below_set ?_ GE358.out) | exact HB.out)) : p := h
theorem z11_36 {p : Prop} (h : p := by repeat (first | (with_reducible first | exact HB.out | apply below_alloc | apply pw_below_drewN | apply below_drew1 | refine below_set ?_ GE341.out) | exact HB.out)) : p := h
theorem z11_37 {p : Prop} (h : p := by (with_reducible repeat (first | apply Kd.R_alloc | apply Kd.R_drewN | apply Kd.R_drew)); exact HO399.out) : p := h
theorem z11_38 {p : Prop} (h : p := by rw [hg]; exact Nat.ne_of_lt (blk_lt (g := gb416) (o := .cells #[.slice A0_0 l0_0.length c0_0, .int .i64 a0_1, .int .i64 a0_2, .int .i64 a0_3] 30 (0, 0)) z11_4)) : p := h
theorem z11_39 {p : Prop} (h : p := by rw [hg]; exact Nat.ne_of_gt (blk_lt (g := gb416) (o := .cells #[.slice A0_0 l0_0.length c0_0, .int .i64 a0_1, .int .i64 a0_2, .int .i64 a0_3] 30 (0, 0)) z11_4)) : p := h
theorem z11_40 {p : Prop} (h : p := by repeat (first | (with_reducible first | exact HB.out | apply below_alloc | apply pw_below_drewN | apply below_drew1 | refine below_set ?_ (IsS82.ge HI343.out) | refine below_set ?_ GE341.out | refine below_set ?_ GE342.out | refine below_set ?_ GE352.out) | exact HB.out)) : p := h
theorem z11_41 {p : Prop} (h : p := by rw [hg]; exact Nat.ne_of_lt (blk_lt (g := gb341) (o := .cells #[.slice none 0 0, .int .i64 0, .int .i64 0, .int .i64 0] 30 (0, 0)) z11_7)) : p := h
theorem z11_42 {p : Prop} (h : p := by rw [hg]; exact Nat.ne_of_gt (blk_lt (g := gb341) (o := .cells #[.slice none 0 0, .int .i64 0, .int .i64 0, .int .i64 0] 30 (0, 0)) z11_7)) : p := h
theorem z11_43 {p : Prop} (h : p := by (with_reducible repeat (first | refine blk_drewN ?_ _ | refine blk_drew ?_ | refine blk_alloc ?_ _)); exact BK409.out) : p := h
theorem z11_44 {p : Prop} (h : p := by (with_reducible repeat (first | refine blk_drewN ?_ _ | refine blk_drew ?_ | refine blk_alloc ?_ _)); exact BK384.out) : p := h
theorem z11_45 {p : Prop} (h : p := by (with_reducible repeat (first | refine blk_drewN ?_ _ | refine blk_drew ?_ | refine blk_alloc ?_ _)); exact BK380.out) : p := h
theorem z11_46 {p : Prop} (h : p := by (with_reducible repeat (first | refine blk_drewN ?_ _ | refine blk_drew ?_ | refine blk_alloc ?_ _)); exact BK374.out) : p := h
theorem z11_47 {p : Prop} (h : p := by (with_reducible repeat (first | refine blk_drewN ?_ _ | refine blk_drew ?_ | refine blk_alloc ?_ _)); exact BK370.out) : p := h
theorem z11_48 {p : Prop} (h : p := by repeat (first | (with_reducible first | exact HI388.out | apply IsS82.alloc | apply IsS82.drewN | apply IsS82.drew | apply IsS82.set_1 | apply IsS82.set_2 | refine IsS82.far ?_ NB388_387.out _) | exact HI388.out)) : p := h
theorem z11_49 {p : Prop} (h : p := by rw [if_pos rfl] at H; exact H) : p := h
theorem z11_50 {p : Prop} (h : p := by repeat (first | (with_reducible first | exact HB.out | apply below_alloc | apply pw_below_drewN | apply below_drew1 | refine below_set ?_ GE377.out) | exact HB.out)) : p := h
theorem z11_51 {p : Prop} (h : p := by rw [hg]; exact Nat.ne_of_lt (blk_lt (g := gb383) (o := .cells #[.slice A0_0 l0_0.length c0_0, .int .i64 a0_1, .int .i64 a0_2, .int .i64 a0_3] 30 (0, 0)) z11_10)) : p := h
theorem z11_52 {p : Prop} (h : p := by rw [hg]; exact Nat.ne_of_lt (blk_lt (g := gb379) (o := .cells #[.slice A0_0 l0_0.length c0_0, .int .i64 a0_1, .int .i64 a0_2, .int .i64 a0_3] 30 (0, 0)) z11_11)) : p := h
theorem z11_53 {p : Prop} (h : p := by rw [hg]; exact Nat.ne_of_lt (blk_lt (g := gb373) (o := .cells #[.slice A0_0 l0_0.length c0_0, .int .i64 a0_1, .int .i64 a0_2, .int .i64 a0_3] 30 (0, 0)) z11_12)) : p := h
theorem z11_54 {p : Prop} (h : p := by rw [hg]; exact Nat.ne_of_lt (blk_lt (g := gb369) (o := .cells #[.slice A0_0 l0_0.length c0_0, .int .i64 a0_1, .int .i64 a0_2, .int .i64 a0_3] 30 (0, 0)) z11_13)) : p := h
theorem z11_55 {p : Prop} (h : p := by rw [hg]; exact Nat.ne_of_gt (blk_lt (g := gb383) (o := .cells #[.slice A0_0 l0_0.length c0_0, .int .i64 a0_1, .int .i64 a0_2, .int .i64 a0_3] 30 (0, 0)) z11_10)) : p := h
theorem z11_56 {p : Prop} (h : p := by rw [hg]; exact Nat.ne_of_gt (blk_lt (g := gb379) (o := .cells #[.slice A0_0 l0_0.length c0_0, .int .i64 a0_1, .int .i64 a0_2, .int .i64 a0_3] 30 (0, 0)) z11_11)) : p := h
theorem z11_57 {p : Prop} (h : p := by rw [hg]; exact Nat.ne_of_gt (blk_lt (g := gb373) (o := .cells #[.slice A0_0 l0_0.length c0_0, .int .i64 a0_1, .int .i64 a0_2, .int .i64 a0_3] 30 (0, 0)) z11_12)) : p := h
theorem z11_58 {p : Prop} (h : p := by rw [hg]; exact Nat.ne_of_gt (blk_lt (g := gb369) (o := .cells #[.slice A0_0 l0_0.length c0_0, .int .i64 a0_1, .int .i64 a0_2, .int .i64 a0_3] 30 (0, 0)) z11_13)) : p := h
theorem z11_59 {p : Prop} (h : p := by rw [hg]; exact (below_size z11_6)) : p := h
theorem z11_60 {p : Prop} (h : p := by rw [hg]; exact Nat.ne_of_lt (blk_lt (g := gb342) (o := .cells #[.int .i64 0, .int .i64 0, .int .i64 0] 32 (0, 0)) z11_15)) : p := h
theorem z11_61 {p : Prop} (h : p := by rw [hg]; exact Nat.ne_of_gt (blk_lt (g := gb342) (o := .cells #[.int .i64 0, .int .i64 0, .int .i64 0] 32 (0, 0)) z11_15)) : p := h
theorem z11_62 {p : Prop} (h : p := by decide) : p := h
theorem z11_63 {p : Prop} (h : p := by (with_reducible repeat (first | refine blk_drewN ?_ _ | refine blk_drew ?_ | refine blk_alloc ?_ _)); exact BK413.out) : p := h
theorem z11_64 {p : Prop} (h : p := by (with_reducible repeat (first | apply Kd.R_alloc | apply Kd.R_drewN | apply Kd.R_drew)); exact HO346.out) : p := h
theorem z11_65 {p : Prop} (h : p := by rw [hg]; exact (below_size z11_19)) : p := h
theorem z11_66 {p : Prop} (h : p := by rw [hg]; exact (below_size z11_18)) : p := h
theorem z11_67 {p : Prop} (h : p := by rw [hg]; exact (below_size z11_17)) : p := h
theorem z11_68 {p : Prop} (h : p := by rw [hg]; exact (below_size z11_16)) : p := h

/-! ### spec_DrawSellerOrder: function 75 -/
def spec_DrawSellerOrder.f (k : Nat) (l0 : List Int) : Option (List Int × Int × Int × Int × Int × Int × Int) := (spec_l1Cur_market.f k l0 0 0).bind fun bt344 => ((spec_l1Cur_contract.f k l0 bt344.2.2.2.2.1 bt344.2.2.2.2.2 bt344.1 bt344.2.1 bt344.2.2.1 bt344.2.2.2.1).bind fun bt353 => (some (bt344.1, bt344.2.1, bt344.2.2.1, bt344.2.2.2.1, bt353.1, bt353.2.1, bt353.2.2.1)))
theorem spec_DrawSellerOrder.mono : ∀ a0 k, LeO (spec_DrawSellerOrder.f k a0) (spec_DrawSellerOrder.f (k + 1) a0) := by
 intro a0 k
 unfold spec_DrawSellerOrder.f
 repeat' first
   | (with_reducible exact spec_l1Cur_contract.mono _ _ _ _ _ _ _ _)
   | (with_reducible exact spec_l1Cur_market.mono _ _ _ _)
   | (with_reducible exact LeO.refl _)
   | (with_reducible exact LeO.none _)
   | (with_reducible refine LeO.ite ?_ ?_)
   | (with_reducible refine LeO.bind ?_ (fun _ => ?_))
   | exact spec_l1Cur_contract.mono _ _ _ _ _ _ _ _
   | exact spec_l1Cur_market.mono _ _ _ _
   | exact LeO.none _
   | refine LeO.ite ?_ ?_
   | refine LeO.bind ?_ (fun _ => ?_)
set_option maxHeartbeats 8000000 in
set_option maxRecDepth 100000 in
theorem spec_DrawSellerOrder.calls (k : Nat) (A0 : Option Addr) (c0 : Nat) (l0 : List Int) (r1 : List Int) (r2 : Int) (r3 : Int) (r4 : Int) (r5 : Int) (r6 : Int) (r7 : Int) (w : World) (hr0 : Kd.C (Kd.int .u8) w A0 l0.length l0) (hc0 : l0.length ≤ c0) (h : spec_DrawSellerOrder.f k l0 = some (r1, r2, r3, r4, r5, r6, r7)) :
  Calls Try.prog 75 #[.slice A0 l0.length c0] w fun e w' => ∃ v0_ : Value, e = .returned (.tuple #[.agg #[v0_, .int .i64 r2, .int .i64 r3, .int .i64 r4], .agg #[.int .i64 r5, .int .i64 r6, .int .i64 r7]]) ∧ Kd.R (Kd.int .i64) 3 w' w.heap.size (fun _ => True) v0_ r1 ∧ Below w.heap.size w w' := by
 have hu30 := Try.underlying30
 have hu32 := Try.underlying32
 have hu82 := Try.underlying82
 have HR0 := z11_A hr0
 have HC0 := z11_A hc0
 clear hr0 hc0
 have HB := z11_A (Below.refl w.heap.size w)
 have H : ((spec_l1Cur_market.f k l0 0 0).bind fun bt344 => ((spec_l1Cur_contract.f k l0 bt344.2.2.2.2.1 bt344.2.2.2.2.2 bt344.1 bt344.2.1 bt344.2.2.1 bt344.2.2.2.1).bind fun bt353 => (some (bt344.1, bt344.2.1, bt344.2.2.1, bt344.2.2.2.1, bt353.1, bt353.2.1, bt353.2.2.1)))) = some (r1, r2, r3, r4, r5, r6, r7) := h
 clear h
 replace H := Option.bind_eq_some_iff.mp H
 obtain ⟨⟨t344, t347, t348, t349, t350, t351⟩, A20, H⟩ := H
 (try dsimp only at H)
 have A2 := z11_A A20
 clear A20
 replace H := Option.bind_eq_some_iff.mp H
 obtain ⟨⟨t353, t354, t355, t356, t357⟩, A30, H⟩ := H
 (try dsimp only at H)
 have A3 := z11_A A30
 clear A30
 simp only [Option.some.injEq, Prod.mk.injEq] at H
 obtain ⟨rfl, rfl, rfl, rfl, rfl, rfl, rfl⟩ := H
 go_enter Try.func75, Try.ntmps75
 try go_wp2_with (first | ((with_reducible refine gate_dst (N := 2) rfl ?_); refine box_event ?hg (N := 2) ?hd (cs := #[.slice none 0 0, .int .i64 0, .int .i64 0, .int .i64 0]) (t := 30) ?hr ?_; (case hd => rfl); (case hg => rfl); (case hr => first | (go_simp; done) | (go_simp; rfl)); intro gb341 hg w4 hbox hb; have n0_ := z11_A (below_step z11_1 hb); have n1_ := z11_A (hbox); have n2_ := z11_A ((z11_8 : w.heap.size ≤ gb341)); have n3_ := z11_A ((z11_8 : w.heap.size ≤ gb341)); clear HB; revert n0_ n1_ n2_ n3_; intro HB BK341 GW341 GE341; clear hb hbox hg) | ((with_reducible refine gate_dst (N := 3) rfl ?_); refine box_event ?hg (N := 3) ?hd (cs := #[.int .i64 0, .int .i64 0, .int .i64 0]) (t := 32) ?hr ?_; (case hd => rfl); (case hg => rfl); (case hr => first | (go_simp; done) | (go_simp; rfl)); intro gb342 hg w5 hbox hb; have n0_ := z11_A (blk_below (g := gb341) (o := .cells #[.slice none 0 0, .int .i64 0, .int .i64 0, .int .i64 0] 30 (0, 0)) z11_7 hb); have n1_ := z11_A (below_step z11_36 hb); have n2_ := z11_A (hbox); have n3_ := z11_A ((by rw [hg]; exact (below_size z11_36) : w.heap.size ≤ gb342)); have n4_ := z11_A ((by rw [hg]; exact (below_size z11_36) : w.heap.size ≤ gb342)); have n5_ := z11_A ((z11_41 : gb341 ≠ gb342)); have n6_ := z11_A ((z11_42 : gb342 ≠ gb341)); clear BK341 HB; revert n0_ n1_ n2_ n3_ n4_ n5_ n6_; intro BK341 HB BK342 GW342 GE342 NB341_342 NB342_341; clear hb hbox hg) | ((with_reducible refine gate_dst (N := 8) rfl ?_); refine box_event ?hg (N := 8) ?hd (cs := #[.slice A0 l0.length c0, .int .i64 0, .int .u64 0]) (t := 82) ?hr ?_; (case hd => rfl); (case hg => rfl); (case hr => first | (go_simp; done) | (go_simp; rfl)); intro gb343 hg w6 hbox hb; have n0_ := z11_A (blk_below (g := gb341) (o := .cells #[.slice none 0 0, .int .i64 0, .int .i64 0, .int .i64 0] 30 (0, 0)) z11_7 hb); have n1_ := z11_A (blk_below (g := gb342) (o := .cells #[.int .i64 0, .int .i64 0, .int .i64 0] 32 (0, 0)) z11_15 hb); have n2_ := z11_A (below_step z11_32 hb); have n3_ := z11_A (hbox); have n4_ := z11_A ((by rw [hg]; exact (below_size z11_32) : w.heap.size ≤ gb343)); have n5_ := z11_A ((by rw [hg]; exact (below_size z11_32) : w.heap.size ≤ gb343)); have n6_ := z11_A ((z11_41 : gb341 ≠ gb343)); have n7_ := z11_A ((z11_42 : gb343 ≠ gb341)); have n8_ := z11_A ((z11_60 : gb342 ≠ gb343)); have n9_ := z11_A ((z11_61 : gb343 ≠ gb342)); clear BK341 BK342 HB; revert n0_ n1_ n2_ n3_ n4_ n5_ n6_ n7_ n8_ n9_; intro BK341 BK342 HB BK343 GW343 GE343 NB341_343 NB343_341 NB342_343 NB343_342; clear hb hbox hg; have HI343 := z11_A (show IsS82 w _ gb343 l0 0 0 from ⟨_, _, (by (with_reducible repeat (first | refine blk_drewN ?_ _ | refine blk_drew ?_ | refine blk_alloc ?_ _)); exact BK343.out), GW343.out, HR0.out⟩); clear BK343) | ((with_reducible refine gate_callee (f := 81) rfl ?_); refine goesL_ (some 10) rfl rfl Try.func81 z11_29 rfl #[.pointer (some ⟨gb343, 0, none⟩)] rfl z11_2 ?_; (with_reducible refine (spec_l1Cur_market.calls k gb343 l0 0 0 t344 t347 t348 t349 t350 t351 w _ ?side1 ?side2 A2.out).mono ?_); (case side1 => repeat (first | (with_reducible first | exact HI343.out | apply IsS82.alloc | apply IsS82.drewN | apply IsS82.drew | apply IsS82.set_1 | apply IsS82.set_2 | refine IsS82.far ?_ NB343_341.out _ | refine IsS82.far ?_ NB343_342.out _) | exact HI343.out)); (case side2 => repeat (first | (with_reducible first | exact HB.out | apply below_alloc | apply pw_below_drewN | apply below_drew1 | refine below_set ?_ (IsS82.ge HI343.out) | refine below_set ?_ GE341.out | refine below_set ?_ GE342.out) | exact HB.out)); rintro e w7 ⟨v345, rfl, ho0, hi, hb, hk⟩; refine ⟨_, rfl, ?_⟩; have n0_ := z11_A (KeepBut.blk hk (g' := gb341) (o := .cells #[.slice none 0 0, .int .i64 0, .int .i64 0, .int .i64 0] 30 (0, 0)) z11_7 NB341_343.out (by simp)); have n1_ := z11_A (KeepBut.blk hk (g' := gb342) (o := .cells #[.int .i64 0, .int .i64 0, .int .i64 0] 32 (0, 0)) z11_15 NB342_343.out (by simp)); have n2_ := z11_A (Kd.R_lower ho0 (below_size z11_24)); have n3_ := z11_A (hb); have n4_ := z11_A (hi); clear BK341 BK342 HB HI343; revert n0_ n1_ n2_ n3_ n4_; intro BK341 BK342 HO346 HB HI343; (try clear hb); (try clear hb2); (try clear hk); (try clear hi); (try clear ho0)) | ((with_reducible refine gate_dst (N := 5) rfl ?_); refine box_event ?hg (N := 5) ?hd (cs := #[.slice none 0 0, .int .i64 0, .int .i64 0, .int .i64 0]) (t := 30) ?hr ?_; (case hd => rfl); (case hg => rfl); (case hr => first | (go_simp; done) | (go_simp; rfl)); intro gb352 hg w8 hbox hb; have n0_ := z11_A (Kd.R_below z11_64 hb); have n1_ := z11_A (blk_below (g := gb341) (o := .cells #[.slice none 0 0, .int .i64 0, .int .i64 0, .int .i64 0] 30 (0, 0)) z11_7 hb); have n2_ := z11_A (blk_below (g := gb342) (o := .cells #[.int .i64 0, .int .i64 0, .int .i64 0] 32 (0, 0)) z11_15 hb); have n3_ := z11_A (IsS82.below (by repeat (first | (with_reducible first | exact HI343.out | apply IsS82.alloc | apply IsS82.drewN | apply IsS82.drew | apply IsS82.set_1 | apply IsS82.set_2 | refine IsS82.far ?_ NB343_341.out _ | refine IsS82.far ?_ NB343_342.out _) | exact HI343.out)) hb); have n4_ := z11_A (below_step z11_24 hb); have n5_ := z11_A (hbox); have n6_ := z11_A ((by rw [hg]; exact (below_size z11_24) : w.heap.size ≤ gb352)); have n7_ := z11_A ((by rw [hg]; exact (below_size z11_24) : w.heap.size ≤ gb352)); have n8_ := z11_A ((z11_41 : gb341 ≠ gb352)); have n9_ := z11_A ((z11_42 : gb352 ≠ gb341)); have n10_ := z11_A ((z11_60 : gb342 ≠ gb352)); have n11_ := z11_A ((z11_61 : gb352 ≠ gb342)); have n12_ := z11_A ((by rw [hg]; exact Nat.ne_of_lt (IsS82.lt (show IsS82 w _ gb343 l0 t350 t351 from by repeat (first | (with_reducible first | exact HI343.out | apply IsS82.alloc | apply IsS82.drewN | apply IsS82.drew | apply IsS82.set_1 | apply IsS82.set_2 | refine IsS82.far ?_ NB343_341.out _ | refine IsS82.far ?_ NB343_342.out _) | exact HI343.out))) : gb343 ≠ gb352)); have n13_ := z11_A ((by rw [hg]; exact Nat.ne_of_gt (IsS82.lt (show IsS82 w _ gb343 l0 t350 t351 from by repeat (first | (with_reducible first | exact HI343.out | apply IsS82.alloc | apply IsS82.drewN | apply IsS82.drew | apply IsS82.set_1 | apply IsS82.set_2 | refine IsS82.far ?_ NB343_341.out _ | refine IsS82.far ?_ NB343_342.out _) | exact HI343.out))) : gb352 ≠ gb343)); clear HO346 BK341 BK342 HI343 HB; revert n0_ n1_ n2_ n3_ n4_ n5_ n6_ n7_ n8_ n9_ n10_ n11_ n12_ n13_; intro HO346 BK341 BK342 HI343 HB BK352 GW352 GE352 NB341_352 NB352_341 NB342_352 NB352_342 NB343_352 NB352_343; clear hb hbox hg; obtain ⟨Ao9, co9, eo9⟩ := Kd.R_slice HO346.out; subst eo9; have hnb10 := NB352_341.out; have hnc10 := NB341_352.out; have hnb11 := NB352_342.out; have hnc11 := NB342_352.out; have hnb12 := NB352_343.out; have hnc12 := NB343_352.out; have hcz13_0 : w8.cell? ⟨gb352, 0, none⟩ = some (.slice none 0 0) := (blk_cell BK352.out 0).trans rfl; have hcz13_1 : w8.cell? ⟨gb352, 1, none⟩ = some (.int .i64 0) := (blk_cell BK352.out 1).trans rfl; have hcz13_2 : w8.cell? ⟨gb352, 2, none⟩ = some (.int .i64 0) := (blk_cell BK352.out 2).trans rfl; have hcz13_3 : w8.cell? ⟨gb352, 3, none⟩ = some (.int .i64 0) := (blk_cell BK352.out 3).trans rfl; have hfz13_0 := blk_frozen BK352.out 0; have hfz13_1 := blk_frozen BK352.out 1; have hfz13_2 := blk_frozen BK352.out 2; have hfz13_3 := blk_frozen BK352.out 3))
 have n0_ : Aside0 (Kd.R (Kd.int .i64) 3 ((((w8.setCell ⟨gb352, 0, none⟩ (.slice Ao9 t344.length co9)).setCell ⟨gb352, 1, none⟩ (.int .i64 t347)).setCell ⟨gb352, 2, none⟩ (.int .i64 t348)).setCell ⟨gb352, 3, none⟩ (.int .i64 t349)) w.heap.size (fun _ => True) (.slice Ao9 t344.length co9) t344) := ⟨by (with_reducible repeat (first | apply Kd.R_alloc | apply Kd.R_drewN | apply Kd.R_drew)); exact Kd.R_mono (Kd.R_far (p := ⟨gb352, 3, none⟩) (Kd.R_far (p := ⟨gb352, 2, none⟩) (Kd.R_far (p := ⟨gb352, 1, none⟩) (Kd.R_far (p := ⟨gb352, 0, none⟩) (Kd.R_types HO346.out BK352.out z11_62) (fun _ hk => hk.2) (.slice Ao9 t344.length co9)) (fun _ hk => hk.2) (.int .i64 t347)) (fun _ hk => hk.2) (.int .i64 t348)) (fun _ hk => hk.2) (.int .i64 t349)) (fun _ hk => trivial)⟩
 have n1_ : Aside0 (((((w8.setCell ⟨gb352, 0, none⟩ (.slice Ao9 t344.length co9)).setCell ⟨gb352, 1, none⟩ (.int .i64 t347)).setCell ⟨gb352, 2, none⟩ (.int .i64 t348)).setCell ⟨gb352, 3, none⟩ (.int .i64 t349)).heap[gb341]? = some (.cells #[.slice none 0 0, .int .i64 0, .int .i64 0, .int .i64 0] 30 (0, 0))) := ⟨by (with_reducible repeat (first | refine blk_drewN ?_ _ | refine blk_drew ?_ | refine blk_alloc ?_ _)); refine blk_far ?_ NB341_352.out _; (with_reducible repeat (first | refine blk_drewN ?_ _ | refine blk_drew ?_ | refine blk_alloc ?_ _)); refine blk_far ?_ NB341_352.out _; (with_reducible repeat (first | refine blk_drewN ?_ _ | refine blk_drew ?_ | refine blk_alloc ?_ _)); refine blk_far ?_ NB341_352.out _; (with_reducible repeat (first | refine blk_drewN ?_ _ | refine blk_drew ?_ | refine blk_alloc ?_ _)); refine blk_far ?_ NB341_352.out _; (with_reducible repeat (first | refine blk_drewN ?_ _ | refine blk_drew ?_ | refine blk_alloc ?_ _)); exact BK341.out⟩
 have n2_ : Aside0 (((((w8.setCell ⟨gb352, 0, none⟩ (.slice Ao9 t344.length co9)).setCell ⟨gb352, 1, none⟩ (.int .i64 t347)).setCell ⟨gb352, 2, none⟩ (.int .i64 t348)).setCell ⟨gb352, 3, none⟩ (.int .i64 t349)).heap[gb342]? = some (.cells #[.int .i64 0, .int .i64 0, .int .i64 0] 32 (0, 0))) := ⟨by (with_reducible repeat (first | refine blk_drewN ?_ _ | refine blk_drew ?_ | refine blk_alloc ?_ _)); refine blk_far ?_ NB342_352.out _; (with_reducible repeat (first | refine blk_drewN ?_ _ | refine blk_drew ?_ | refine blk_alloc ?_ _)); refine blk_far ?_ NB342_352.out _; (with_reducible repeat (first | refine blk_drewN ?_ _ | refine blk_drew ?_ | refine blk_alloc ?_ _)); refine blk_far ?_ NB342_352.out _; (with_reducible repeat (first | refine blk_drewN ?_ _ | refine blk_drew ?_ | refine blk_alloc ?_ _)); refine blk_far ?_ NB342_352.out _; (with_reducible repeat (first | refine blk_drewN ?_ _ | refine blk_drew ?_ | refine blk_alloc ?_ _)); exact BK342.out⟩
 have n3_ : Aside0 (((((w8.setCell ⟨gb352, 0, none⟩ (.slice Ao9 t344.length co9)).setCell ⟨gb352, 1, none⟩ (.int .i64 t347)).setCell ⟨gb352, 2, none⟩ (.int .i64 t348)).setCell ⟨gb352, 3, none⟩ (.int .i64 t349)).heap[gb352]? = some (.cells #[.slice Ao9 t344.length co9, .int .i64 t347, .int .i64 t348, .int .i64 t349] 30 (0, 0))) := ⟨by (with_reducible repeat (first | refine blk_drewN ?_ _ | refine blk_drew ?_ | refine blk_alloc ?_ _)); refine blk_put (cs := #[.slice Ao9 t344.length co9, .int .i64 t347, .int .i64 t348, .int .i64 0]) ?_ 3 _ rfl; (with_reducible repeat (first | refine blk_drewN ?_ _ | refine blk_drew ?_ | refine blk_alloc ?_ _)); refine blk_put (cs := #[.slice Ao9 t344.length co9, .int .i64 t347, .int .i64 0, .int .i64 0]) ?_ 2 _ rfl; (with_reducible repeat (first | refine blk_drewN ?_ _ | refine blk_drew ?_ | refine blk_alloc ?_ _)); refine blk_put (cs := #[.slice Ao9 t344.length co9, .int .i64 0, .int .i64 0, .int .i64 0]) ?_ 1 _ rfl; (with_reducible repeat (first | refine blk_drewN ?_ _ | refine blk_drew ?_ | refine blk_alloc ?_ _)); refine blk_put (cs := #[.slice none 0 0, .int .i64 0, .int .i64 0, .int .i64 0]) ?_ 0 _ rfl; (with_reducible repeat (first | refine blk_drewN ?_ _ | refine blk_drew ?_ | refine blk_alloc ?_ _)); exact BK352.out⟩
 have n4_ : Aside0 (IsS82 w ((((w8.setCell ⟨gb352, 0, none⟩ (.slice Ao9 t344.length co9)).setCell ⟨gb352, 1, none⟩ (.int .i64 t347)).setCell ⟨gb352, 2, none⟩ (.int .i64 t348)).setCell ⟨gb352, 3, none⟩ (.int .i64 t349)) gb343 l0 t350 t351) := ⟨by repeat (first | (with_reducible first | exact HI343.out | apply IsS82.alloc | apply IsS82.drewN | apply IsS82.drew | apply IsS82.set_1 | apply IsS82.set_2 | refine IsS82.far ?_ NB343_341.out _ | refine IsS82.far ?_ NB343_342.out _ | refine IsS82.far ?_ NB343_352.out _) | exact HI343.out)⟩
 have n5_ : Aside0 (Below w.heap.size w ((((w8.setCell ⟨gb352, 0, none⟩ (.slice Ao9 t344.length co9)).setCell ⟨gb352, 1, none⟩ (.int .i64 t347)).setCell ⟨gb352, 2, none⟩ (.int .i64 t348)).setCell ⟨gb352, 3, none⟩ (.int .i64 t349))) := ⟨z11_40⟩
 (try clear HO346)
 (try clear BK341)
 (try clear BK342)
 (try clear BK352)
 (try clear HI343)
 (try clear HB)
 generalize ((((w8.setCell ⟨gb352, 0, none⟩ (.slice Ao9 t344.length co9)).setCell ⟨gb352, 1, none⟩ (.int .i64 t347)).setCell ⟨gb352, 2, none⟩ (.int .i64 t348)).setCell ⟨gb352, 3, none⟩ (.int .i64 t349)) = w14 at n0_ n1_ n2_ n3_ n4_ n5_ ⊢
 have HO346 := n0_
 have BK341 := n1_
 have BK342 := n2_
 have BK352 := n3_
 have HI343 := n4_
 have HB := n5_
 clear n0_ n1_ n2_ n3_ n4_ n5_
 have n0_ := z11_A (Kd.R_drew HO346.out)
 have n1_ := z11_A (blk_drew BK341.out)
 have n2_ := z11_A (blk_drew BK342.out)
 have n3_ := z11_A (blk_drew BK352.out)
 have n4_ := z11_A (IsS82.drew HI343.out)
 have n5_ := z11_A (below_drew1 HB.out)
 clear HO346
 clear BK341
 clear BK342
 clear BK352
 clear HI343
 clear HB
 have HO346 := n0_
 have BK341 := n1_
 have BK342 := n2_
 have BK352 := n3_
 have HI343 := n4_
 have HB := n5_
 clear n0_ n1_ n2_ n3_ n4_ n5_
 refine start_ (n := 6) (S := fun w' => w'.cell? ⟨gb352, 0, none⟩ = some (.slice Ao9 t344.length co9) ∧ w'.cell? ⟨gb352, 1, none⟩ = some (.int .i64 t347) ∧ w'.cell? ⟨gb352, 2, none⟩ = some (.int .i64 t348) ∧ w'.cell? ⟨gb352, 3, none⟩ = some (.int .i64 t349)) (ds := []) #[false, false, false, false, false, false] z11_29 rfl rfl ⟨(blk_cell BK352.out 0).trans rfl, (blk_cell BK352.out 1).trans rfl, (blk_cell BK352.out 2).trans rfl, (blk_cell BK352.out 3).trans rfl⟩ (fun hHeld => ?_)
 generalize w14.drew = w15 at HO346 BK341 BK342 BK352 HI343 HB hHeld ⊢
 refine pure_ (i := 1) (N := some 12) (v := ?_) (a' := ?_) #[false, true, false, false, false, false] rfl rfl z11_29 (fun _ _ _ h => h) (Or.inl ⟨by rfl, ?_⟩) ?_ ?_
 rotate_left
 ·intro w'
  go_simp
  with_reducible rfl
 rotate_left
 ·simp only [Act.put, List.setIfInBounds_toArray, List.set_cons_zero, List.set_cons_succ, i64_w, i32_w]
  rfl
 refine take_ (i := 0) (N := some 11) (v := ?_) (a' := ?_) #[true, true, false, false, false, false] rfl rfl z11_29 (fun _ _ _ h => h) (Or.inl ⟨by rfl, ?_⟩) hHeld ?_ ?_
 rotate_left
 ·rintro w' ⟨s0, s1, s2, s3⟩
  go_simp
  with_reducible rfl
 rotate_left
 ·simp only [Act.put, List.setIfInBounds_toArray, List.set_cons_zero, List.set_cons_succ, i64_w, i32_w]
  rfl
 refine take_ (i := 2) (N := some 13) (v := ?_) (a' := ?_) #[true, true, true, false, false, false] rfl rfl z11_29 (fun _ _ _ h => h) (Or.inl ⟨by rfl, ?_⟩) hHeld ?_ ?_
 rotate_left
 ·rintro w' ⟨s0, s1, s2, s3⟩
  go_simp
  with_reducible rfl
 rotate_left
 ·simp only [Act.put, List.setIfInBounds_toArray, List.set_cons_zero, List.set_cons_succ, i64_w, i32_w]
  rfl
 refine one_ (i := 3) (N := some 14) #[true, true, true, true, false, false] rfl rfl z11_29 z11_62 (fun K hK => ?_)
 refine goes_ Try.func90 z11_29 rfl #[.pointer (some ⟨gb343, 0, none⟩), .agg #[.slice Ao9 t344.length co9, .int .i64 t347, .int .i64 t348, .int .i64 t349]] (by rfl) rfl rfl z11_2 ?_
 with_reducible refine (spec_l1Cur_contract.calls k gb343 l0 t350 t351 _ _ t344 t347 t348 t349 t353 t354 t355 t356 t357 w _ ?side1 ?side2 ?side3 ?side4 ?side5 A3.out).mono ?_
 (case side1 => repeat (first | (with_reducible first | exact HI343.out | apply IsS82.alloc | apply IsS82.drewN | apply IsS82.drew | apply IsS82.set_1 | apply IsS82.set_2 | refine IsS82.far ?_ NB343_341.out _ | refine IsS82.far ?_ NB343_342.out _ | refine IsS82.far ?_ NB343_352.out _) | exact HI343.out))
 (case side2 => repeat (first | (with_reducible first | exact HB.out | apply below_alloc | apply pw_below_drewN | apply below_drew1 | refine below_set ?_ (IsS82.ge HI343.out) | refine below_set ?_ GE341.out | refine below_set ?_ GE342.out | refine below_set ?_ GE352.out) | exact HB.out))
 (case side3 => have zh := (Kd.R_reads' HO346.out).2.2; exact z11_C)
 (case side4 => exact (Kd.R_reads' HO346.out).2.1)
 (case side5 => exact far_slice (IsS82.own_ne HI343.out HO346.out z11_62))
 rintro e w16 ⟨rfl, hi, hb, hk⟩
 refine ⟨_, rfl, ?_⟩
 have n0_ := z11_A (KeepBut.blk hk (g' := gb341) (o := .cells #[.slice none 0 0, .int .i64 0, .int .i64 0, .int .i64 0] 30 (0, 0)) z11_7 NB341_343.out (by simp))
 have n1_ := z11_A (KeepBut.blk hk (g' := gb342) (o := .cells #[.int .i64 0, .int .i64 0, .int .i64 0] 32 (0, 0)) z11_15 NB342_343.out (by simp))
 have n2_ := z11_A (Kd.R_mono (Kd.R_keep (IsS82.apart (show IsS82 w _ gb343 l0 t350 t351 from by repeat (first | (with_reducible first | exact HI343.out | apply IsS82.alloc | apply IsS82.drewN | apply IsS82.drew | apply IsS82.set_1 | apply IsS82.set_2 | refine IsS82.far ?_ NB343_341.out _ | refine IsS82.far ?_ NB343_342.out _ | refine IsS82.far ?_ NB343_352.out _) | exact HI343.out)) z11_64 z11_62) hk (fun _ h => h.2)) (fun _ h => h.1))
 have n3_ := z11_A (KeepBut.blk hk (g' := gb352) (o := .cells #[.slice Ao9 t344.length co9, .int .i64 t347, .int .i64 t348, .int .i64 t349] 30 (0, 0)) (by (with_reducible repeat (first | refine blk_drewN ?_ _ | refine blk_drew ?_ | refine blk_alloc ?_ _)); exact BK352.out) NB352_343.out (by simp))
 have n4_ := z11_A (hb)
 have n5_ := z11_A (hi)
 clear BK341
 clear BK342
 clear HO346
 clear BK352
 clear HB
 clear HI343
 have BK341 := n0_
 have BK342 := n1_
 have HO346 := n2_
 have BK352 := n3_
 have HB := n4_
 have HI343 := n5_
 clear n0_ n1_ n2_ n3_ n4_ n5_
 (try clear hb)
 (try clear hb2)
 (try clear hk)
 (try clear hi)
 refine hK.out _ _ ⟨(blk_cell BK352.out 0).trans rfl, (blk_cell BK352.out 1).trans rfl, (blk_cell BK352.out 2).trans rfl, (blk_cell BK352.out 3).trans rfl⟩ (fun hHeld => ?_)
 clear hK K
 refine norm_ (a' := ?_) ?_ ?_
 rotate_left
 ·show Act.put _ (some 14) _ = _
  simp only [Act.put, List.setIfInBounds_toArray, List.set_cons_zero, List.set_cons_succ, i64_w, i32_w]
  rfl
 refine one_ (i := 4) (N := none) #[true, true, true, true, true, false] rfl rfl z11_29 z11_62 (fun K hK => ?_)
 have hs17 : w16.cell? ⟨gb341, 0, none⟩ = some (.slice none 0 0) := (blk_cell BK341.out 0).trans rfl
 have hfs17 := blk_frozen BK341.out 0
 have hns17_1 := NB342_341.out
 have hns17_2 := NB352_341.out
 have hms17_1 := NB341_342.out
 have hms17_2 := NB341_352.out
 have hs18 : w16.cell? ⟨gb341, 1, none⟩ = some (.int .i64 0) := (blk_cell BK341.out 1).trans rfl
 have hfs18 := blk_frozen BK341.out 1
 have hns18_1 := NB342_341.out
 have hns18_2 := NB352_341.out
 have hms18_1 := NB341_342.out
 have hms18_2 := NB341_352.out
 have hs19 : w16.cell? ⟨gb341, 2, none⟩ = some (.int .i64 0) := (blk_cell BK341.out 2).trans rfl
 have hfs19 := blk_frozen BK341.out 2
 have hns19_1 := NB342_341.out
 have hns19_2 := NB352_341.out
 have hms19_1 := NB341_342.out
 have hms19_2 := NB341_352.out
 have hs20 : w16.cell? ⟨gb341, 3, none⟩ = some (.int .i64 0) := (blk_cell BK341.out 3).trans rfl
 have hfs20 := blk_frozen BK341.out 3
 have hns20_1 := NB342_341.out
 have hns20_2 := NB352_341.out
 have hms20_1 := NB341_342.out
 have hms20_2 := NB341_352.out
 refine skip_ (w1 := ?_) (by rfl) rfl ?_ ?_
 rotate_left
 ·go_simp
  rfl
 refine hK.out _ _ ⟨((cell_far (p := ⟨gb341, _, none⟩) NB352_341.out _).trans (((cell_far (p := ⟨gb341, _, none⟩) NB352_341.out _).trans (((cell_far (p := ⟨gb341, _, none⟩) NB352_341.out _).trans (((cell_far (p := ⟨gb341, _, none⟩) NB352_341.out _).trans (hHeld.1)))))))), ((cell_far (p := ⟨gb341, _, none⟩) NB352_341.out _).trans (((cell_far (p := ⟨gb341, _, none⟩) NB352_341.out _).trans (((cell_far (p := ⟨gb341, _, none⟩) NB352_341.out _).trans (((cell_far (p := ⟨gb341, _, none⟩) NB352_341.out _).trans (hHeld.2.1)))))))), ((cell_far (p := ⟨gb341, _, none⟩) NB352_341.out _).trans (((cell_far (p := ⟨gb341, _, none⟩) NB352_341.out _).trans (((cell_far (p := ⟨gb341, _, none⟩) NB352_341.out _).trans (((cell_far (p := ⟨gb341, _, none⟩) NB352_341.out _).trans (hHeld.2.2.1)))))))), ((cell_far (p := ⟨gb341, _, none⟩) NB352_341.out _).trans (((cell_far (p := ⟨gb341, _, none⟩) NB352_341.out _).trans (((cell_far (p := ⟨gb341, _, none⟩) NB352_341.out _).trans (((cell_far (p := ⟨gb341, _, none⟩) NB352_341.out _).trans (hHeld.2.2.2))))))))⟩ (fun hHeld => ?_)
 clear hK K
 refine one_ (i := 5) (N := none) #[true, true, true, true, true, true] rfl rfl z11_29 z11_62 (fun K hK => ?_)
 have hs21 : w16.cell? ⟨gb342, 0, none⟩ = some (.int .i64 0) := (blk_cell BK342.out 0).trans rfl
 have hfs21 := blk_frozen BK342.out 0
 have hns21_0 := NB341_342.out
 have hns21_2 := NB352_342.out
 have hms21_0 := NB342_341.out
 have hms21_2 := NB342_352.out
 have hs22 : w16.cell? ⟨gb342, 1, none⟩ = some (.int .i64 0) := (blk_cell BK342.out 1).trans rfl
 have hfs22 := blk_frozen BK342.out 1
 have hns22_0 := NB341_342.out
 have hns22_2 := NB352_342.out
 have hms22_0 := NB342_341.out
 have hms22_2 := NB342_352.out
 have hs23 : w16.cell? ⟨gb342, 2, none⟩ = some (.int .i64 0) := (blk_cell BK342.out 2).trans rfl
 have hfs23 := blk_frozen BK342.out 2
 have hns23_0 := NB341_342.out
 have hns23_2 := NB352_342.out
 have hms23_0 := NB342_341.out
 have hms23_2 := NB342_352.out
 refine skip_ (w1 := ?_) (by rfl) rfl ?_ ?_
 rotate_left
 ·go_simp
  rfl
 refine hK.out _ _ ⟨((cell_far (p := ⟨gb342, _, none⟩) NB352_342.out _).trans (((cell_far (p := ⟨gb342, _, none⟩) NB352_342.out _).trans (((cell_far (p := ⟨gb342, _, none⟩) NB352_342.out _).trans (hHeld.1)))))), ((cell_far (p := ⟨gb342, _, none⟩) NB352_342.out _).trans (((cell_far (p := ⟨gb342, _, none⟩) NB352_342.out _).trans (((cell_far (p := ⟨gb342, _, none⟩) NB352_342.out _).trans (hHeld.2.1)))))), ((cell_far (p := ⟨gb342, _, none⟩) NB352_342.out _).trans (((cell_far (p := ⟨gb342, _, none⟩) NB352_342.out _).trans (((cell_far (p := ⟨gb342, _, none⟩) NB352_342.out _).trans (hHeld.2.2.1)))))), ((cell_far (p := ⟨gb342, _, none⟩) NB352_342.out _).trans (((cell_far (p := ⟨gb342, _, none⟩) NB352_342.out _).trans (((cell_far (p := ⟨gb342, _, none⟩) NB352_342.out _).trans (hHeld.2.2.2))))))⟩ (fun hHeld => ?_)
 clear hK K
 refine done_ z11_29 ?_
 try go_wp2
 refine bodyPost_ret (results_cc rfl _ _ gb341 gb342 30 32 #[.slice Ao9 t344.length co9, .int .i64 t347, .int .i64 t348, .int .i64 t349] #[.int .i64 t353, .int .i64 t354, .int .i64 t355] (0, 0) (0, 0) _ _ rfl (by (with_reducible repeat (first | refine blk_drewN ?_ _ | refine blk_drew ?_ | refine blk_alloc ?_ _)); refine blk_far ?_ NB341_342.out _; (with_reducible repeat (first | refine blk_drewN ?_ _ | refine blk_drew ?_ | refine blk_alloc ?_ _)); refine blk_far ?_ NB341_342.out _; (with_reducible repeat (first | refine blk_drewN ?_ _ | refine blk_drew ?_ | refine blk_alloc ?_ _)); refine blk_far ?_ NB341_342.out _; (with_reducible repeat (first | refine blk_drewN ?_ _ | refine blk_drew ?_ | refine blk_alloc ?_ _)); refine blk_put (cs := #[.slice Ao9 t344.length co9, .int .i64 t347, .int .i64 t348, .int .i64 0]) ?_ 3 _ rfl; (with_reducible repeat (first | refine blk_drewN ?_ _ | refine blk_drew ?_ | refine blk_alloc ?_ _)); refine blk_put (cs := #[.slice Ao9 t344.length co9, .int .i64 t347, .int .i64 0, .int .i64 0]) ?_ 2 _ rfl; (with_reducible repeat (first | refine blk_drewN ?_ _ | refine blk_drew ?_ | refine blk_alloc ?_ _)); refine blk_put (cs := #[.slice Ao9 t344.length co9, .int .i64 0, .int .i64 0, .int .i64 0]) ?_ 1 _ rfl; (with_reducible repeat (first | refine blk_drewN ?_ _ | refine blk_drew ?_ | refine blk_alloc ?_ _)); refine blk_put (cs := #[.slice none 0 0, .int .i64 0, .int .i64 0, .int .i64 0]) ?_ 0 _ rfl; (with_reducible repeat (first | refine blk_drewN ?_ _ | refine blk_drew ?_ | refine blk_alloc ?_ _)); exact BK341.out) Try.underlying30 rfl z11_29 rfl (by (with_reducible repeat (first | refine blk_drewN ?_ _ | refine blk_drew ?_ | refine blk_alloc ?_ _)); refine blk_put (cs := #[.int .i64 t353, .int .i64 t354, .int .i64 0]) ?_ 2 _ rfl; (with_reducible repeat (first | refine blk_drewN ?_ _ | refine blk_drew ?_ | refine blk_alloc ?_ _)); refine blk_put (cs := #[.int .i64 t353, .int .i64 0, .int .i64 0]) ?_ 1 _ rfl; (with_reducible repeat (first | refine blk_drewN ?_ _ | refine blk_drew ?_ | refine blk_alloc ?_ _)); refine blk_put (cs := #[.int .i64 0, .int .i64 0, .int .i64 0]) ?_ 0 _ rfl; (with_reducible repeat (first | refine blk_drewN ?_ _ | refine blk_drew ?_ | refine blk_alloc ?_ _)); refine blk_far ?_ NB342_341.out _; (with_reducible repeat (first | refine blk_drewN ?_ _ | refine blk_drew ?_ | refine blk_alloc ?_ _)); refine blk_far ?_ NB342_341.out _; (with_reducible repeat (first | refine blk_drewN ?_ _ | refine blk_drew ?_ | refine blk_alloc ?_ _)); refine blk_far ?_ NB342_341.out _; (with_reducible repeat (first | refine blk_drewN ?_ _ | refine blk_drew ?_ | refine blk_alloc ?_ _)); refine blk_far ?_ NB342_341.out _; (with_reducible repeat (first | refine blk_drewN ?_ _ | refine blk_drew ?_ | refine blk_alloc ?_ _)); exact BK342.out) Try.underlying32 rfl z11_29) rfl ?_
 exact ⟨_, z11_3, by (with_reducible repeat (first | apply Kd.R_alloc | apply Kd.R_drewN | apply Kd.R_drew)); exact Kd.R_mono (Kd.R_far (p := ⟨gb342, 2, none⟩) (Kd.R_far (p := ⟨gb342, 1, none⟩) (Kd.R_far (p := ⟨gb342, 0, none⟩) (Kd.R_far (p := ⟨gb341, 3, none⟩) (Kd.R_far (p := ⟨gb341, 2, none⟩) (Kd.R_far (p := ⟨gb341, 1, none⟩) (Kd.R_far (p := ⟨gb341, 0, none⟩) (Kd.R_types (Kd.R_types HO346.out BK341.out z11_62) BK342.out z11_62) (fun _ hk => hk.1.2) (.slice Ao9 t344.length co9)) (fun _ hk => hk.1.2) (.int .i64 t347)) (fun _ hk => hk.1.2) (.int .i64 t348)) (fun _ hk => hk.1.2) (.int .i64 t349)) (fun _ hk => hk.2) (.int .i64 t353)) (fun _ hk => hk.2) (.int .i64 t354)) (fun _ hk => hk.2) (.int .i64 t355)) (fun _ hk => trivial), z11_40⟩

/-! ### spec_DrawInProportion: function 32 -/
def spec_DrawInProportion.f (k : Nat) (l0 : List Int) : Option (List Int × Int × Int × Int × Int × Int × Int) := (spec_DrawSellerOrder.f k l0).bind fun bt360 => (some (bt360.1, bt360.2.1, bt360.2.2.1, bt360.2.2.2.1, bt360.2.2.2.2.1, bt360.2.2.2.2.2.1, bt360.2.2.2.2.2.2))
theorem spec_DrawInProportion.mono : ∀ a0 k, LeO (spec_DrawInProportion.f k a0) (spec_DrawInProportion.f (k + 1) a0) := by
 intro a0 k
 unfold spec_DrawInProportion.f
 repeat' first
   | (with_reducible exact spec_DrawSellerOrder.mono _ _)
   | (with_reducible exact LeO.refl _)
   | (with_reducible exact LeO.none _)
   | (with_reducible refine LeO.ite ?_ ?_)
   | (with_reducible refine LeO.bind ?_ (fun _ => ?_))
   | exact spec_DrawSellerOrder.mono _ _
   | exact LeO.none _
   | refine LeO.ite ?_ ?_
   | refine LeO.bind ?_ (fun _ => ?_)
set_option maxHeartbeats 8000000 in
set_option maxRecDepth 100000 in
theorem spec_DrawInProportion.calls (k : Nat) (A0 : Option Addr) (c0 : Nat) (l0 : List Int) (r1 : List Int) (r2 : Int) (r3 : Int) (r4 : Int) (r5 : Int) (r6 : Int) (r7 : Int) (w : World) (hr0 : Kd.C (Kd.int .u8) w A0 l0.length l0) (hc0 : l0.length ≤ c0) (h : spec_DrawInProportion.f k l0 = some (r1, r2, r3, r4, r5, r6, r7)) :
  Calls Try.prog 32 #[.slice A0 l0.length c0] w fun e w' => ∃ v0_ : Value, e = .returned (.tuple #[.agg #[v0_, .int .i64 r2, .int .i64 r3, .int .i64 r4], .agg #[.int .i64 r5, .int .i64 r6, .int .i64 r7]]) ∧ Kd.R (Kd.int .i64) 3 w' w.heap.size (fun _ => True) v0_ r1 ∧ Below w.heap.size w w' := by
 have hu30 := Try.underlying30
 have hu32 := Try.underlying32
 have HR0 := z11_A hr0
 have HC0 := z11_A hc0
 clear hr0 hc0
 have HB := z11_A (Below.refl w.heap.size w)
 have H : ((spec_DrawSellerOrder.f k l0).bind fun bt360 => (some (bt360.1, bt360.2.1, bt360.2.2.1, bt360.2.2.2.1, bt360.2.2.2.2.1, bt360.2.2.2.2.2.1, bt360.2.2.2.2.2.2))) = some (r1, r2, r3, r4, r5, r6, r7) := h
 clear h
 replace H := Option.bind_eq_some_iff.mp H
 obtain ⟨⟨t360, t363, t364, t365, t366, t367, t368⟩, A20, H⟩ := H
 (try dsimp only at H)
 have A2 := z11_A A20
 clear A20
 simp only [Option.some.injEq, Prod.mk.injEq] at H
 obtain ⟨rfl, rfl, rfl, rfl, rfl, rfl, rfl⟩ := H
 go_enter Try.func32, Try.ntmps32
 go_wp2_with (first | ((with_reducible refine gate_dst (N := 2) rfl ?_); refine box_event ?hg (N := 2) ?hd (cs := #[.slice none 0 0, .int .i64 0, .int .i64 0, .int .i64 0]) (t := 30) ?hr ?_; (case hd => rfl); (case hg => rfl); (case hr => first | (go_simp; done) | (go_simp; rfl)); intro gb358 hg w3 hbox hb; have n0_ := z11_A (below_step z11_1 hb); have n1_ := z11_A (hbox); have n2_ := z11_A ((z11_8 : w.heap.size ≤ gb358)); have n3_ := z11_A ((z11_8 : w.heap.size ≤ gb358)); clear HB; revert n0_ n1_ n2_ n3_; intro HB BK358 GW358 GE358; clear hb hbox hg) | ((with_reducible refine gate_dst (N := 3) rfl ?_); refine box_event ?hg (N := 3) ?hd (cs := #[.int .i64 0, .int .i64 0, .int .i64 0]) (t := 32) ?hr ?_; (case hd => rfl); (case hg => rfl); (case hr => first | (go_simp; done) | (go_simp; rfl)); intro gb359 hg w4 hbox hb; have n0_ := z11_A (blk_below (g := gb358) (o := .cells #[.slice none 0 0, .int .i64 0, .int .i64 0, .int .i64 0] 30 (0, 0)) z11_33 hb); have n1_ := z11_A (below_step z11_35 hb); have n2_ := z11_A (hbox); have n3_ := z11_A ((by rw [hg]; exact (below_size z11_35) : w.heap.size ≤ gb359)); have n4_ := z11_A ((by rw [hg]; exact (below_size z11_35) : w.heap.size ≤ gb359)); have n5_ := z11_A ((by rw [hg]; exact Nat.ne_of_lt (blk_lt (g := gb358) (o := .cells #[.slice none 0 0, .int .i64 0, .int .i64 0, .int .i64 0] 30 (0, 0)) z11_33) : gb358 ≠ gb359)); have n6_ := z11_A ((by rw [hg]; exact Nat.ne_of_gt (blk_lt (g := gb358) (o := .cells #[.slice none 0 0, .int .i64 0, .int .i64 0, .int .i64 0] 30 (0, 0)) z11_33) : gb359 ≠ gb358)); clear BK358 HB; revert n0_ n1_ n2_ n3_ n4_ n5_ n6_; intro BK358 HB BK359 GW359 GE359 NB358_359 NB359_358; clear hb hbox hg) | ((with_reducible refine gate_callee (f := 75) rfl ?_); refine goesL_ (some 5) rfl rfl Try.func75 z11_29 rfl #[.slice A0 l0.length c0] rfl z11_2 ?_; (with_reducible refine (spec_DrawSellerOrder.calls k _ _ l0 t360 t363 t364 t365 t366 t367 t368 _ ?side1 ?side2 A2.out).mono ?_); (case side1 => have zh := (Kd.C_below HR0.out HB.out); exact z11_C); (case side2 => exact HC0.out); rintro e w5 ⟨v361, rfl, ho0, hb⟩; refine ⟨_, rfl, ?_⟩; have n0_ := z11_A (Kd.R_lower ho0 (below_size z11_31)); have n1_ := z11_A (blk_below (g := gb358) (o := .cells #[.slice none 0 0, .int .i64 0, .int .i64 0, .int .i64 0] 30 (0, 0)) z11_33 hb); have n2_ := z11_A (blk_below (g := gb359) (o := .cells #[.int .i64 0, .int .i64 0, .int .i64 0] 32 (0, 0)) (by (with_reducible repeat (first | refine blk_drewN ?_ _ | refine blk_drew ?_ | refine blk_alloc ?_ _)); exact BK359.out) hb); have n3_ := z11_A (below_step z11_31 hb); clear BK358 BK359 HB; revert n0_ n1_ n2_ n3_; intro HO362 BK358 BK359 HB; (try clear hb); (try clear hb2); (try clear hk); (try clear hi); (try clear ho0); obtain ⟨Ao6, co6, eo6⟩ := Kd.R_slice HO362.out; subst eo6; have hnb7 := NB358_359.out; have hnc7 := NB359_358.out; have hcz8_0 : w5.cell? ⟨gb358, 0, none⟩ = some (.slice none 0 0) := (blk_cell BK358.out 0).trans rfl; have hcz8_1 : w5.cell? ⟨gb358, 1, none⟩ = some (.int .i64 0) := (blk_cell BK358.out 1).trans rfl; have hcz8_2 : w5.cell? ⟨gb358, 2, none⟩ = some (.int .i64 0) := (blk_cell BK358.out 2).trans rfl; have hcz8_3 : w5.cell? ⟨gb358, 3, none⟩ = some (.int .i64 0) := (blk_cell BK358.out 3).trans rfl; have hfz8_0 := blk_frozen BK358.out 0; have hfz8_1 := blk_frozen BK358.out 1; have hfz8_2 := blk_frozen BK358.out 2; have hfz8_3 := blk_frozen BK358.out 3; have hcz9_0 : w5.cell? ⟨gb359, 0, none⟩ = some (.int .i64 0) := (blk_cell BK359.out 0).trans rfl; have hcz9_1 : w5.cell? ⟨gb359, 1, none⟩ = some (.int .i64 0) := (blk_cell BK359.out 1).trans rfl; have hcz9_2 : w5.cell? ⟨gb359, 2, none⟩ = some (.int .i64 0) := (blk_cell BK359.out 2).trans rfl; have hfz9_0 := blk_frozen BK359.out 0; have hfz9_1 := blk_frozen BK359.out 1; have hfz9_2 := blk_frozen BK359.out 2))
 refine bodyPost_ret (results_cc rfl _ _ gb358 gb359 30 32 #[.slice Ao6 t360.length co6, .int .i64 t363, .int .i64 t364, .int .i64 t365] #[.int .i64 t366, .int .i64 t367, .int .i64 t368] (0, 0) (0, 0) _ _ rfl (by (with_reducible repeat (first | refine blk_drewN ?_ _ | refine blk_drew ?_ | refine blk_alloc ?_ _)); refine blk_far ?_ NB358_359.out _; (with_reducible repeat (first | refine blk_drewN ?_ _ | refine blk_drew ?_ | refine blk_alloc ?_ _)); refine blk_far ?_ NB358_359.out _; (with_reducible repeat (first | refine blk_drewN ?_ _ | refine blk_drew ?_ | refine blk_alloc ?_ _)); refine blk_far ?_ NB358_359.out _; (with_reducible repeat (first | refine blk_drewN ?_ _ | refine blk_drew ?_ | refine blk_alloc ?_ _)); refine blk_put (cs := #[.slice Ao6 t360.length co6, .int .i64 t363, .int .i64 t364, .int .i64 0]) ?_ 3 _ rfl; (with_reducible repeat (first | refine blk_drewN ?_ _ | refine blk_drew ?_ | refine blk_alloc ?_ _)); refine blk_put (cs := #[.slice Ao6 t360.length co6, .int .i64 t363, .int .i64 0, .int .i64 0]) ?_ 2 _ rfl; (with_reducible repeat (first | refine blk_drewN ?_ _ | refine blk_drew ?_ | refine blk_alloc ?_ _)); refine blk_put (cs := #[.slice Ao6 t360.length co6, .int .i64 0, .int .i64 0, .int .i64 0]) ?_ 1 _ rfl; (with_reducible repeat (first | refine blk_drewN ?_ _ | refine blk_drew ?_ | refine blk_alloc ?_ _)); refine blk_put (cs := #[.slice none 0 0, .int .i64 0, .int .i64 0, .int .i64 0]) ?_ 0 _ rfl; (with_reducible repeat (first | refine blk_drewN ?_ _ | refine blk_drew ?_ | refine blk_alloc ?_ _)); exact BK358.out) Try.underlying30 rfl z11_29 rfl (by (with_reducible repeat (first | refine blk_drewN ?_ _ | refine blk_drew ?_ | refine blk_alloc ?_ _)); refine blk_put (cs := #[.int .i64 t366, .int .i64 t367, .int .i64 0]) ?_ 2 _ rfl; (with_reducible repeat (first | refine blk_drewN ?_ _ | refine blk_drew ?_ | refine blk_alloc ?_ _)); refine blk_put (cs := #[.int .i64 t366, .int .i64 0, .int .i64 0]) ?_ 1 _ rfl; (with_reducible repeat (first | refine blk_drewN ?_ _ | refine blk_drew ?_ | refine blk_alloc ?_ _)); refine blk_put (cs := #[.int .i64 0, .int .i64 0, .int .i64 0]) ?_ 0 _ rfl; (with_reducible repeat (first | refine blk_drewN ?_ _ | refine blk_drew ?_ | refine blk_alloc ?_ _)); refine blk_far ?_ NB359_358.out _; (with_reducible repeat (first | refine blk_drewN ?_ _ | refine blk_drew ?_ | refine blk_alloc ?_ _)); refine blk_far ?_ NB359_358.out _; (with_reducible repeat (first | refine blk_drewN ?_ _ | refine blk_drew ?_ | refine blk_alloc ?_ _)); refine blk_far ?_ NB359_358.out _; (with_reducible repeat (first | refine blk_drewN ?_ _ | refine blk_drew ?_ | refine blk_alloc ?_ _)); refine blk_far ?_ NB359_358.out _; (with_reducible repeat (first | refine blk_drewN ?_ _ | refine blk_drew ?_ | refine blk_alloc ?_ _)); exact BK359.out) Try.underlying32 rfl z11_29) rfl ?_
 exact ⟨_, z11_3, by (with_reducible repeat (first | apply Kd.R_alloc | apply Kd.R_drewN | apply Kd.R_drew)); exact Kd.R_mono (Kd.R_far (p := ⟨gb359, 2, none⟩) (Kd.R_far (p := ⟨gb359, 1, none⟩) (Kd.R_far (p := ⟨gb359, 0, none⟩) (Kd.R_far (p := ⟨gb358, 3, none⟩) (Kd.R_far (p := ⟨gb358, 2, none⟩) (Kd.R_far (p := ⟨gb358, 1, none⟩) (Kd.R_far (p := ⟨gb358, 0, none⟩) (Kd.R_types (Kd.R_types HO362.out BK358.out z11_62) BK359.out z11_62) (fun _ hk => hk.1.2) (.slice Ao6 t360.length co6)) (fun _ hk => hk.1.2) (.int .i64 t363)) (fun _ hk => hk.1.2) (.int .i64 t364)) (fun _ hk => hk.1.2) (.int .i64 t365)) (fun _ hk => hk.2) (.int .i64 t366)) (fun _ hk => hk.2) (.int .i64 t367)) (fun _ hk => hk.2) (.int .i64 t368)) (fun _ hk => trivial), z11_31⟩

/-! ### impl_InProportion: function 33 -/
def impl_InProportion.f (k : Nat) (l0_0 : List Int) (a0_1 : Int) (a0_2 : Int) (a0_3 : Int) (a1_0 : Int) (a1_1 : Int) (a1_2 : Int) : Option (Bool × Bool) := (impl_isDeal.f k l0_0 a0_1 a0_2 a0_3 a1_0 a1_1 a1_2).bind fun t371 => (if t371 = true then ((impl_Market_proportion.f l0_0 a0_1 a0_2 a0_3 a1_0 a1_1 a1_2).bind fun t372 => (some (t372, true))) else (some (false, false)))
theorem impl_InProportion.mono : ∀ a0 a1 a2 a3 a4 a5 a6 k, LeO (impl_InProportion.f k a0 a1 a2 a3 a4 a5 a6) (impl_InProportion.f (k + 1) a0 a1 a2 a3 a4 a5 a6) := by
 intro a0 a1 a2 a3 a4 a5 a6 k
 unfold impl_InProportion.f
 repeat' first
   | (with_reducible exact impl_isDeal.mono _ _ _ _ _ _ _ _)
   | (with_reducible exact LeO.refl _)
   | (with_reducible exact LeO.none _)
   | (with_reducible refine LeO.ite ?_ ?_)
   | (with_reducible refine LeO.bind ?_ (fun _ => ?_))
   | exact impl_isDeal.mono _ _ _ _ _ _ _ _
   | exact LeO.none _
   | refine LeO.ite ?_ ?_
   | refine LeO.bind ?_ (fun _ => ?_)
set_option maxHeartbeats 8000000 in
set_option maxRecDepth 100000 in
theorem impl_InProportion.calls (k : Nat) (A0_0 : Option Addr) (c0_0 : Nat) (l0_0 : List Int) (a0_1 : Int) (a0_2 : Int) (a0_3 : Int) (a1_0 : Int) (a1_1 : Int) (a1_2 : Int) (r1 : Bool) (r2 : Bool) (w : World) (hr0_0 : Kd.C (Kd.int .i64) w A0_0 l0_0.length l0_0) (hc0_0 : l0_0.length ≤ c0_0) (h : impl_InProportion.f k l0_0 a0_1 a0_2 a0_3 a1_0 a1_1 a1_2 = some (r1, r2)) :
  Calls Try.prog 33 #[.agg #[.slice A0_0 l0_0.length c0_0, .int .i64 a0_1, .int .i64 a0_2, .int .i64 a0_3], .agg #[.int .i64 a1_0, .int .i64 a1_1, .int .i64 a1_2]] w fun e w' => e = .returned (.tuple #[.bool r1, .bool r2]) ∧ Below w.heap.size w w' := by
 have hu30 := Try.underlying30
 have hu32 := Try.underlying32
 have HR0_0 := z11_A hr0_0
 have HC0_0 := z11_A hc0_0
 clear hr0_0 hc0_0
 have HB := z11_A (Below.refl w.heap.size w)
 have H : ((impl_isDeal.f k l0_0 a0_1 a0_2 a0_3 a1_0 a1_1 a1_2).bind fun t371 => (if t371 = true then ((impl_Market_proportion.f l0_0 a0_1 a0_2 a0_3 a1_0 a1_1 a1_2).bind fun t372 => (some (t372, true))) else (some (false, false)))) = some (r1, r2) := h
 clear h
 replace H := Option.bind_eq_some_iff.mp H
 obtain ⟨t371, A30, H⟩ := H
 (try dsimp only at H)
 have A3 := z11_A A30
 clear A30
 by_cases c4 : t371 = true
 ·subst c4
  have H1 : ((impl_Market_proportion.f l0_0 a0_1 a0_2 a0_3 a1_0 a1_1 a1_2).bind fun t372 => (some (t372, true))) = some (r1, r2) := z11_49
  clear H
  have H := H1
  clear H1
  replace H := Option.bind_eq_some_iff.mp H
  obtain ⟨t372, A50, H⟩ := H
  (try dsimp only at H)
  have A5 := z11_A A50
  clear A50
  simp only [Option.some.injEq, Prod.mk.injEq] at H
  obtain ⟨rfl, rfl⟩ := H
  go_enter Try.func33, Try.ntmps33
  go_wp2_with (first | ((with_reducible refine gate_dst (N := 2) rfl ?_); refine box_event ?hg (N := 2) ?hd (cs := #[.slice A0_0 l0_0.length c0_0, .int .i64 a0_1, .int .i64 a0_2, .int .i64 a0_3]) (t := 30) ?hr ?_; (case hd => rfl); (case hg => rfl); (case hr => first | (go_simp; done) | (go_simp; rfl)); intro gb369 hg w6 hbox hb; have n0_ := z11_A (below_step z11_1 hb); have n1_ := z11_A (hbox); have n2_ := z11_A ((z11_8 : w.heap.size ≤ gb369)); have n3_ := z11_A ((z11_8 : w.heap.size ≤ gb369)); clear HB; revert n0_ n1_ n2_ n3_; intro HB BK369 GW369 GE369; clear hb hbox hg) | ((with_reducible refine gate_dst (N := 3) rfl ?_); refine box_event ?hg (N := 3) ?hd (cs := #[.int .i64 a1_0, .int .i64 a1_1, .int .i64 a1_2]) (t := 32) ?hr ?_; (case hd => rfl); (case hg => rfl); (case hr => first | (go_simp; done) | (go_simp; rfl)); intro gb370 hg w7 hbox hb; have n0_ := z11_A (blk_below (g := gb369) (o := .cells #[.slice A0_0 l0_0.length c0_0, .int .i64 a0_1, .int .i64 a0_2, .int .i64 a0_3] 30 (0, 0)) z11_13 hb); have n1_ := z11_A (below_step z11_19 hb); have n2_ := z11_A (hbox); have n3_ := z11_A ((z11_65 : w.heap.size ≤ gb370)); have n4_ := z11_A ((z11_65 : w.heap.size ≤ gb370)); have n5_ := z11_A ((z11_54 : gb369 ≠ gb370)); have n6_ := z11_A ((z11_58 : gb370 ≠ gb369)); clear BK369 HB; revert n0_ n1_ n2_ n3_ n4_ n5_ n6_; intro BK369 HB BK370 GW370 GE370 NB369_370 NB370_369; clear hb hbox hg; have hnb8 := NB369_370.out; have hnc8 := NB370_369.out; have hcz9_0 : w7.cell? ⟨gb369, 0, none⟩ = some (.slice A0_0 l0_0.length c0_0) := (blk_cell BK369.out 0).trans rfl; have hcz9_1 : w7.cell? ⟨gb369, 1, none⟩ = some (.int .i64 a0_1) := (blk_cell BK369.out 1).trans rfl; have hcz9_2 : w7.cell? ⟨gb369, 2, none⟩ = some (.int .i64 a0_2) := (blk_cell BK369.out 2).trans rfl; have hcz9_3 : w7.cell? ⟨gb369, 3, none⟩ = some (.int .i64 a0_3) := (blk_cell BK369.out 3).trans rfl; have hfz9_0 := blk_frozen BK369.out 0; have hfz9_1 := blk_frozen BK369.out 1; have hfz9_2 := blk_frozen BK369.out 2; have hfz9_3 := blk_frozen BK369.out 3; have hcz10_0 : w7.cell? ⟨gb370, 0, none⟩ = some (.int .i64 a1_0) := (blk_cell BK370.out 0).trans rfl; have hcz10_1 : w7.cell? ⟨gb370, 1, none⟩ = some (.int .i64 a1_1) := (blk_cell BK370.out 1).trans rfl; have hcz10_2 : w7.cell? ⟨gb370, 2, none⟩ = some (.int .i64 a1_2) := (blk_cell BK370.out 2).trans rfl; have hfz10_0 := blk_frozen BK370.out 0; have hfz10_1 := blk_frozen BK370.out 1; have hfz10_2 := blk_frozen BK370.out 2) | ((with_reducible refine gate_callee (f := 64) rfl ?_); refine goesL_ (some 8) rfl rfl Try.func64 z11_29 rfl #[.agg #[.slice A0_0 l0_0.length c0_0, .int .i64 a0_1, .int .i64 a0_2, .int .i64 a0_3], .agg #[.int .i64 a1_0, .int .i64 a1_1, .int .i64 a1_2]] rfl z11_2 ?_; (with_reducible refine (impl_isDeal.calls k _ _ l0_0 a0_1 a0_2 a0_3 a1_0 a1_1 a1_2 true _ ?side1 ?side2 A3.out).mono ?_); (case side1 => have zh := (Kd.C_below HR0_0.out HB.out); exact z11_C); (case side2 => exact HC0_0.out); rintro e w11 ⟨rfl, hb⟩; refine ⟨_, rfl, ?_⟩; have n0_ := z11_A (blk_below (g := gb369) (o := .cells #[.slice A0_0 l0_0.length c0_0, .int .i64 a0_1, .int .i64 a0_2, .int .i64 a0_3] 30 (0, 0)) z11_13 hb); have n1_ := z11_A (blk_below (g := gb370) (o := .cells #[.int .i64 a1_0, .int .i64 a1_1, .int .i64 a1_2] 32 (0, 0)) z11_47 hb); have n2_ := z11_A (below_step z11_23 hb); clear BK369 BK370 HB; revert n0_ n1_ n2_; intro BK369 BK370 HB; (try clear hb); (try clear hb2); (try clear hk); (try clear hi); have hcz12_0 : w11.cell? ⟨gb369, 0, none⟩ = some (.slice A0_0 l0_0.length c0_0) := (blk_cell BK369.out 0).trans rfl; have hcz12_1 : w11.cell? ⟨gb369, 1, none⟩ = some (.int .i64 a0_1) := (blk_cell BK369.out 1).trans rfl; have hcz12_2 : w11.cell? ⟨gb369, 2, none⟩ = some (.int .i64 a0_2) := (blk_cell BK369.out 2).trans rfl; have hcz12_3 : w11.cell? ⟨gb369, 3, none⟩ = some (.int .i64 a0_3) := (blk_cell BK369.out 3).trans rfl; have hfz12_0 := blk_frozen BK369.out 0; have hfz12_1 := blk_frozen BK369.out 1; have hfz12_2 := blk_frozen BK369.out 2; have hfz12_3 := blk_frozen BK369.out 3; have hcz13_0 : w11.cell? ⟨gb370, 0, none⟩ = some (.int .i64 a1_0) := (blk_cell BK370.out 0).trans rfl; have hcz13_1 : w11.cell? ⟨gb370, 1, none⟩ = some (.int .i64 a1_1) := (blk_cell BK370.out 1).trans rfl; have hcz13_2 : w11.cell? ⟨gb370, 2, none⟩ = some (.int .i64 a1_2) := (blk_cell BK370.out 2).trans rfl; have hfz13_0 := blk_frozen BK370.out 0; have hfz13_1 := blk_frozen BK370.out 1; have hfz13_2 := blk_frozen BK370.out 2) | ((with_reducible refine gate_callee (f := 76) rfl ?_); refine goesL_ (some 12) rfl rfl Try.func76 z11_29 rfl #[.agg #[.slice A0_0 l0_0.length c0_0, .int .i64 a0_1, .int .i64 a0_2, .int .i64 a0_3], .agg #[.int .i64 a1_0, .int .i64 a1_1, .int .i64 a1_2]] rfl z11_2 ?_; (with_reducible refine (impl_Market_proportion.calls _ _ l0_0 a0_1 a0_2 a0_3 a1_0 a1_1 a1_2 t372 _ ?side1 ?side2 A5.out).mono ?_); (case side1 => have zh := (Kd.C_below HR0_0.out HB.out); exact z11_C); (case side2 => exact HC0_0.out); rintro e w14 ⟨rfl, hb⟩; refine ⟨_, rfl, ?_⟩; have n0_ := z11_A (blk_below (g := gb369) (o := .cells #[.slice A0_0 l0_0.length c0_0, .int .i64 a0_1, .int .i64 a0_2, .int .i64 a0_3] 30 (0, 0)) z11_13 hb); have n1_ := z11_A (blk_below (g := gb370) (o := .cells #[.int .i64 a1_0, .int .i64 a1_1, .int .i64 a1_2] 32 (0, 0)) z11_47 hb); have n2_ := z11_A (below_step z11_23 hb); clear BK369 BK370 HB; revert n0_ n1_ n2_; intro BK369 BK370 HB; (try clear hb); (try clear hb2); (try clear hk); (try clear hi)))
  go_ret2
  exact ⟨z11_3, z11_23⟩
 ·replace c4 := Bool.eq_false_iff.mpr c4
  subst c4
  have H1 : (some (false, false)) = some (r1, r2) := z11_30
  clear H
  have H := H1
  clear H1
  simp only [Option.some.injEq, Prod.mk.injEq] at H
  obtain ⟨rfl, rfl⟩ := H
  go_enter Try.func33, Try.ntmps33
  go_wp2_with (first | ((with_reducible refine gate_dst (N := 2) rfl ?_); refine box_event ?hg (N := 2) ?hd (cs := #[.slice A0_0 l0_0.length c0_0, .int .i64 a0_1, .int .i64 a0_2, .int .i64 a0_3]) (t := 30) ?hr ?_; (case hd => rfl); (case hg => rfl); (case hr => first | (go_simp; done) | (go_simp; rfl)); intro gb369 hg w15 hbox hb; have n0_ := z11_A (below_step z11_1 hb); have n1_ := z11_A (hbox); have n2_ := z11_A ((z11_8 : w.heap.size ≤ gb369)); have n3_ := z11_A ((z11_8 : w.heap.size ≤ gb369)); clear HB; revert n0_ n1_ n2_ n3_; intro HB BK369 GW369 GE369; clear hb hbox hg) | ((with_reducible refine gate_dst (N := 3) rfl ?_); refine box_event ?hg (N := 3) ?hd (cs := #[.int .i64 a1_0, .int .i64 a1_1, .int .i64 a1_2]) (t := 32) ?hr ?_; (case hd => rfl); (case hg => rfl); (case hr => first | (go_simp; done) | (go_simp; rfl)); intro gb370 hg w16 hbox hb; have n0_ := z11_A (blk_below (g := gb369) (o := .cells #[.slice A0_0 l0_0.length c0_0, .int .i64 a0_1, .int .i64 a0_2, .int .i64 a0_3] 30 (0, 0)) z11_13 hb); have n1_ := z11_A (below_step z11_19 hb); have n2_ := z11_A (hbox); have n3_ := z11_A ((z11_65 : w.heap.size ≤ gb370)); have n4_ := z11_A ((z11_65 : w.heap.size ≤ gb370)); have n5_ := z11_A ((z11_54 : gb369 ≠ gb370)); have n6_ := z11_A ((z11_58 : gb370 ≠ gb369)); clear BK369 HB; revert n0_ n1_ n2_ n3_ n4_ n5_ n6_; intro BK369 HB BK370 GW370 GE370 NB369_370 NB370_369; clear hb hbox hg; have hnb17 := NB369_370.out; have hnc17 := NB370_369.out; have hcz18_0 : w16.cell? ⟨gb369, 0, none⟩ = some (.slice A0_0 l0_0.length c0_0) := (blk_cell BK369.out 0).trans rfl; have hcz18_1 : w16.cell? ⟨gb369, 1, none⟩ = some (.int .i64 a0_1) := (blk_cell BK369.out 1).trans rfl; have hcz18_2 : w16.cell? ⟨gb369, 2, none⟩ = some (.int .i64 a0_2) := (blk_cell BK369.out 2).trans rfl; have hcz18_3 : w16.cell? ⟨gb369, 3, none⟩ = some (.int .i64 a0_3) := (blk_cell BK369.out 3).trans rfl; have hfz18_0 := blk_frozen BK369.out 0; have hfz18_1 := blk_frozen BK369.out 1; have hfz18_2 := blk_frozen BK369.out 2; have hfz18_3 := blk_frozen BK369.out 3; have hcz19_0 : w16.cell? ⟨gb370, 0, none⟩ = some (.int .i64 a1_0) := (blk_cell BK370.out 0).trans rfl; have hcz19_1 : w16.cell? ⟨gb370, 1, none⟩ = some (.int .i64 a1_1) := (blk_cell BK370.out 1).trans rfl; have hcz19_2 : w16.cell? ⟨gb370, 2, none⟩ = some (.int .i64 a1_2) := (blk_cell BK370.out 2).trans rfl; have hfz19_0 := blk_frozen BK370.out 0; have hfz19_1 := blk_frozen BK370.out 1; have hfz19_2 := blk_frozen BK370.out 2) | ((with_reducible refine gate_callee (f := 64) rfl ?_); refine goesL_ (some 8) rfl rfl Try.func64 z11_29 rfl #[.agg #[.slice A0_0 l0_0.length c0_0, .int .i64 a0_1, .int .i64 a0_2, .int .i64 a0_3], .agg #[.int .i64 a1_0, .int .i64 a1_1, .int .i64 a1_2]] rfl z11_2 ?_; (with_reducible refine (impl_isDeal.calls k _ _ l0_0 a0_1 a0_2 a0_3 a1_0 a1_1 a1_2 false _ ?side1 ?side2 A3.out).mono ?_); (case side1 => have zh := (Kd.C_below HR0_0.out HB.out); exact z11_C); (case side2 => exact HC0_0.out); rintro e w20 ⟨rfl, hb⟩; refine ⟨_, rfl, ?_⟩; have n0_ := z11_A (blk_below (g := gb369) (o := .cells #[.slice A0_0 l0_0.length c0_0, .int .i64 a0_1, .int .i64 a0_2, .int .i64 a0_3] 30 (0, 0)) z11_13 hb); have n1_ := z11_A (blk_below (g := gb370) (o := .cells #[.int .i64 a1_0, .int .i64 a1_1, .int .i64 a1_2] 32 (0, 0)) z11_47 hb); have n2_ := z11_A (below_step z11_23 hb); clear BK369 BK370 HB; revert n0_ n1_ n2_; intro BK369 BK370 HB; (try clear hb); (try clear hb2); (try clear hk); (try clear hi)))
  go_ret2
  exact ⟨z11_3, z11_23⟩

/-! ### spec_InProportion: function 34 -/
def spec_InProportion.f (k : Nat) (l0_0 : List Int) (a0_1 : Int) (a0_2 : Int) (a0_3 : Int) (a1_0 : Int) (a1_1 : Int) (a1_2 : Int) : Option (Bool × Bool) := (spec_l10Both.f k l0_0 a0_1 a0_2 a0_3 a1_0 a1_1 a1_2).bind fun t375 => (if t375 = true then ((spec_l10Proportion.f l0_0 a0_1 a0_2 a0_3 a1_0 a1_1 a1_2).bind fun t376 => (some (t376, true))) else (some (false, false)))
theorem spec_InProportion.mono : ∀ a0 a1 a2 a3 a4 a5 a6 k, LeO (spec_InProportion.f k a0 a1 a2 a3 a4 a5 a6) (spec_InProportion.f (k + 1) a0 a1 a2 a3 a4 a5 a6) := by
 intro a0 a1 a2 a3 a4 a5 a6 k
 unfold spec_InProportion.f
 repeat' first
   | (with_reducible exact spec_l10Both.mono _ _ _ _ _ _ _ _)
   | (with_reducible exact LeO.refl _)
   | (with_reducible exact LeO.none _)
   | (with_reducible refine LeO.ite ?_ ?_)
   | (with_reducible refine LeO.bind ?_ (fun _ => ?_))
   | exact spec_l10Both.mono _ _ _ _ _ _ _ _
   | exact LeO.none _
   | refine LeO.ite ?_ ?_
   | refine LeO.bind ?_ (fun _ => ?_)
set_option maxHeartbeats 8000000 in
set_option maxRecDepth 100000 in
theorem spec_InProportion.calls (k : Nat) (A0_0 : Option Addr) (c0_0 : Nat) (l0_0 : List Int) (a0_1 : Int) (a0_2 : Int) (a0_3 : Int) (a1_0 : Int) (a1_1 : Int) (a1_2 : Int) (r1 : Bool) (r2 : Bool) (w : World) (hr0_0 : Kd.C (Kd.int .i64) w A0_0 l0_0.length l0_0) (hc0_0 : l0_0.length ≤ c0_0) (h : spec_InProportion.f k l0_0 a0_1 a0_2 a0_3 a1_0 a1_1 a1_2 = some (r1, r2)) :
  Calls Try.prog 34 #[.agg #[.slice A0_0 l0_0.length c0_0, .int .i64 a0_1, .int .i64 a0_2, .int .i64 a0_3], .agg #[.int .i64 a1_0, .int .i64 a1_1, .int .i64 a1_2]] w fun e w' => e = .returned (.tuple #[.bool r1, .bool r2]) ∧ Below w.heap.size w w' := by
 have hu30 := Try.underlying30
 have hu32 := Try.underlying32
 have HR0_0 := z11_A hr0_0
 have HC0_0 := z11_A hc0_0
 clear hr0_0 hc0_0
 have HB := z11_A (Below.refl w.heap.size w)
 have H : ((spec_l10Both.f k l0_0 a0_1 a0_2 a0_3 a1_0 a1_1 a1_2).bind fun t375 => (if t375 = true then ((spec_l10Proportion.f l0_0 a0_1 a0_2 a0_3 a1_0 a1_1 a1_2).bind fun t376 => (some (t376, true))) else (some (false, false)))) = some (r1, r2) := h
 clear h
 replace H := Option.bind_eq_some_iff.mp H
 obtain ⟨t375, A30, H⟩ := H
 (try dsimp only at H)
 have A3 := z11_A A30
 clear A30
 by_cases c4 : t375 = true
 ·subst c4
  have H1 : ((spec_l10Proportion.f l0_0 a0_1 a0_2 a0_3 a1_0 a1_1 a1_2).bind fun t376 => (some (t376, true))) = some (r1, r2) := z11_49
  clear H
  have H := H1
  clear H1
  replace H := Option.bind_eq_some_iff.mp H
  obtain ⟨t376, A50, H⟩ := H
  (try dsimp only at H)
  have A5 := z11_A A50
  clear A50
  simp only [Option.some.injEq, Prod.mk.injEq] at H
  obtain ⟨rfl, rfl⟩ := H
  go_enter Try.func34, Try.ntmps34
  go_wp2_with (first | ((with_reducible refine gate_dst (N := 2) rfl ?_); refine box_event ?hg (N := 2) ?hd (cs := #[.slice A0_0 l0_0.length c0_0, .int .i64 a0_1, .int .i64 a0_2, .int .i64 a0_3]) (t := 30) ?hr ?_; (case hd => rfl); (case hg => rfl); (case hr => first | (go_simp; done) | (go_simp; rfl)); intro gb373 hg w6 hbox hb; have n0_ := z11_A (below_step z11_1 hb); have n1_ := z11_A (hbox); have n2_ := z11_A ((z11_8 : w.heap.size ≤ gb373)); have n3_ := z11_A ((z11_8 : w.heap.size ≤ gb373)); clear HB; revert n0_ n1_ n2_ n3_; intro HB BK373 GW373 GE373; clear hb hbox hg) | ((with_reducible refine gate_dst (N := 3) rfl ?_); refine box_event ?hg (N := 3) ?hd (cs := #[.int .i64 a1_0, .int .i64 a1_1, .int .i64 a1_2]) (t := 32) ?hr ?_; (case hd => rfl); (case hg => rfl); (case hr => first | (go_simp; done) | (go_simp; rfl)); intro gb374 hg w7 hbox hb; have n0_ := z11_A (blk_below (g := gb373) (o := .cells #[.slice A0_0 l0_0.length c0_0, .int .i64 a0_1, .int .i64 a0_2, .int .i64 a0_3] 30 (0, 0)) z11_12 hb); have n1_ := z11_A (below_step z11_18 hb); have n2_ := z11_A (hbox); have n3_ := z11_A ((z11_66 : w.heap.size ≤ gb374)); have n4_ := z11_A ((z11_66 : w.heap.size ≤ gb374)); have n5_ := z11_A ((z11_53 : gb373 ≠ gb374)); have n6_ := z11_A ((z11_57 : gb374 ≠ gb373)); clear BK373 HB; revert n0_ n1_ n2_ n3_ n4_ n5_ n6_; intro BK373 HB BK374 GW374 GE374 NB373_374 NB374_373; clear hb hbox hg; have hnb8 := NB373_374.out; have hnc8 := NB374_373.out; have hcz9_0 : w7.cell? ⟨gb373, 0, none⟩ = some (.slice A0_0 l0_0.length c0_0) := (blk_cell BK373.out 0).trans rfl; have hcz9_1 : w7.cell? ⟨gb373, 1, none⟩ = some (.int .i64 a0_1) := (blk_cell BK373.out 1).trans rfl; have hcz9_2 : w7.cell? ⟨gb373, 2, none⟩ = some (.int .i64 a0_2) := (blk_cell BK373.out 2).trans rfl; have hcz9_3 : w7.cell? ⟨gb373, 3, none⟩ = some (.int .i64 a0_3) := (blk_cell BK373.out 3).trans rfl; have hfz9_0 := blk_frozen BK373.out 0; have hfz9_1 := blk_frozen BK373.out 1; have hfz9_2 := blk_frozen BK373.out 2; have hfz9_3 := blk_frozen BK373.out 3; have hcz10_0 : w7.cell? ⟨gb374, 0, none⟩ = some (.int .i64 a1_0) := (blk_cell BK374.out 0).trans rfl; have hcz10_1 : w7.cell? ⟨gb374, 1, none⟩ = some (.int .i64 a1_1) := (blk_cell BK374.out 1).trans rfl; have hcz10_2 : w7.cell? ⟨gb374, 2, none⟩ = some (.int .i64 a1_2) := (blk_cell BK374.out 2).trans rfl; have hfz10_0 := blk_frozen BK374.out 0; have hfz10_1 := blk_frozen BK374.out 1; have hfz10_2 := blk_frozen BK374.out 2) | ((with_reducible refine gate_callee (f := 61) rfl ?_); refine goesL_ (some 8) rfl rfl Try.func61 z11_29 rfl #[.agg #[.slice A0_0 l0_0.length c0_0, .int .i64 a0_1, .int .i64 a0_2, .int .i64 a0_3], .agg #[.int .i64 a1_0, .int .i64 a1_1, .int .i64 a1_2]] rfl z11_2 ?_; (with_reducible refine (spec_l10Both.calls k _ _ l0_0 a0_1 a0_2 a0_3 a1_0 a1_1 a1_2 true _ ?side1 ?side2 A3.out).mono ?_); (case side1 => have zh := (Kd.C_below HR0_0.out HB.out); exact z11_C); (case side2 => exact HC0_0.out); rintro e w11 ⟨rfl, hb⟩; refine ⟨_, rfl, ?_⟩; have n0_ := z11_A (blk_below (g := gb373) (o := .cells #[.slice A0_0 l0_0.length c0_0, .int .i64 a0_1, .int .i64 a0_2, .int .i64 a0_3] 30 (0, 0)) z11_12 hb); have n1_ := z11_A (blk_below (g := gb374) (o := .cells #[.int .i64 a1_0, .int .i64 a1_1, .int .i64 a1_2] 32 (0, 0)) z11_46 hb); have n2_ := z11_A (below_step z11_22 hb); clear BK373 BK374 HB; revert n0_ n1_ n2_; intro BK373 BK374 HB; (try clear hb); (try clear hb2); (try clear hk); (try clear hi); have hcz12_0 : w11.cell? ⟨gb373, 0, none⟩ = some (.slice A0_0 l0_0.length c0_0) := (blk_cell BK373.out 0).trans rfl; have hcz12_1 : w11.cell? ⟨gb373, 1, none⟩ = some (.int .i64 a0_1) := (blk_cell BK373.out 1).trans rfl; have hcz12_2 : w11.cell? ⟨gb373, 2, none⟩ = some (.int .i64 a0_2) := (blk_cell BK373.out 2).trans rfl; have hcz12_3 : w11.cell? ⟨gb373, 3, none⟩ = some (.int .i64 a0_3) := (blk_cell BK373.out 3).trans rfl; have hfz12_0 := blk_frozen BK373.out 0; have hfz12_1 := blk_frozen BK373.out 1; have hfz12_2 := blk_frozen BK373.out 2; have hfz12_3 := blk_frozen BK373.out 3; have hcz13_0 : w11.cell? ⟨gb374, 0, none⟩ = some (.int .i64 a1_0) := (blk_cell BK374.out 0).trans rfl; have hcz13_1 : w11.cell? ⟨gb374, 1, none⟩ = some (.int .i64 a1_1) := (blk_cell BK374.out 1).trans rfl; have hcz13_2 : w11.cell? ⟨gb374, 2, none⟩ = some (.int .i64 a1_2) := (blk_cell BK374.out 2).trans rfl; have hfz13_0 := blk_frozen BK374.out 0; have hfz13_1 := blk_frozen BK374.out 1; have hfz13_2 := blk_frozen BK374.out 2) | ((with_reducible refine gate_callee (f := 70) rfl ?_); refine goesL_ (some 12) rfl rfl Try.func70 z11_29 rfl #[.agg #[.slice A0_0 l0_0.length c0_0, .int .i64 a0_1, .int .i64 a0_2, .int .i64 a0_3], .agg #[.int .i64 a1_0, .int .i64 a1_1, .int .i64 a1_2]] rfl z11_2 ?_; (with_reducible refine (spec_l10Proportion.calls _ _ l0_0 a0_1 a0_2 a0_3 a1_0 a1_1 a1_2 t376 _ ?side1 ?side2 A5.out).mono ?_); (case side1 => have zh := (Kd.C_below HR0_0.out HB.out); exact z11_C); (case side2 => exact HC0_0.out); rintro e w14 ⟨rfl, hb⟩; refine ⟨_, rfl, ?_⟩; have n0_ := z11_A (blk_below (g := gb373) (o := .cells #[.slice A0_0 l0_0.length c0_0, .int .i64 a0_1, .int .i64 a0_2, .int .i64 a0_3] 30 (0, 0)) z11_12 hb); have n1_ := z11_A (blk_below (g := gb374) (o := .cells #[.int .i64 a1_0, .int .i64 a1_1, .int .i64 a1_2] 32 (0, 0)) z11_46 hb); have n2_ := z11_A (below_step z11_22 hb); clear BK373 BK374 HB; revert n0_ n1_ n2_; intro BK373 BK374 HB; (try clear hb); (try clear hb2); (try clear hk); (try clear hi)))
  go_ret2
  exact ⟨z11_3, z11_22⟩
 ·replace c4 := Bool.eq_false_iff.mpr c4
  subst c4
  have H1 : (some (false, false)) = some (r1, r2) := z11_30
  clear H
  have H := H1
  clear H1
  simp only [Option.some.injEq, Prod.mk.injEq] at H
  obtain ⟨rfl, rfl⟩ := H
  go_enter Try.func34, Try.ntmps34
  go_wp2_with (first | ((with_reducible refine gate_dst (N := 2) rfl ?_); refine box_event ?hg (N := 2) ?hd (cs := #[.slice A0_0 l0_0.length c0_0, .int .i64 a0_1, .int .i64 a0_2, .int .i64 a0_3]) (t := 30) ?hr ?_; (case hd => rfl); (case hg => rfl); (case hr => first | (go_simp; done) | (go_simp; rfl)); intro gb373 hg w15 hbox hb; have n0_ := z11_A (below_step z11_1 hb); have n1_ := z11_A (hbox); have n2_ := z11_A ((z11_8 : w.heap.size ≤ gb373)); have n3_ := z11_A ((z11_8 : w.heap.size ≤ gb373)); clear HB; revert n0_ n1_ n2_ n3_; intro HB BK373 GW373 GE373; clear hb hbox hg) | ((with_reducible refine gate_dst (N := 3) rfl ?_); refine box_event ?hg (N := 3) ?hd (cs := #[.int .i64 a1_0, .int .i64 a1_1, .int .i64 a1_2]) (t := 32) ?hr ?_; (case hd => rfl); (case hg => rfl); (case hr => first | (go_simp; done) | (go_simp; rfl)); intro gb374 hg w16 hbox hb; have n0_ := z11_A (blk_below (g := gb373) (o := .cells #[.slice A0_0 l0_0.length c0_0, .int .i64 a0_1, .int .i64 a0_2, .int .i64 a0_3] 30 (0, 0)) z11_12 hb); have n1_ := z11_A (below_step z11_18 hb); have n2_ := z11_A (hbox); have n3_ := z11_A ((z11_66 : w.heap.size ≤ gb374)); have n4_ := z11_A ((z11_66 : w.heap.size ≤ gb374)); have n5_ := z11_A ((z11_53 : gb373 ≠ gb374)); have n6_ := z11_A ((z11_57 : gb374 ≠ gb373)); clear BK373 HB; revert n0_ n1_ n2_ n3_ n4_ n5_ n6_; intro BK373 HB BK374 GW374 GE374 NB373_374 NB374_373; clear hb hbox hg; have hnb17 := NB373_374.out; have hnc17 := NB374_373.out; have hcz18_0 : w16.cell? ⟨gb373, 0, none⟩ = some (.slice A0_0 l0_0.length c0_0) := (blk_cell BK373.out 0).trans rfl; have hcz18_1 : w16.cell? ⟨gb373, 1, none⟩ = some (.int .i64 a0_1) := (blk_cell BK373.out 1).trans rfl; have hcz18_2 : w16.cell? ⟨gb373, 2, none⟩ = some (.int .i64 a0_2) := (blk_cell BK373.out 2).trans rfl; have hcz18_3 : w16.cell? ⟨gb373, 3, none⟩ = some (.int .i64 a0_3) := (blk_cell BK373.out 3).trans rfl; have hfz18_0 := blk_frozen BK373.out 0; have hfz18_1 := blk_frozen BK373.out 1; have hfz18_2 := blk_frozen BK373.out 2; have hfz18_3 := blk_frozen BK373.out 3; have hcz19_0 : w16.cell? ⟨gb374, 0, none⟩ = some (.int .i64 a1_0) := (blk_cell BK374.out 0).trans rfl; have hcz19_1 : w16.cell? ⟨gb374, 1, none⟩ = some (.int .i64 a1_1) := (blk_cell BK374.out 1).trans rfl; have hcz19_2 : w16.cell? ⟨gb374, 2, none⟩ = some (.int .i64 a1_2) := (blk_cell BK374.out 2).trans rfl; have hfz19_0 := blk_frozen BK374.out 0; have hfz19_1 := blk_frozen BK374.out 1; have hfz19_2 := blk_frozen BK374.out 2) | ((with_reducible refine gate_callee (f := 61) rfl ?_); refine goesL_ (some 8) rfl rfl Try.func61 z11_29 rfl #[.agg #[.slice A0_0 l0_0.length c0_0, .int .i64 a0_1, .int .i64 a0_2, .int .i64 a0_3], .agg #[.int .i64 a1_0, .int .i64 a1_1, .int .i64 a1_2]] rfl z11_2 ?_; (with_reducible refine (spec_l10Both.calls k _ _ l0_0 a0_1 a0_2 a0_3 a1_0 a1_1 a1_2 false _ ?side1 ?side2 A3.out).mono ?_); (case side1 => have zh := (Kd.C_below HR0_0.out HB.out); exact z11_C); (case side2 => exact HC0_0.out); rintro e w20 ⟨rfl, hb⟩; refine ⟨_, rfl, ?_⟩; have n0_ := z11_A (blk_below (g := gb373) (o := .cells #[.slice A0_0 l0_0.length c0_0, .int .i64 a0_1, .int .i64 a0_2, .int .i64 a0_3] 30 (0, 0)) z11_12 hb); have n1_ := z11_A (blk_below (g := gb374) (o := .cells #[.int .i64 a1_0, .int .i64 a1_1, .int .i64 a1_2] 32 (0, 0)) z11_46 hb); have n2_ := z11_A (below_step z11_22 hb); clear BK373 BK374 HB; revert n0_ n1_ n2_; intro BK373 BK374 HB; (try clear hb); (try clear hb2); (try clear hk); (try clear hi)))
  go_ret2
  exact ⟨z11_3, z11_22⟩

/-! ### spec_IsContract: function 36 -/
def spec_IsContract.f (a0_0 : Int) (a0_1 : Int) (a0_2 : Int) : Option (Bool) := (spec_l10Contract.f a0_0 a0_1 a0_2).bind fun t378 => (some t378)
set_option maxHeartbeats 8000000 in
set_option maxRecDepth 100000 in
theorem spec_IsContract.calls (a0_0 : Int) (a0_1 : Int) (a0_2 : Int) (r : Bool) (w : World) (h : spec_IsContract.f a0_0 a0_1 a0_2 = some r) :
  Calls Try.prog 36 #[.agg #[.int .i64 a0_0, .int .i64 a0_1, .int .i64 a0_2]] w fun e w' => e = .returned (.bool r) ∧ Below w.heap.size w w' := by
 have hu32 := Try.underlying32
 have HB := z11_A (Below.refl w.heap.size w)
 have H : ((spec_l10Contract.f a0_0 a0_1 a0_2).bind fun t378 => (some t378)) = some r := h
 clear h
 replace H := Option.bind_eq_some_iff.mp H
 obtain ⟨t378, A20, H⟩ := H
 (try dsimp only at H)
 have A2 := z11_A A20
 clear A20
 obtain rfl := Option.some.inj H
 go_enter Try.func36, Try.ntmps36
 go_wp2_with (first | ((with_reducible refine gate_dst (N := 1) rfl ?_); refine box_event ?hg (N := 1) ?hd (cs := #[.int .i64 a0_0, .int .i64 a0_1, .int .i64 a0_2]) (t := 32) ?hr ?_; (case hd => rfl); (case hg => rfl); (case hr => first | (go_simp; done) | (go_simp; rfl)); intro gb377 hg w3 hbox hb; have n0_ := z11_A (below_step z11_1 hb); have n1_ := z11_A (hbox); have n2_ := z11_A ((z11_8 : w.heap.size ≤ gb377)); have n3_ := z11_A ((z11_8 : w.heap.size ≤ gb377)); clear HB; revert n0_ n1_ n2_ n3_; intro HB BK377 GW377 GE377; clear hb hbox hg; have hcz4_0 : w3.cell? ⟨gb377, 0, none⟩ = some (.int .i64 a0_0) := (blk_cell BK377.out 0).trans rfl; have hcz4_1 : w3.cell? ⟨gb377, 1, none⟩ = some (.int .i64 a0_1) := (blk_cell BK377.out 1).trans rfl; have hcz4_2 : w3.cell? ⟨gb377, 2, none⟩ = some (.int .i64 a0_2) := (blk_cell BK377.out 2).trans rfl; have hfz4_0 := blk_frozen BK377.out 0; have hfz4_1 := blk_frozen BK377.out 1; have hfz4_2 := blk_frozen BK377.out 2) | ((with_reducible refine gate_callee (f := 78) rfl ?_); refine goesL_ (some 4) rfl rfl Try.func78 z11_29 rfl #[.agg #[.int .i64 a0_0, .int .i64 a0_1, .int .i64 a0_2]] rfl z11_2 ?_; (with_reducible refine (spec_l10Contract.calls a0_0 a0_1 a0_2 t378 _ A2.out).mono ?_); rintro e w5 ⟨rfl, hb⟩; refine ⟨_, rfl, ?_⟩; have n0_ := z11_A (blk_below (g := gb377) (o := .cells #[.int .i64 a0_0, .int .i64 a0_1, .int .i64 a0_2] 32 (0, 0)) (by (with_reducible repeat (first | refine blk_drewN ?_ _ | refine blk_drew ?_ | refine blk_alloc ?_ _)); exact BK377.out) hb); have n1_ := z11_A (below_step z11_50 hb); clear BK377 HB; revert n0_ n1_; intro BK377 HB; (try clear hb); (try clear hb2); (try clear hk); (try clear hi)))
 go_ret
 exact ⟨z11_3, z11_50⟩

/-! ### impl_SellerOrder: function 37 -/
def impl_SellerOrder.f (k : Nat) (l0_0 : List Int) (a0_1 : Int) (a0_2 : Int) (a0_3 : Int) (a1_0 : Int) (a1_1 : Int) (a1_2 : Int) : Option (Int × Bool) := (impl_isDeal.f k l0_0 a0_1 a0_2 a0_3 a1_0 a1_1 a1_2).bind fun t381 => (if t381 = true then ((impl_Market_sellerOrder.f k l0_0 a0_1 a0_2 a0_3 a1_0 a1_1 a1_2).bind fun t382 => (some (t382, true))) else (some (0, false)))
theorem impl_SellerOrder.mono : ∀ a0 a1 a2 a3 a4 a5 a6 k, LeO (impl_SellerOrder.f k a0 a1 a2 a3 a4 a5 a6) (impl_SellerOrder.f (k + 1) a0 a1 a2 a3 a4 a5 a6) := by
 intro a0 a1 a2 a3 a4 a5 a6 k
 unfold impl_SellerOrder.f
 repeat' first
   | (with_reducible exact impl_Market_sellerOrder.mono _ _ _ _ _ _ _ _)
   | (with_reducible exact impl_isDeal.mono _ _ _ _ _ _ _ _)
   | (with_reducible exact LeO.refl _)
   | (with_reducible exact LeO.none _)
   | (with_reducible refine LeO.ite ?_ ?_)
   | (with_reducible refine LeO.bind ?_ (fun _ => ?_))
   | exact impl_Market_sellerOrder.mono _ _ _ _ _ _ _ _
   | exact impl_isDeal.mono _ _ _ _ _ _ _ _
   | exact LeO.none _
   | refine LeO.ite ?_ ?_
   | refine LeO.bind ?_ (fun _ => ?_)
set_option maxHeartbeats 8000000 in
set_option maxRecDepth 100000 in
theorem impl_SellerOrder.calls (k : Nat) (A0_0 : Option Addr) (c0_0 : Nat) (l0_0 : List Int) (a0_1 : Int) (a0_2 : Int) (a0_3 : Int) (a1_0 : Int) (a1_1 : Int) (a1_2 : Int) (r1 : Int) (r2 : Bool) (w : World) (hr0_0 : Kd.C (Kd.int .i64) w A0_0 l0_0.length l0_0) (hc0_0 : l0_0.length ≤ c0_0) (h : impl_SellerOrder.f k l0_0 a0_1 a0_2 a0_3 a1_0 a1_1 a1_2 = some (r1, r2)) :
  Calls Try.prog 37 #[.agg #[.slice A0_0 l0_0.length c0_0, .int .i64 a0_1, .int .i64 a0_2, .int .i64 a0_3], .agg #[.int .i64 a1_0, .int .i64 a1_1, .int .i64 a1_2]] w fun e w' => e = .returned (.tuple #[.int .i64 r1, .bool r2]) ∧ Below w.heap.size w w' := by
 have hu30 := Try.underlying30
 have hu32 := Try.underlying32
 have HR0_0 := z11_A hr0_0
 have HC0_0 := z11_A hc0_0
 clear hr0_0 hc0_0
 have HB := z11_A (Below.refl w.heap.size w)
 have H : ((impl_isDeal.f k l0_0 a0_1 a0_2 a0_3 a1_0 a1_1 a1_2).bind fun t381 => (if t381 = true then ((impl_Market_sellerOrder.f k l0_0 a0_1 a0_2 a0_3 a1_0 a1_1 a1_2).bind fun t382 => (some (t382, true))) else (some (0, false)))) = some (r1, r2) := h
 clear h
 replace H := Option.bind_eq_some_iff.mp H
 obtain ⟨t381, A30, H⟩ := H
 (try dsimp only at H)
 have A3 := z11_A A30
 clear A30
 by_cases c4 : t381 = true
 ·subst c4
  have H1 : ((impl_Market_sellerOrder.f k l0_0 a0_1 a0_2 a0_3 a1_0 a1_1 a1_2).bind fun t382 => (some (t382, true))) = some (r1, r2) := z11_49
  clear H
  have H := H1
  clear H1
  replace H := Option.bind_eq_some_iff.mp H
  obtain ⟨t382, A50, H⟩ := H
  (try dsimp only at H)
  have A5 := z11_A A50
  clear A50
  simp only [Option.some.injEq, Prod.mk.injEq] at H
  obtain ⟨rfl, rfl⟩ := H
  go_enter Try.func37, Try.ntmps37
  go_wp2_with (first | ((with_reducible refine gate_dst (N := 2) rfl ?_); refine box_event ?hg (N := 2) ?hd (cs := #[.slice A0_0 l0_0.length c0_0, .int .i64 a0_1, .int .i64 a0_2, .int .i64 a0_3]) (t := 30) ?hr ?_; (case hd => rfl); (case hg => rfl); (case hr => first | (go_simp; done) | (go_simp; rfl)); intro gb379 hg w6 hbox hb; have n0_ := z11_A (below_step z11_1 hb); have n1_ := z11_A (hbox); have n2_ := z11_A ((z11_8 : w.heap.size ≤ gb379)); have n3_ := z11_A ((z11_8 : w.heap.size ≤ gb379)); clear HB; revert n0_ n1_ n2_ n3_; intro HB BK379 GW379 GE379; clear hb hbox hg) | ((with_reducible refine gate_dst (N := 3) rfl ?_); refine box_event ?hg (N := 3) ?hd (cs := #[.int .i64 a1_0, .int .i64 a1_1, .int .i64 a1_2]) (t := 32) ?hr ?_; (case hd => rfl); (case hg => rfl); (case hr => first | (go_simp; done) | (go_simp; rfl)); intro gb380 hg w7 hbox hb; have n0_ := z11_A (blk_below (g := gb379) (o := .cells #[.slice A0_0 l0_0.length c0_0, .int .i64 a0_1, .int .i64 a0_2, .int .i64 a0_3] 30 (0, 0)) z11_11 hb); have n1_ := z11_A (below_step z11_17 hb); have n2_ := z11_A (hbox); have n3_ := z11_A ((z11_67 : w.heap.size ≤ gb380)); have n4_ := z11_A ((z11_67 : w.heap.size ≤ gb380)); have n5_ := z11_A ((z11_52 : gb379 ≠ gb380)); have n6_ := z11_A ((z11_56 : gb380 ≠ gb379)); clear BK379 HB; revert n0_ n1_ n2_ n3_ n4_ n5_ n6_; intro BK379 HB BK380 GW380 GE380 NB379_380 NB380_379; clear hb hbox hg; have hnb8 := NB379_380.out; have hnc8 := NB380_379.out; have hcz9_0 : w7.cell? ⟨gb379, 0, none⟩ = some (.slice A0_0 l0_0.length c0_0) := (blk_cell BK379.out 0).trans rfl; have hcz9_1 : w7.cell? ⟨gb379, 1, none⟩ = some (.int .i64 a0_1) := (blk_cell BK379.out 1).trans rfl; have hcz9_2 : w7.cell? ⟨gb379, 2, none⟩ = some (.int .i64 a0_2) := (blk_cell BK379.out 2).trans rfl; have hcz9_3 : w7.cell? ⟨gb379, 3, none⟩ = some (.int .i64 a0_3) := (blk_cell BK379.out 3).trans rfl; have hfz9_0 := blk_frozen BK379.out 0; have hfz9_1 := blk_frozen BK379.out 1; have hfz9_2 := blk_frozen BK379.out 2; have hfz9_3 := blk_frozen BK379.out 3; have hcz10_0 : w7.cell? ⟨gb380, 0, none⟩ = some (.int .i64 a1_0) := (blk_cell BK380.out 0).trans rfl; have hcz10_1 : w7.cell? ⟨gb380, 1, none⟩ = some (.int .i64 a1_1) := (blk_cell BK380.out 1).trans rfl; have hcz10_2 : w7.cell? ⟨gb380, 2, none⟩ = some (.int .i64 a1_2) := (blk_cell BK380.out 2).trans rfl; have hfz10_0 := blk_frozen BK380.out 0; have hfz10_1 := blk_frozen BK380.out 1; have hfz10_2 := blk_frozen BK380.out 2) | ((with_reducible refine gate_callee (f := 64) rfl ?_); refine goesL_ (some 8) rfl rfl Try.func64 z11_29 rfl #[.agg #[.slice A0_0 l0_0.length c0_0, .int .i64 a0_1, .int .i64 a0_2, .int .i64 a0_3], .agg #[.int .i64 a1_0, .int .i64 a1_1, .int .i64 a1_2]] rfl z11_2 ?_; (with_reducible refine (impl_isDeal.calls k _ _ l0_0 a0_1 a0_2 a0_3 a1_0 a1_1 a1_2 true _ ?side1 ?side2 A3.out).mono ?_); (case side1 => have zh := (Kd.C_below HR0_0.out HB.out); exact z11_C); (case side2 => exact HC0_0.out); rintro e w11 ⟨rfl, hb⟩; refine ⟨_, rfl, ?_⟩; have n0_ := z11_A (blk_below (g := gb379) (o := .cells #[.slice A0_0 l0_0.length c0_0, .int .i64 a0_1, .int .i64 a0_2, .int .i64 a0_3] 30 (0, 0)) z11_11 hb); have n1_ := z11_A (blk_below (g := gb380) (o := .cells #[.int .i64 a1_0, .int .i64 a1_1, .int .i64 a1_2] 32 (0, 0)) z11_45 hb); have n2_ := z11_A (below_step z11_21 hb); clear BK379 BK380 HB; revert n0_ n1_ n2_; intro BK379 BK380 HB; (try clear hb); (try clear hb2); (try clear hk); (try clear hi); have hcz12_0 : w11.cell? ⟨gb379, 0, none⟩ = some (.slice A0_0 l0_0.length c0_0) := (blk_cell BK379.out 0).trans rfl; have hcz12_1 : w11.cell? ⟨gb379, 1, none⟩ = some (.int .i64 a0_1) := (blk_cell BK379.out 1).trans rfl; have hcz12_2 : w11.cell? ⟨gb379, 2, none⟩ = some (.int .i64 a0_2) := (blk_cell BK379.out 2).trans rfl; have hcz12_3 : w11.cell? ⟨gb379, 3, none⟩ = some (.int .i64 a0_3) := (blk_cell BK379.out 3).trans rfl; have hfz12_0 := blk_frozen BK379.out 0; have hfz12_1 := blk_frozen BK379.out 1; have hfz12_2 := blk_frozen BK379.out 2; have hfz12_3 := blk_frozen BK379.out 3; have hcz13_0 : w11.cell? ⟨gb380, 0, none⟩ = some (.int .i64 a1_0) := (blk_cell BK380.out 0).trans rfl; have hcz13_1 : w11.cell? ⟨gb380, 1, none⟩ = some (.int .i64 a1_1) := (blk_cell BK380.out 1).trans rfl; have hcz13_2 : w11.cell? ⟨gb380, 2, none⟩ = some (.int .i64 a1_2) := (blk_cell BK380.out 2).trans rfl; have hfz13_0 := blk_frozen BK380.out 0; have hfz13_1 := blk_frozen BK380.out 1; have hfz13_2 := blk_frozen BK380.out 2) | ((with_reducible refine gate_callee (f := 79) rfl ?_); refine goesL_ (some 12) rfl rfl Try.func79 z11_29 rfl #[.agg #[.slice A0_0 l0_0.length c0_0, .int .i64 a0_1, .int .i64 a0_2, .int .i64 a0_3], .agg #[.int .i64 a1_0, .int .i64 a1_1, .int .i64 a1_2]] rfl z11_2 ?_; (with_reducible refine (impl_Market_sellerOrder.calls k _ _ l0_0 a0_1 a0_2 a0_3 a1_0 a1_1 a1_2 t382 _ ?side1 ?side2 A5.out).mono ?_); (case side1 => have zh := (Kd.C_below HR0_0.out HB.out); exact z11_C); (case side2 => exact HC0_0.out); rintro e w14 ⟨rfl, hb⟩; refine ⟨_, rfl, ?_⟩; have n0_ := z11_A (blk_below (g := gb379) (o := .cells #[.slice A0_0 l0_0.length c0_0, .int .i64 a0_1, .int .i64 a0_2, .int .i64 a0_3] 30 (0, 0)) z11_11 hb); have n1_ := z11_A (blk_below (g := gb380) (o := .cells #[.int .i64 a1_0, .int .i64 a1_1, .int .i64 a1_2] 32 (0, 0)) z11_45 hb); have n2_ := z11_A (below_step z11_21 hb); clear BK379 BK380 HB; revert n0_ n1_ n2_; intro BK379 BK380 HB; (try clear hb); (try clear hb2); (try clear hk); (try clear hi)))
  go_ret2
  exact ⟨z11_3, z11_21⟩
 ·replace c4 := Bool.eq_false_iff.mpr c4
  subst c4
  have H1 : (some (0, false)) = some (r1, r2) := z11_30
  clear H
  have H := H1
  clear H1
  simp only [Option.some.injEq, Prod.mk.injEq] at H
  obtain ⟨rfl, rfl⟩ := H
  go_enter Try.func37, Try.ntmps37
  go_wp2_with (first | ((with_reducible refine gate_dst (N := 2) rfl ?_); refine box_event ?hg (N := 2) ?hd (cs := #[.slice A0_0 l0_0.length c0_0, .int .i64 a0_1, .int .i64 a0_2, .int .i64 a0_3]) (t := 30) ?hr ?_; (case hd => rfl); (case hg => rfl); (case hr => first | (go_simp; done) | (go_simp; rfl)); intro gb379 hg w15 hbox hb; have n0_ := z11_A (below_step z11_1 hb); have n1_ := z11_A (hbox); have n2_ := z11_A ((z11_8 : w.heap.size ≤ gb379)); have n3_ := z11_A ((z11_8 : w.heap.size ≤ gb379)); clear HB; revert n0_ n1_ n2_ n3_; intro HB BK379 GW379 GE379; clear hb hbox hg) | ((with_reducible refine gate_dst (N := 3) rfl ?_); refine box_event ?hg (N := 3) ?hd (cs := #[.int .i64 a1_0, .int .i64 a1_1, .int .i64 a1_2]) (t := 32) ?hr ?_; (case hd => rfl); (case hg => rfl); (case hr => first | (go_simp; done) | (go_simp; rfl)); intro gb380 hg w16 hbox hb; have n0_ := z11_A (blk_below (g := gb379) (o := .cells #[.slice A0_0 l0_0.length c0_0, .int .i64 a0_1, .int .i64 a0_2, .int .i64 a0_3] 30 (0, 0)) z11_11 hb); have n1_ := z11_A (below_step z11_17 hb); have n2_ := z11_A (hbox); have n3_ := z11_A ((z11_67 : w.heap.size ≤ gb380)); have n4_ := z11_A ((z11_67 : w.heap.size ≤ gb380)); have n5_ := z11_A ((z11_52 : gb379 ≠ gb380)); have n6_ := z11_A ((z11_56 : gb380 ≠ gb379)); clear BK379 HB; revert n0_ n1_ n2_ n3_ n4_ n5_ n6_; intro BK379 HB BK380 GW380 GE380 NB379_380 NB380_379; clear hb hbox hg; have hnb17 := NB379_380.out; have hnc17 := NB380_379.out; have hcz18_0 : w16.cell? ⟨gb379, 0, none⟩ = some (.slice A0_0 l0_0.length c0_0) := (blk_cell BK379.out 0).trans rfl; have hcz18_1 : w16.cell? ⟨gb379, 1, none⟩ = some (.int .i64 a0_1) := (blk_cell BK379.out 1).trans rfl; have hcz18_2 : w16.cell? ⟨gb379, 2, none⟩ = some (.int .i64 a0_2) := (blk_cell BK379.out 2).trans rfl; have hcz18_3 : w16.cell? ⟨gb379, 3, none⟩ = some (.int .i64 a0_3) := (blk_cell BK379.out 3).trans rfl; have hfz18_0 := blk_frozen BK379.out 0; have hfz18_1 := blk_frozen BK379.out 1; have hfz18_2 := blk_frozen BK379.out 2; have hfz18_3 := blk_frozen BK379.out 3; have hcz19_0 : w16.cell? ⟨gb380, 0, none⟩ = some (.int .i64 a1_0) := (blk_cell BK380.out 0).trans rfl; have hcz19_1 : w16.cell? ⟨gb380, 1, none⟩ = some (.int .i64 a1_1) := (blk_cell BK380.out 1).trans rfl; have hcz19_2 : w16.cell? ⟨gb380, 2, none⟩ = some (.int .i64 a1_2) := (blk_cell BK380.out 2).trans rfl; have hfz19_0 := blk_frozen BK380.out 0; have hfz19_1 := blk_frozen BK380.out 1; have hfz19_2 := blk_frozen BK380.out 2) | ((with_reducible refine gate_callee (f := 64) rfl ?_); refine goesL_ (some 8) rfl rfl Try.func64 z11_29 rfl #[.agg #[.slice A0_0 l0_0.length c0_0, .int .i64 a0_1, .int .i64 a0_2, .int .i64 a0_3], .agg #[.int .i64 a1_0, .int .i64 a1_1, .int .i64 a1_2]] rfl z11_2 ?_; (with_reducible refine (impl_isDeal.calls k _ _ l0_0 a0_1 a0_2 a0_3 a1_0 a1_1 a1_2 false _ ?side1 ?side2 A3.out).mono ?_); (case side1 => have zh := (Kd.C_below HR0_0.out HB.out); exact z11_C); (case side2 => exact HC0_0.out); rintro e w20 ⟨rfl, hb⟩; refine ⟨_, rfl, ?_⟩; have n0_ := z11_A (blk_below (g := gb379) (o := .cells #[.slice A0_0 l0_0.length c0_0, .int .i64 a0_1, .int .i64 a0_2, .int .i64 a0_3] 30 (0, 0)) z11_11 hb); have n1_ := z11_A (blk_below (g := gb380) (o := .cells #[.int .i64 a1_0, .int .i64 a1_1, .int .i64 a1_2] 32 (0, 0)) z11_45 hb); have n2_ := z11_A (below_step z11_21 hb); clear BK379 BK380 HB; revert n0_ n1_ n2_; intro BK379 BK380 HB; (try clear hb); (try clear hb2); (try clear hk); (try clear hi)))
  go_ret2
  exact ⟨z11_3, z11_21⟩

/-! ### spec_SellerOrder: function 38 -/
def spec_SellerOrder.f (k : Nat) (l0_0 : List Int) (a0_1 : Int) (a0_2 : Int) (a0_3 : Int) (a1_0 : Int) (a1_1 : Int) (a1_2 : Int) : Option (Int × Bool) := (spec_l10Both.f k l0_0 a0_1 a0_2 a0_3 a1_0 a1_1 a1_2).bind fun t385 => (if t385 = true then ((spec_l10Sold.f k l0_0 a0_1 a0_2 a0_3 a1_0 a1_1 a1_2).bind fun t386 => (some (t386, true))) else (some (0, false)))
theorem spec_SellerOrder.mono : ∀ a0 a1 a2 a3 a4 a5 a6 k, LeO (spec_SellerOrder.f k a0 a1 a2 a3 a4 a5 a6) (spec_SellerOrder.f (k + 1) a0 a1 a2 a3 a4 a5 a6) := by
 intro a0 a1 a2 a3 a4 a5 a6 k
 unfold spec_SellerOrder.f
 repeat' first
   | (with_reducible exact spec_l10Both.mono _ _ _ _ _ _ _ _)
   | (with_reducible exact spec_l10Sold.mono _ _ _ _ _ _ _ _)
   | (with_reducible exact LeO.refl _)
   | (with_reducible exact LeO.none _)
   | (with_reducible refine LeO.ite ?_ ?_)
   | (with_reducible refine LeO.bind ?_ (fun _ => ?_))
   | exact spec_l10Both.mono _ _ _ _ _ _ _ _
   | exact spec_l10Sold.mono _ _ _ _ _ _ _ _
   | exact LeO.none _
   | refine LeO.ite ?_ ?_
   | refine LeO.bind ?_ (fun _ => ?_)
set_option maxHeartbeats 8000000 in
set_option maxRecDepth 100000 in
theorem spec_SellerOrder.calls (k : Nat) (A0_0 : Option Addr) (c0_0 : Nat) (l0_0 : List Int) (a0_1 : Int) (a0_2 : Int) (a0_3 : Int) (a1_0 : Int) (a1_1 : Int) (a1_2 : Int) (r1 : Int) (r2 : Bool) (w : World) (hr0_0 : Kd.C (Kd.int .i64) w A0_0 l0_0.length l0_0) (hc0_0 : l0_0.length ≤ c0_0) (h : spec_SellerOrder.f k l0_0 a0_1 a0_2 a0_3 a1_0 a1_1 a1_2 = some (r1, r2)) :
  Calls Try.prog 38 #[.agg #[.slice A0_0 l0_0.length c0_0, .int .i64 a0_1, .int .i64 a0_2, .int .i64 a0_3], .agg #[.int .i64 a1_0, .int .i64 a1_1, .int .i64 a1_2]] w fun e w' => e = .returned (.tuple #[.int .i64 r1, .bool r2]) ∧ Below w.heap.size w w' := by
 have hu30 := Try.underlying30
 have hu32 := Try.underlying32
 have HR0_0 := z11_A hr0_0
 have HC0_0 := z11_A hc0_0
 clear hr0_0 hc0_0
 have HB := z11_A (Below.refl w.heap.size w)
 have H : ((spec_l10Both.f k l0_0 a0_1 a0_2 a0_3 a1_0 a1_1 a1_2).bind fun t385 => (if t385 = true then ((spec_l10Sold.f k l0_0 a0_1 a0_2 a0_3 a1_0 a1_1 a1_2).bind fun t386 => (some (t386, true))) else (some (0, false)))) = some (r1, r2) := h
 clear h
 replace H := Option.bind_eq_some_iff.mp H
 obtain ⟨t385, A30, H⟩ := H
 (try dsimp only at H)
 have A3 := z11_A A30
 clear A30
 by_cases c4 : t385 = true
 ·subst c4
  have H1 : ((spec_l10Sold.f k l0_0 a0_1 a0_2 a0_3 a1_0 a1_1 a1_2).bind fun t386 => (some (t386, true))) = some (r1, r2) := z11_49
  clear H
  have H := H1
  clear H1
  replace H := Option.bind_eq_some_iff.mp H
  obtain ⟨t386, A50, H⟩ := H
  (try dsimp only at H)
  have A5 := z11_A A50
  clear A50
  simp only [Option.some.injEq, Prod.mk.injEq] at H
  obtain ⟨rfl, rfl⟩ := H
  go_enter Try.func38, Try.ntmps38
  go_wp2_with (first | ((with_reducible refine gate_dst (N := 2) rfl ?_); refine box_event ?hg (N := 2) ?hd (cs := #[.slice A0_0 l0_0.length c0_0, .int .i64 a0_1, .int .i64 a0_2, .int .i64 a0_3]) (t := 30) ?hr ?_; (case hd => rfl); (case hg => rfl); (case hr => first | (go_simp; done) | (go_simp; rfl)); intro gb383 hg w6 hbox hb; have n0_ := z11_A (below_step z11_1 hb); have n1_ := z11_A (hbox); have n2_ := z11_A ((z11_8 : w.heap.size ≤ gb383)); have n3_ := z11_A ((z11_8 : w.heap.size ≤ gb383)); clear HB; revert n0_ n1_ n2_ n3_; intro HB BK383 GW383 GE383; clear hb hbox hg) | ((with_reducible refine gate_dst (N := 3) rfl ?_); refine box_event ?hg (N := 3) ?hd (cs := #[.int .i64 a1_0, .int .i64 a1_1, .int .i64 a1_2]) (t := 32) ?hr ?_; (case hd => rfl); (case hg => rfl); (case hr => first | (go_simp; done) | (go_simp; rfl)); intro gb384 hg w7 hbox hb; have n0_ := z11_A (blk_below (g := gb383) (o := .cells #[.slice A0_0 l0_0.length c0_0, .int .i64 a0_1, .int .i64 a0_2, .int .i64 a0_3] 30 (0, 0)) z11_10 hb); have n1_ := z11_A (below_step z11_16 hb); have n2_ := z11_A (hbox); have n3_ := z11_A ((z11_68 : w.heap.size ≤ gb384)); have n4_ := z11_A ((z11_68 : w.heap.size ≤ gb384)); have n5_ := z11_A ((z11_51 : gb383 ≠ gb384)); have n6_ := z11_A ((z11_55 : gb384 ≠ gb383)); clear BK383 HB; revert n0_ n1_ n2_ n3_ n4_ n5_ n6_; intro BK383 HB BK384 GW384 GE384 NB383_384 NB384_383; clear hb hbox hg; have hnb8 := NB383_384.out; have hnc8 := NB384_383.out; have hcz9_0 : w7.cell? ⟨gb383, 0, none⟩ = some (.slice A0_0 l0_0.length c0_0) := (blk_cell BK383.out 0).trans rfl; have hcz9_1 : w7.cell? ⟨gb383, 1, none⟩ = some (.int .i64 a0_1) := (blk_cell BK383.out 1).trans rfl; have hcz9_2 : w7.cell? ⟨gb383, 2, none⟩ = some (.int .i64 a0_2) := (blk_cell BK383.out 2).trans rfl; have hcz9_3 : w7.cell? ⟨gb383, 3, none⟩ = some (.int .i64 a0_3) := (blk_cell BK383.out 3).trans rfl; have hfz9_0 := blk_frozen BK383.out 0; have hfz9_1 := blk_frozen BK383.out 1; have hfz9_2 := blk_frozen BK383.out 2; have hfz9_3 := blk_frozen BK383.out 3; have hcz10_0 : w7.cell? ⟨gb384, 0, none⟩ = some (.int .i64 a1_0) := (blk_cell BK384.out 0).trans rfl; have hcz10_1 : w7.cell? ⟨gb384, 1, none⟩ = some (.int .i64 a1_1) := (blk_cell BK384.out 1).trans rfl; have hcz10_2 : w7.cell? ⟨gb384, 2, none⟩ = some (.int .i64 a1_2) := (blk_cell BK384.out 2).trans rfl; have hfz10_0 := blk_frozen BK384.out 0; have hfz10_1 := blk_frozen BK384.out 1; have hfz10_2 := blk_frozen BK384.out 2) | ((with_reducible refine gate_callee (f := 61) rfl ?_); refine goesL_ (some 8) rfl rfl Try.func61 z11_29 rfl #[.agg #[.slice A0_0 l0_0.length c0_0, .int .i64 a0_1, .int .i64 a0_2, .int .i64 a0_3], .agg #[.int .i64 a1_0, .int .i64 a1_1, .int .i64 a1_2]] rfl z11_2 ?_; (with_reducible refine (spec_l10Both.calls k _ _ l0_0 a0_1 a0_2 a0_3 a1_0 a1_1 a1_2 true _ ?side1 ?side2 A3.out).mono ?_); (case side1 => have zh := (Kd.C_below HR0_0.out HB.out); exact z11_C); (case side2 => exact HC0_0.out); rintro e w11 ⟨rfl, hb⟩; refine ⟨_, rfl, ?_⟩; have n0_ := z11_A (blk_below (g := gb383) (o := .cells #[.slice A0_0 l0_0.length c0_0, .int .i64 a0_1, .int .i64 a0_2, .int .i64 a0_3] 30 (0, 0)) z11_10 hb); have n1_ := z11_A (blk_below (g := gb384) (o := .cells #[.int .i64 a1_0, .int .i64 a1_1, .int .i64 a1_2] 32 (0, 0)) z11_44 hb); have n2_ := z11_A (below_step z11_20 hb); clear BK383 BK384 HB; revert n0_ n1_ n2_; intro BK383 BK384 HB; (try clear hb); (try clear hb2); (try clear hk); (try clear hi); have hcz12_0 : w11.cell? ⟨gb383, 0, none⟩ = some (.slice A0_0 l0_0.length c0_0) := (blk_cell BK383.out 0).trans rfl; have hcz12_1 : w11.cell? ⟨gb383, 1, none⟩ = some (.int .i64 a0_1) := (blk_cell BK383.out 1).trans rfl; have hcz12_2 : w11.cell? ⟨gb383, 2, none⟩ = some (.int .i64 a0_2) := (blk_cell BK383.out 2).trans rfl; have hcz12_3 : w11.cell? ⟨gb383, 3, none⟩ = some (.int .i64 a0_3) := (blk_cell BK383.out 3).trans rfl; have hfz12_0 := blk_frozen BK383.out 0; have hfz12_1 := blk_frozen BK383.out 1; have hfz12_2 := blk_frozen BK383.out 2; have hfz12_3 := blk_frozen BK383.out 3; have hcz13_0 : w11.cell? ⟨gb384, 0, none⟩ = some (.int .i64 a1_0) := (blk_cell BK384.out 0).trans rfl; have hcz13_1 : w11.cell? ⟨gb384, 1, none⟩ = some (.int .i64 a1_1) := (blk_cell BK384.out 1).trans rfl; have hcz13_2 : w11.cell? ⟨gb384, 2, none⟩ = some (.int .i64 a1_2) := (blk_cell BK384.out 2).trans rfl; have hfz13_0 := blk_frozen BK384.out 0; have hfz13_1 := blk_frozen BK384.out 1; have hfz13_2 := blk_frozen BK384.out 2) | ((with_reducible refine gate_callee (f := 80) rfl ?_); refine goesL_ (some 12) rfl rfl Try.func80 z11_29 rfl #[.agg #[.slice A0_0 l0_0.length c0_0, .int .i64 a0_1, .int .i64 a0_2, .int .i64 a0_3], .agg #[.int .i64 a1_0, .int .i64 a1_1, .int .i64 a1_2]] rfl z11_2 ?_; (with_reducible refine (spec_l10Sold.calls k _ _ l0_0 a0_1 a0_2 a0_3 a1_0 a1_1 a1_2 t386 _ ?side1 ?side2 A5.out).mono ?_); (case side1 => have zh := (Kd.C_below HR0_0.out HB.out); exact z11_C); (case side2 => exact HC0_0.out); rintro e w14 ⟨rfl, hb⟩; refine ⟨_, rfl, ?_⟩; have n0_ := z11_A (blk_below (g := gb383) (o := .cells #[.slice A0_0 l0_0.length c0_0, .int .i64 a0_1, .int .i64 a0_2, .int .i64 a0_3] 30 (0, 0)) z11_10 hb); have n1_ := z11_A (blk_below (g := gb384) (o := .cells #[.int .i64 a1_0, .int .i64 a1_1, .int .i64 a1_2] 32 (0, 0)) z11_44 hb); have n2_ := z11_A (below_step z11_20 hb); clear BK383 BK384 HB; revert n0_ n1_ n2_; intro BK383 BK384 HB; (try clear hb); (try clear hb2); (try clear hk); (try clear hi)))
  go_ret2
  exact ⟨z11_3, z11_20⟩
 ·replace c4 := Bool.eq_false_iff.mpr c4
  subst c4
  have H1 : (some (0, false)) = some (r1, r2) := z11_30
  clear H
  have H := H1
  clear H1
  simp only [Option.some.injEq, Prod.mk.injEq] at H
  obtain ⟨rfl, rfl⟩ := H
  go_enter Try.func38, Try.ntmps38
  go_wp2_with (first | ((with_reducible refine gate_dst (N := 2) rfl ?_); refine box_event ?hg (N := 2) ?hd (cs := #[.slice A0_0 l0_0.length c0_0, .int .i64 a0_1, .int .i64 a0_2, .int .i64 a0_3]) (t := 30) ?hr ?_; (case hd => rfl); (case hg => rfl); (case hr => first | (go_simp; done) | (go_simp; rfl)); intro gb383 hg w15 hbox hb; have n0_ := z11_A (below_step z11_1 hb); have n1_ := z11_A (hbox); have n2_ := z11_A ((z11_8 : w.heap.size ≤ gb383)); have n3_ := z11_A ((z11_8 : w.heap.size ≤ gb383)); clear HB; revert n0_ n1_ n2_ n3_; intro HB BK383 GW383 GE383; clear hb hbox hg) | ((with_reducible refine gate_dst (N := 3) rfl ?_); refine box_event ?hg (N := 3) ?hd (cs := #[.int .i64 a1_0, .int .i64 a1_1, .int .i64 a1_2]) (t := 32) ?hr ?_; (case hd => rfl); (case hg => rfl); (case hr => first | (go_simp; done) | (go_simp; rfl)); intro gb384 hg w16 hbox hb; have n0_ := z11_A (blk_below (g := gb383) (o := .cells #[.slice A0_0 l0_0.length c0_0, .int .i64 a0_1, .int .i64 a0_2, .int .i64 a0_3] 30 (0, 0)) z11_10 hb); have n1_ := z11_A (below_step z11_16 hb); have n2_ := z11_A (hbox); have n3_ := z11_A ((z11_68 : w.heap.size ≤ gb384)); have n4_ := z11_A ((z11_68 : w.heap.size ≤ gb384)); have n5_ := z11_A ((z11_51 : gb383 ≠ gb384)); have n6_ := z11_A ((z11_55 : gb384 ≠ gb383)); clear BK383 HB; revert n0_ n1_ n2_ n3_ n4_ n5_ n6_; intro BK383 HB BK384 GW384 GE384 NB383_384 NB384_383; clear hb hbox hg; have hnb17 := NB383_384.out; have hnc17 := NB384_383.out; have hcz18_0 : w16.cell? ⟨gb383, 0, none⟩ = some (.slice A0_0 l0_0.length c0_0) := (blk_cell BK383.out 0).trans rfl; have hcz18_1 : w16.cell? ⟨gb383, 1, none⟩ = some (.int .i64 a0_1) := (blk_cell BK383.out 1).trans rfl; have hcz18_2 : w16.cell? ⟨gb383, 2, none⟩ = some (.int .i64 a0_2) := (blk_cell BK383.out 2).trans rfl; have hcz18_3 : w16.cell? ⟨gb383, 3, none⟩ = some (.int .i64 a0_3) := (blk_cell BK383.out 3).trans rfl; have hfz18_0 := blk_frozen BK383.out 0; have hfz18_1 := blk_frozen BK383.out 1; have hfz18_2 := blk_frozen BK383.out 2; have hfz18_3 := blk_frozen BK383.out 3; have hcz19_0 : w16.cell? ⟨gb384, 0, none⟩ = some (.int .i64 a1_0) := (blk_cell BK384.out 0).trans rfl; have hcz19_1 : w16.cell? ⟨gb384, 1, none⟩ = some (.int .i64 a1_1) := (blk_cell BK384.out 1).trans rfl; have hcz19_2 : w16.cell? ⟨gb384, 2, none⟩ = some (.int .i64 a1_2) := (blk_cell BK384.out 2).trans rfl; have hfz19_0 := blk_frozen BK384.out 0; have hfz19_1 := blk_frozen BK384.out 1; have hfz19_2 := blk_frozen BK384.out 2) | ((with_reducible refine gate_callee (f := 61) rfl ?_); refine goesL_ (some 8) rfl rfl Try.func61 z11_29 rfl #[.agg #[.slice A0_0 l0_0.length c0_0, .int .i64 a0_1, .int .i64 a0_2, .int .i64 a0_3], .agg #[.int .i64 a1_0, .int .i64 a1_1, .int .i64 a1_2]] rfl z11_2 ?_; (with_reducible refine (spec_l10Both.calls k _ _ l0_0 a0_1 a0_2 a0_3 a1_0 a1_1 a1_2 false _ ?side1 ?side2 A3.out).mono ?_); (case side1 => have zh := (Kd.C_below HR0_0.out HB.out); exact z11_C); (case side2 => exact HC0_0.out); rintro e w20 ⟨rfl, hb⟩; refine ⟨_, rfl, ?_⟩; have n0_ := z11_A (blk_below (g := gb383) (o := .cells #[.slice A0_0 l0_0.length c0_0, .int .i64 a0_1, .int .i64 a0_2, .int .i64 a0_3] 30 (0, 0)) z11_10 hb); have n1_ := z11_A (blk_below (g := gb384) (o := .cells #[.int .i64 a1_0, .int .i64 a1_1, .int .i64 a1_2] 32 (0, 0)) z11_44 hb); have n2_ := z11_A (below_step z11_20 hb); clear BK383 BK384 HB; revert n0_ n1_ n2_; intro BK383 BK384 HB; (try clear hb); (try clear hb2); (try clear hk); (try clear hi)))
  go_ret2
  exact ⟨z11_3, z11_20⟩

/-! ### spec_DrawPayFor: function 39 -/
def spec_DrawPayFor.f (k : Nat) (l0 : List Int) : Option (List Int × Int × Int × Int × Int × Int) := (spec_l1Cur_market.f k l0 0 0).bind fun bt389 => ((spec_l1Cur_among.f l0 bt389.2.2.2.2.1 bt389.2.2.2.2.2 (([0, 1, 2, 3, 5, 8, 99, 100, (-1)] : List Int))).bind fun bt400 => ((spec_l1Cur_among.f l0 bt400.2.1 bt400.2.2 (([100, 80, 50, 25, 0, 101, (-1), 100] : List Int))).bind fun bt406 => (some (bt389.1, bt389.2.1, bt389.2.2.1, bt389.2.2.2.1, bt400.1, bt406.1))))
theorem spec_DrawPayFor.mono : ∀ a0 k, LeO (spec_DrawPayFor.f k a0) (spec_DrawPayFor.f (k + 1) a0) := by
 intro a0 k
 unfold spec_DrawPayFor.f
 repeat' first
   | (with_reducible exact spec_l1Cur_market.mono _ _ _ _)
   | (with_reducible exact LeO.refl _)
   | (with_reducible exact LeO.none _)
   | (with_reducible refine LeO.ite ?_ ?_)
   | (with_reducible refine LeO.bind ?_ (fun _ => ?_))
   | exact spec_l1Cur_market.mono _ _ _ _
   | exact LeO.none _
   | refine LeO.ite ?_ ?_
   | refine LeO.bind ?_ (fun _ => ?_)
set_option maxHeartbeats 8000000 in
set_option maxRecDepth 100000 in
theorem spec_DrawPayFor.calls (k : Nat) (A0 : Option Addr) (c0 : Nat) (l0 : List Int) (r1 : List Int) (r2 : Int) (r3 : Int) (r4 : Int) (r5 : Int) (r6 : Int) (w : World) (hr0 : Kd.C (Kd.int .u8) w A0 l0.length l0) (hc0 : l0.length ≤ c0) (h : spec_DrawPayFor.f k l0 = some (r1, r2, r3, r4, r5, r6)) :
  Calls Try.prog 39 #[.slice A0 l0.length c0] w fun e w' => ∃ v0_ : Value, e = .returned (.tuple #[.agg #[v0_, .int .i64 r2, .int .i64 r3, .int .i64 r4], .int .i64 r5, .int .i64 r6]) ∧ Kd.R (Kd.int .i64) 3 w' w.heap.size (fun _ => True) v0_ r1 ∧ Below w.heap.size w w' := by
 have hu30 := Try.underlying30
 have hu82 := Try.underlying82
 have HR0 := z11_A hr0
 have HC0 := z11_A hc0
 clear hr0 hc0
 have HB := z11_A (Below.refl w.heap.size w)
 have H : ((spec_l1Cur_market.f k l0 0 0).bind fun bt389 => ((spec_l1Cur_among.f l0 bt389.2.2.2.2.1 bt389.2.2.2.2.2 (([0, 1, 2, 3, 5, 8, 99, 100, (-1)] : List Int))).bind fun bt400 => ((spec_l1Cur_among.f l0 bt400.2.1 bt400.2.2 (([100, 80, 50, 25, 0, 101, (-1), 100] : List Int))).bind fun bt406 => (some (bt389.1, bt389.2.1, bt389.2.2.1, bt389.2.2.2.1, bt400.1, bt406.1))))) = some (r1, r2, r3, r4, r5, r6) := h
 clear h
 replace H := Option.bind_eq_some_iff.mp H
 obtain ⟨⟨t389, t392, t393, t394, t395, t396⟩, A20, H⟩ := H
 (try dsimp only at H)
 have A2 := z11_A A20
 clear A20
 obtain ⟨y397, hy397⟩ : ∃ y_ : List Int, y_ = (([0, 1, 2, 3, 5, 8, 99, 100, (-1)] : List Int)) := ⟨_, rfl⟩
 replace H : ((spec_l1Cur_among.f l0 t395 t396 y397).bind fun bt400 => ((spec_l1Cur_among.f l0 bt400.2.1 bt400.2.2 (([100, 80, 50, 25, 0, 101, (-1), 100] : List Int))).bind fun bt406 => (some (t389, t392, t393, t394, bt400.1, bt406.1)))) = some (r1, r2, r3, r4, r5, r6) := by first | (rw [hy397]; with_reducible exact H) | (have H2_ := (Option.bind_some _ _).symm.trans H; rw [hy397]; with_reducible exact H2_) | (have H2_ := (Option.bind_some _ _).symm.trans H; with_reducible exact H2_) | with_reducible exact H | (rw [hy397]; exact H) | exact H
 have Ny397 := z11_A hy397
 clear hy397
 replace H := Option.bind_eq_some_iff.mp H
 obtain ⟨⟨t400, t401, t402⟩, A30, H⟩ := H
 (try dsimp only at H)
 have A3 := z11_A A30
 clear A30
 obtain ⟨y403, hy403⟩ : ∃ y_ : List Int, y_ = (([100, 80, 50, 25, 0, 101, (-1), 100] : List Int)) := ⟨_, rfl⟩
 replace H : ((spec_l1Cur_among.f l0 t401 t402 y403).bind fun bt406 => (some (t389, t392, t393, t394, t400, bt406.1))) = some (r1, r2, r3, r4, r5, r6) := by first | (rw [hy403]; with_reducible exact H) | (have H2_ := (Option.bind_some _ _).symm.trans H; rw [hy403]; with_reducible exact H2_) | (have H2_ := (Option.bind_some _ _).symm.trans H; with_reducible exact H2_) | with_reducible exact H | (rw [hy403]; exact H) | exact H
 have Ny403 := z11_A hy403
 clear hy403
 replace H := Option.bind_eq_some_iff.mp H
 obtain ⟨⟨t406, t407, t408⟩, A40, H⟩ := H
 (try dsimp only at H)
 have A4 := z11_A A40
 clear A40
 simp only [Option.some.injEq, Prod.mk.injEq] at H
 obtain ⟨rfl, rfl, rfl, rfl, rfl, rfl⟩ := H
 go_enter Try.func39, Try.ntmps39
 go_wp2_with (first | ((with_reducible refine gate_dst (N := 2) rfl ?_); refine box_event ?hg (N := 2) ?hd (cs := #[.slice none 0 0, .int .i64 0, .int .i64 0, .int .i64 0]) (t := 30) ?hr ?_; (case hd => rfl); (case hg => rfl); (case hr => first | (go_simp; done) | (go_simp; rfl)); intro gb387 hg w5 hbox hb; have n0_ := z11_A (below_step z11_1 hb); have n1_ := z11_A (hbox); have n2_ := z11_A ((z11_8 : w.heap.size ≤ gb387)); have n3_ := z11_A ((z11_8 : w.heap.size ≤ gb387)); clear HB; revert n0_ n1_ n2_ n3_; intro HB BK387 GW387 GE387; clear hb hbox hg) | ((with_reducible refine gate_dst (N := 8) rfl ?_); refine box_event ?hg (N := 8) ?hd (cs := #[.slice A0 l0.length c0, .int .i64 0, .int .u64 0]) (t := 82) ?hr ?_; (case hd => rfl); (case hg => rfl); (case hr => first | (go_simp; done) | (go_simp; rfl)); intro gb388 hg w6 hbox hb; have n0_ := z11_A (blk_below (g := gb387) (o := .cells #[.slice none 0 0, .int .i64 0, .int .i64 0, .int .i64 0] 30 (0, 0)) z11_14 hb); have n1_ := z11_A (below_step z11_34 hb); have n2_ := z11_A (hbox); have n3_ := z11_A ((by rw [hg]; exact (below_size z11_34) : w.heap.size ≤ gb388)); have n4_ := z11_A ((by rw [hg]; exact (below_size z11_34) : w.heap.size ≤ gb388)); have n5_ := z11_A ((by rw [hg]; exact Nat.ne_of_lt (blk_lt (g := gb387) (o := .cells #[.slice none 0 0, .int .i64 0, .int .i64 0, .int .i64 0] 30 (0, 0)) z11_14) : gb387 ≠ gb388)); have n6_ := z11_A ((by rw [hg]; exact Nat.ne_of_gt (blk_lt (g := gb387) (o := .cells #[.slice none 0 0, .int .i64 0, .int .i64 0, .int .i64 0] 30 (0, 0)) z11_14) : gb388 ≠ gb387)); clear BK387 HB; revert n0_ n1_ n2_ n3_ n4_ n5_ n6_; intro BK387 HB BK388 GW388 GE388 NB387_388 NB388_387; clear hb hbox hg; have HI388 := z11_A (show IsS82 w _ gb388 l0 0 0 from ⟨_, _, (by (with_reducible repeat (first | refine blk_drewN ?_ _ | refine blk_drew ?_ | refine blk_alloc ?_ _)); exact BK388.out), GW388.out, HR0.out⟩); clear BK388) | ((with_reducible refine gate_callee (f := 81) rfl ?_); refine goesL_ (some 10) rfl rfl Try.func81 z11_29 rfl #[.pointer (some ⟨gb388, 0, none⟩)] rfl z11_2 ?_; (with_reducible refine (spec_l1Cur_market.calls k gb388 l0 0 0 t389 t392 t393 t394 t395 t396 w _ ?side1 ?side2 A2.out).mono ?_); (case side1 => repeat (first | (with_reducible first | exact HI388.out | apply IsS82.alloc | apply IsS82.drewN | apply IsS82.drew | apply IsS82.set_1 | apply IsS82.set_2 | refine IsS82.far ?_ NB388_387.out _) | exact HI388.out)); (case side2 => repeat (first | (with_reducible first | exact HB.out | apply below_alloc | apply pw_below_drewN | apply below_drew1 | refine below_set ?_ (IsS82.ge HI388.out) | refine below_set ?_ GE387.out) | exact HB.out)); rintro e w7 ⟨v390, rfl, ho0, hi, hb, hk⟩; refine ⟨_, rfl, ?_⟩; have n0_ := z11_A (KeepBut.blk hk (g' := gb387) (o := .cells #[.slice none 0 0, .int .i64 0, .int .i64 0, .int .i64 0] 30 (0, 0)) z11_14 NB387_388.out (by simp)); have n1_ := z11_A (Kd.R_lower ho0 (below_size z11_9)); have n2_ := z11_A (hb); have n3_ := z11_A (hi); clear BK387 HB HI388; revert n0_ n1_ n2_ n3_; intro BK387 HO391 HB HI388; (try clear hb); (try clear hb2); (try clear hk); (try clear hi); (try clear ho0)) | ((with_reducible refine gate_dst (N := 12) rfl ?_); refine Kd.R_lit (Kd.int .i64) _ 3 ?hg (N := 12) ?hd (xs := ([0, 1, 2, 3, 5, 8, 99, 100, (-1)] : List Int)) (inner := [.int .i64 0, .int .i64 1, .int .i64 2, .int .i64 3, .int .i64 5, .int .i64 8, .int .i64 99, .int .i64 100, .int .i64 (-1)]) (ok := fun _ => True) (okp := fun _ => True) ?hr ?hp (fun _ hk => hk) trivial (Below.refl _ _) (Nat.le_refl _) (by simp) ?_; (case hd => rfl); (case hg => rfl); (case hr => first | (go_simp; done) | (go_simp; rfl)); (case hp => exact (Reps.one (show Kd.M (Kd.int .i64) _ _ _ 0 [.int .i64 0] from rfl) (Reps.one (show Kd.M (Kd.int .i64) _ _ _ 1 [.int .i64 1] from rfl) (Reps.one (show Kd.M (Kd.int .i64) _ _ _ 2 [.int .i64 2] from rfl) (Reps.one (show Kd.M (Kd.int .i64) _ _ _ 3 [.int .i64 3] from rfl) (Reps.one (show Kd.M (Kd.int .i64) _ _ _ 5 [.int .i64 5] from rfl) (Reps.one (show Kd.M (Kd.int .i64) _ _ _ 8 [.int .i64 8] from rfl) (Reps.one (show Kd.M (Kd.int .i64) _ _ _ 99 [.int .i64 99] from rfl) (Reps.one (show Kd.M (Kd.int .i64) _ _ _ 100 [.int .i64 100] from rfl) (Reps.one (show Kd.M (Kd.int .i64) _ _ _ (-1) [.int .i64 (-1)] from rfl) (Reps.none _ _))))))))))); intro v398 w8 ho9 hb hg_ hnew_; clear hg_ hnew_; (first | rw [← Ny397.out] at ho9 | (simp only [Int.reduceToNat] at ho9; rw [← Ny397.out] at ho9)); have n0_ := z11_A (Kd.R_elder' z11_27 (Kd.R_base ho9) hb); have n1_ := z11_A (Kd.R_lower (Kd.R_new' ho9 (Kd.R_lt z11_27)) (below_size z11_9)); have n2_ := z11_A (blk_below (g := gb387) (o := .cells #[.slice none 0 0, .int .i64 0, .int .i64 0, .int .i64 0] 30 (0, 0)) z11_14 hb); have n3_ := z11_A (IsS82.below z11_48 hb); have n4_ := z11_A (below_step z11_9 hb); clear HO391 BK387 HI388 HB; revert n0_ n1_ n2_ n3_ n4_; intro HO391 HO399 BK387 HI388 HB; clear hb ho9; obtain ⟨Ao10, co10, eo10⟩ := Kd.R_slice HO399.out; subst eo10) | ((with_reducible refine gate_callee (f := 82) rfl ?_); refine goesL_ (some 13) rfl rfl Try.func82 z11_29 rfl #[.pointer (some ⟨gb388, 0, none⟩), .slice Ao10 y397.length co10] rfl z11_2 ?_; (with_reducible refine (spec_l1Cur_among.calls gb388 l0 t395 t396 _ _ y397 t400 t401 t402 w _ ?side1 ?side2 ?side3 ?side4 ?side5 A3.out).mono ?_); (case side1 => repeat (first | (with_reducible first | exact HI388.out | apply IsS82.alloc | apply IsS82.drewN | apply IsS82.drew | apply IsS82.set_1 | apply IsS82.set_2 | refine IsS82.far ?_ NB388_387.out _) | exact HI388.out)); (case side2 => repeat (first | (with_reducible first | exact HB.out | apply below_alloc | apply pw_below_drewN | apply below_drew1 | refine below_set ?_ (IsS82.ge HI388.out) | refine below_set ?_ GE387.out) | exact HB.out)); (case side3 => have zh := (Kd.R_reads' HO399.out).2.2; exact z11_C); (case side4 => exact (Kd.R_reads' HO399.out).2.1); (case side5 => exact far_slice (IsS82.own_ne HI388.out HO399.out z11_62)); rintro e w11 ⟨rfl, hi, hb, hk⟩; refine ⟨_, rfl, ?_⟩; have n0_ := z11_A (KeepBut.blk hk (g' := gb387) (o := .cells #[.slice none 0 0, .int .i64 0, .int .i64 0, .int .i64 0] 30 (0, 0)) z11_14 NB387_388.out (by simp)); have n1_ := z11_A (Kd.R_mono (Kd.R_keep (IsS82.apart (show IsS82 w _ gb388 l0 t395 t396 from by repeat (first | (with_reducible first | exact HI388.out | apply IsS82.alloc | apply IsS82.drewN | apply IsS82.drew | apply IsS82.set_1 | apply IsS82.set_2 | refine IsS82.far ?_ NB388_387.out _) | exact HI388.out)) z11_27 z11_62) hk (fun _ h => h.2)) (fun _ h => h.1)); have n2_ := z11_A (Kd.R_mono (Kd.R_keep (IsS82.apart (show IsS82 w _ gb388 l0 t395 t396 from by repeat (first | (with_reducible first | exact HI388.out | apply IsS82.alloc | apply IsS82.drewN | apply IsS82.drew | apply IsS82.set_1 | apply IsS82.set_2 | refine IsS82.far ?_ NB388_387.out _) | exact HI388.out)) z11_37 z11_62) hk (fun _ h => h.2)) (fun _ h => h.1)); have n3_ := z11_A (hb); have n4_ := z11_A (hi); clear BK387 HO391 HO399 HB HI388; revert n0_ n1_ n2_ n3_ n4_; intro BK387 HO391 HO399 HB HI388; (try clear hb); (try clear hb2); (try clear hk); (try clear hi)) | ((with_reducible refine gate_dst (N := 15) rfl ?_); refine Kd.R_lit (Kd.int .i64) _ 3 ?hg (N := 15) ?hd (xs := ([100, 80, 50, 25, 0, 101, (-1), 100] : List Int)) (inner := [.int .i64 100, .int .i64 80, .int .i64 50, .int .i64 25, .int .i64 0, .int .i64 101, .int .i64 (-1), .int .i64 100]) (ok := fun _ => True) (okp := fun _ => True) ?hr ?hp (fun _ hk => hk) trivial (Below.refl _ _) (Nat.le_refl _) (by simp) ?_; (case hd => rfl); (case hg => rfl); (case hr => first | (go_simp; done) | (go_simp; rfl)); (case hp => exact (Reps.one (show Kd.M (Kd.int .i64) _ _ _ 100 [.int .i64 100] from rfl) (Reps.one (show Kd.M (Kd.int .i64) _ _ _ 80 [.int .i64 80] from rfl) (Reps.one (show Kd.M (Kd.int .i64) _ _ _ 50 [.int .i64 50] from rfl) (Reps.one (show Kd.M (Kd.int .i64) _ _ _ 25 [.int .i64 25] from rfl) (Reps.one (show Kd.M (Kd.int .i64) _ _ _ 0 [.int .i64 0] from rfl) (Reps.one (show Kd.M (Kd.int .i64) _ _ _ 101 [.int .i64 101] from rfl) (Reps.one (show Kd.M (Kd.int .i64) _ _ _ (-1) [.int .i64 (-1)] from rfl) (Reps.one (show Kd.M (Kd.int .i64) _ _ _ 100 [.int .i64 100] from rfl) (Reps.none _ _)))))))))); intro v404 w12 ho13 hb hg_ hnew_; clear hg_ hnew_; (first | rw [← Ny403.out] at ho13 | (simp only [Int.reduceToNat] at ho13; rw [← Ny403.out] at ho13)); have n0_ := z11_A (Kd.R_elder' z11_27 (Kd.R_base ho13) hb); have n1_ := z11_A (Kd.R_elder' z11_37 (Kd.R_base ho13) hb); have n2_ := z11_A (Kd.R_lower (Kd.R_new' (Kd.R_new' ho13 (Kd.R_lt z11_27)) (Kd.R_lt z11_37)) (below_size z11_9)); have n3_ := z11_A (blk_below (g := gb387) (o := .cells #[.slice none 0 0, .int .i64 0, .int .i64 0, .int .i64 0] 30 (0, 0)) z11_14 hb); have n4_ := z11_A (IsS82.below z11_48 hb); have n5_ := z11_A (below_step z11_9 hb); clear HO391 HO399 BK387 HI388 HB; revert n0_ n1_ n2_ n3_ n4_ n5_; intro HO391 HO399 HO405 BK387 HI388 HB; clear hb ho13; obtain ⟨Ao14, co14, eo14⟩ := Kd.R_slice HO405.out; subst eo14) | ((with_reducible refine gate_callee (f := 82) rfl ?_); refine goesL_ (some 16) rfl rfl Try.func82 z11_29 rfl #[.pointer (some ⟨gb388, 0, none⟩), .slice Ao14 y403.length co14] rfl z11_2 ?_; (with_reducible refine (spec_l1Cur_among.calls gb388 l0 t401 t402 _ _ y403 t406 t407 t408 w _ ?side1 ?side2 ?side3 ?side4 ?side5 A4.out).mono ?_); (case side1 => repeat (first | (with_reducible first | exact HI388.out | apply IsS82.alloc | apply IsS82.drewN | apply IsS82.drew | apply IsS82.set_1 | apply IsS82.set_2 | refine IsS82.far ?_ NB388_387.out _) | exact HI388.out)); (case side2 => repeat (first | (with_reducible first | exact HB.out | apply below_alloc | apply pw_below_drewN | apply below_drew1 | refine below_set ?_ (IsS82.ge HI388.out) | refine below_set ?_ GE387.out) | exact HB.out)); (case side3 => have zh := (Kd.R_reads' HO405.out).2.2; exact z11_C); (case side4 => exact (Kd.R_reads' HO405.out).2.1); (case side5 => exact far_slice (IsS82.own_ne HI388.out HO405.out z11_62)); rintro e w15 ⟨rfl, hi, hb, hk⟩; refine ⟨_, rfl, ?_⟩; have n0_ := z11_A (KeepBut.blk hk (g' := gb387) (o := .cells #[.slice none 0 0, .int .i64 0, .int .i64 0, .int .i64 0] 30 (0, 0)) z11_14 NB387_388.out (by simp)); have n1_ := z11_A (Kd.R_mono (Kd.R_keep (IsS82.apart (show IsS82 w _ gb388 l0 t401 t402 from by repeat (first | (with_reducible first | exact HI388.out | apply IsS82.alloc | apply IsS82.drewN | apply IsS82.drew | apply IsS82.set_1 | apply IsS82.set_2 | refine IsS82.far ?_ NB388_387.out _) | exact HI388.out)) z11_27 z11_62) hk (fun _ h => h.2)) (fun _ h => h.1)); have n2_ := z11_A (Kd.R_mono (Kd.R_keep (IsS82.apart (show IsS82 w _ gb388 l0 t401 t402 from by repeat (first | (with_reducible first | exact HI388.out | apply IsS82.alloc | apply IsS82.drewN | apply IsS82.drew | apply IsS82.set_1 | apply IsS82.set_2 | refine IsS82.far ?_ NB388_387.out _) | exact HI388.out)) z11_37 z11_62) hk (fun _ h => h.2)) (fun _ h => h.1)); have n3_ := z11_A (Kd.R_mono (Kd.R_keep (IsS82.apart (show IsS82 w _ gb388 l0 t401 t402 from by repeat (first | (with_reducible first | exact HI388.out | apply IsS82.alloc | apply IsS82.drewN | apply IsS82.drew | apply IsS82.set_1 | apply IsS82.set_2 | refine IsS82.far ?_ NB388_387.out _) | exact HI388.out)) (by (with_reducible repeat (first | apply Kd.R_alloc | apply Kd.R_drewN | apply Kd.R_drew)); exact HO405.out) z11_62) hk (fun _ h => h.2)) (fun _ h => h.1)); have n4_ := z11_A (hb); have n5_ := z11_A (hi); clear BK387 HO391 HO399 HO405 HB HI388; revert n0_ n1_ n2_ n3_ n4_ n5_; intro BK387 HO391 HO399 HO405 HB HI388; (try clear hb); (try clear hb2); (try clear hk); (try clear hi); obtain ⟨Ao16, co16, eo16⟩ := Kd.R_slice HO391.out; subst eo16; have hnb17 := NB387_388.out; have hnc17 := NB388_387.out; have hcz18_0 : w15.cell? ⟨gb387, 0, none⟩ = some (.slice none 0 0) := (blk_cell BK387.out 0).trans rfl; have hcz18_1 : w15.cell? ⟨gb387, 1, none⟩ = some (.int .i64 0) := (blk_cell BK387.out 1).trans rfl; have hcz18_2 : w15.cell? ⟨gb387, 2, none⟩ = some (.int .i64 0) := (blk_cell BK387.out 2).trans rfl; have hcz18_3 : w15.cell? ⟨gb387, 3, none⟩ = some (.int .i64 0) := (blk_cell BK387.out 3).trans rfl; have hfz18_0 := blk_frozen BK387.out 0; have hfz18_1 := blk_frozen BK387.out 1; have hfz18_2 := blk_frozen BK387.out 2; have hfz18_3 := blk_frozen BK387.out 3))
 refine bodyPost_ret (results_ctt rfl _ _ gb387 30 #[.slice Ao16 t389.length co16, .int .i64 t392, .int .i64 t393, .int .i64 t394] (0, 0) _ rfl (by (with_reducible repeat (first | refine blk_drewN ?_ _ | refine blk_drew ?_ | refine blk_alloc ?_ _)); refine blk_put (cs := #[.slice Ao16 t389.length co16, .int .i64 t392, .int .i64 t393, .int .i64 0]) ?_ 3 _ rfl; (with_reducible repeat (first | refine blk_drewN ?_ _ | refine blk_drew ?_ | refine blk_alloc ?_ _)); refine blk_put (cs := #[.slice Ao16 t389.length co16, .int .i64 t392, .int .i64 0, .int .i64 0]) ?_ 2 _ rfl; (with_reducible repeat (first | refine blk_drewN ?_ _ | refine blk_drew ?_ | refine blk_alloc ?_ _)); refine blk_put (cs := #[.slice Ao16 t389.length co16, .int .i64 0, .int .i64 0, .int .i64 0]) ?_ 1 _ rfl; (with_reducible repeat (first | refine blk_drewN ?_ _ | refine blk_drew ?_ | refine blk_alloc ?_ _)); refine blk_put (cs := #[.slice none 0 0, .int .i64 0, .int .i64 0, .int .i64 0]) ?_ 0 _ rfl; (with_reducible repeat (first | refine blk_drewN ?_ _ | refine blk_drew ?_ | refine blk_alloc ?_ _)); exact BK387.out) Try.underlying30 rfl z11_29) rfl ?_
 exact ⟨_, z11_3, by (with_reducible repeat (first | apply Kd.R_alloc | apply Kd.R_drewN | apply Kd.R_drew)); exact Kd.R_mono (Kd.R_far (p := ⟨gb387, 3, none⟩) (Kd.R_far (p := ⟨gb387, 2, none⟩) (Kd.R_far (p := ⟨gb387, 1, none⟩) (Kd.R_far (p := ⟨gb387, 0, none⟩) (Kd.R_types HO391.out BK387.out z11_62) (fun _ hk => hk.2) (.slice Ao16 t389.length co16)) (fun _ hk => hk.2) (.int .i64 t392)) (fun _ hk => hk.2) (.int .i64 t393)) (fun _ hk => hk.2) (.int .i64 t394)) (fun _ hk => trivial), z11_9⟩

/-! ### impl_PayFor: function 40 -/
def impl_PayFor.f (k : Nat) (l0_0 : List Int) (a0_1 : Int) (a0_2 : Int) (a0_3 : Int) (a1 : Int) (a2 : Int) : Option (Int × Bool) := (impl_isDeal.f k l0_0 a0_1 a0_2 a0_3 0 a1 a2).bind fun t410 => (if t410 = true then ((impl_Market_payFor.f k l0_0 a0_1 a0_2 a0_3 a1 a2).bind fun bt411 => (some (bt411.1, bt411.2))) else (some (0, false)))
theorem impl_PayFor.mono : ∀ a0 a1 a2 a3 a4 a5 k, LeO (impl_PayFor.f k a0 a1 a2 a3 a4 a5) (impl_PayFor.f (k + 1) a0 a1 a2 a3 a4 a5) := by
 intro a0 a1 a2 a3 a4 a5 k
 unfold impl_PayFor.f
 repeat' first
   | (with_reducible exact impl_Market_payFor.mono _ _ _ _ _ _ _)
   | (with_reducible exact impl_isDeal.mono _ _ _ _ _ _ _ _)
   | (with_reducible exact LeO.refl _)
   | (with_reducible exact LeO.none _)
   | (with_reducible refine LeO.ite ?_ ?_)
   | (with_reducible refine LeO.bind ?_ (fun _ => ?_))
   | exact impl_Market_payFor.mono _ _ _ _ _ _ _
   | exact impl_isDeal.mono _ _ _ _ _ _ _ _
   | exact LeO.none _
   | refine LeO.ite ?_ ?_
   | refine LeO.bind ?_ (fun _ => ?_)
set_option maxHeartbeats 8000000 in
set_option maxRecDepth 100000 in
theorem impl_PayFor.calls (k : Nat) (A0_0 : Option Addr) (c0_0 : Nat) (l0_0 : List Int) (a0_1 : Int) (a0_2 : Int) (a0_3 : Int) (a1 : Int) (a2 : Int) (r1 : Int) (r2 : Bool) (w : World) (hr0_0 : Kd.C (Kd.int .i64) w A0_0 l0_0.length l0_0) (hc0_0 : l0_0.length ≤ c0_0) (h : impl_PayFor.f k l0_0 a0_1 a0_2 a0_3 a1 a2 = some (r1, r2)) :
  Calls Try.prog 40 #[.agg #[.slice A0_0 l0_0.length c0_0, .int .i64 a0_1, .int .i64 a0_2, .int .i64 a0_3], .int .i64 a1, .int .i64 a2] w fun e w' => e = .returned (.tuple #[.int .i64 r1, .bool r2]) ∧ Below w.heap.size w w' := by
 have hu30 := Try.underlying30
 have hu32 := Try.underlying32
 have HR0_0 := z11_A hr0_0
 have HC0_0 := z11_A hc0_0
 clear hr0_0 hc0_0
 have HB := z11_A (Below.refl w.heap.size w)
 have H : ((impl_isDeal.f k l0_0 a0_1 a0_2 a0_3 0 a1 a2).bind fun t410 => (if t410 = true then ((impl_Market_payFor.f k l0_0 a0_1 a0_2 a0_3 a1 a2).bind fun bt411 => (some (bt411.1, bt411.2))) else (some (0, false)))) = some (r1, r2) := h
 clear h
 replace H := Option.bind_eq_some_iff.mp H
 obtain ⟨t410, A40, H⟩ := H
 (try dsimp only at H)
 have A4 := z11_A A40
 clear A40
 by_cases c5 : t410 = true
 ·subst c5
  have H1 : ((impl_Market_payFor.f k l0_0 a0_1 a0_2 a0_3 a1 a2).bind fun bt411 => (some (bt411.1, bt411.2))) = some (r1, r2) := z11_49
  clear H
  have H := H1
  clear H1
  replace H := Option.bind_eq_some_iff.mp H
  obtain ⟨⟨t411, t412⟩, A60, H⟩ := H
  (try dsimp only at H)
  have A6 := z11_A A60
  clear A60
  simp only [Option.some.injEq, Prod.mk.injEq] at H
  obtain ⟨rfl, rfl⟩ := H
  go_enter Try.func40, Try.ntmps40
  go_wp2_with (first | ((with_reducible refine gate_dst (N := 3) rfl ?_); refine box_event ?hg (N := 3) ?hd (cs := #[.slice A0_0 l0_0.length c0_0, .int .i64 a0_1, .int .i64 a0_2, .int .i64 a0_3]) (t := 30) ?hr ?_; (case hd => rfl); (case hg => rfl); (case hr => first | (go_simp; done) | (go_simp; rfl)); intro gb409 hg w7 hbox hb; have n0_ := z11_A (below_step z11_1 hb); have n1_ := z11_A (hbox); have n2_ := z11_A ((z11_8 : w.heap.size ≤ gb409)); have n3_ := z11_A ((z11_8 : w.heap.size ≤ gb409)); clear HB; revert n0_ n1_ n2_ n3_; intro HB BK409 GW409 GE409; clear hb hbox hg; have hcz8_0 : w7.cell? ⟨gb409, 0, none⟩ = some (.slice A0_0 l0_0.length c0_0) := (blk_cell BK409.out 0).trans rfl; have hcz8_1 : w7.cell? ⟨gb409, 1, none⟩ = some (.int .i64 a0_1) := (blk_cell BK409.out 1).trans rfl; have hcz8_2 : w7.cell? ⟨gb409, 2, none⟩ = some (.int .i64 a0_2) := (blk_cell BK409.out 2).trans rfl; have hcz8_3 : w7.cell? ⟨gb409, 3, none⟩ = some (.int .i64 a0_3) := (blk_cell BK409.out 3).trans rfl; have hfz8_0 := blk_frozen BK409.out 0; have hfz8_1 := blk_frozen BK409.out 1; have hfz8_2 := blk_frozen BK409.out 2; have hfz8_3 := blk_frozen BK409.out 3) | ((with_reducible refine gate_callee (f := 64) rfl ?_); refine goesL_ (some 12) rfl rfl Try.func64 z11_29 rfl #[.agg #[.slice A0_0 l0_0.length c0_0, .int .i64 a0_1, .int .i64 a0_2, .int .i64 a0_3], .agg #[.int .i64 0, .int .i64 a1, .int .i64 a2]] rfl z11_2 ?_; (with_reducible refine (impl_isDeal.calls k _ _ l0_0 a0_1 a0_2 a0_3 0 a1 a2 true _ ?side1 ?side2 A4.out).mono ?_); (case side1 => have zh := (Kd.C_below HR0_0.out HB.out); exact z11_C); (case side2 => exact HC0_0.out); rintro e w9 ⟨rfl, hb⟩; refine ⟨_, rfl, ?_⟩; have n0_ := z11_A (blk_below (g := gb409) (o := .cells #[.slice A0_0 l0_0.length c0_0, .int .i64 a0_1, .int .i64 a0_2, .int .i64 a0_3] 30 (0, 0)) z11_43 hb); have n1_ := z11_A (below_step z11_25 hb); clear BK409 HB; revert n0_ n1_; intro BK409 HB; (try clear hb); (try clear hb2); (try clear hk); (try clear hi); have hcz10_0 : w9.cell? ⟨gb409, 0, none⟩ = some (.slice A0_0 l0_0.length c0_0) := (blk_cell BK409.out 0).trans rfl; have hcz10_1 : w9.cell? ⟨gb409, 1, none⟩ = some (.int .i64 a0_1) := (blk_cell BK409.out 1).trans rfl; have hcz10_2 : w9.cell? ⟨gb409, 2, none⟩ = some (.int .i64 a0_2) := (blk_cell BK409.out 2).trans rfl; have hcz10_3 : w9.cell? ⟨gb409, 3, none⟩ = some (.int .i64 a0_3) := (blk_cell BK409.out 3).trans rfl; have hfz10_0 := blk_frozen BK409.out 0; have hfz10_1 := blk_frozen BK409.out 1; have hfz10_2 := blk_frozen BK409.out 2; have hfz10_3 := blk_frozen BK409.out 3) | ((with_reducible refine gate_callee (f := 71) rfl ?_); refine goesL_ (some 17) rfl rfl Try.func71 z11_29 rfl #[.agg #[.slice A0_0 l0_0.length c0_0, .int .i64 a0_1, .int .i64 a0_2, .int .i64 a0_3], .int .i64 a1, .int .i64 a2] rfl z11_2 ?_; (with_reducible refine (impl_Market_payFor.calls k _ _ l0_0 a0_1 a0_2 a0_3 a1 a2 t411 t412 _ ?side1 ?side2 A6.out).mono ?_); (case side1 => have zh := (Kd.C_below HR0_0.out HB.out); exact z11_C); (case side2 => exact HC0_0.out); rintro e w11 ⟨rfl, hb⟩; refine ⟨_, rfl, ?_⟩; have n0_ := z11_A (blk_below (g := gb409) (o := .cells #[.slice A0_0 l0_0.length c0_0, .int .i64 a0_1, .int .i64 a0_2, .int .i64 a0_3] 30 (0, 0)) z11_43 hb); have n1_ := z11_A (below_step z11_25 hb); clear BK409 HB; revert n0_ n1_; intro BK409 HB; (try clear hb); (try clear hb2); (try clear hk); (try clear hi)))
  go_ret2
  exact ⟨z11_3, z11_25⟩
 ·replace c5 := Bool.eq_false_iff.mpr c5
  subst c5
  have H1 : (some (0, false)) = some (r1, r2) := z11_30
  clear H
  have H := H1
  clear H1
  simp only [Option.some.injEq, Prod.mk.injEq] at H
  obtain ⟨rfl, rfl⟩ := H
  go_enter Try.func40, Try.ntmps40
  go_wp2_with (first | ((with_reducible refine gate_dst (N := 3) rfl ?_); refine box_event ?hg (N := 3) ?hd (cs := #[.slice A0_0 l0_0.length c0_0, .int .i64 a0_1, .int .i64 a0_2, .int .i64 a0_3]) (t := 30) ?hr ?_; (case hd => rfl); (case hg => rfl); (case hr => first | (go_simp; done) | (go_simp; rfl)); intro gb409 hg w12 hbox hb; have n0_ := z11_A (below_step z11_1 hb); have n1_ := z11_A (hbox); have n2_ := z11_A ((z11_8 : w.heap.size ≤ gb409)); have n3_ := z11_A ((z11_8 : w.heap.size ≤ gb409)); clear HB; revert n0_ n1_ n2_ n3_; intro HB BK409 GW409 GE409; clear hb hbox hg; have hcz13_0 : w12.cell? ⟨gb409, 0, none⟩ = some (.slice A0_0 l0_0.length c0_0) := (blk_cell BK409.out 0).trans rfl; have hcz13_1 : w12.cell? ⟨gb409, 1, none⟩ = some (.int .i64 a0_1) := (blk_cell BK409.out 1).trans rfl; have hcz13_2 : w12.cell? ⟨gb409, 2, none⟩ = some (.int .i64 a0_2) := (blk_cell BK409.out 2).trans rfl; have hcz13_3 : w12.cell? ⟨gb409, 3, none⟩ = some (.int .i64 a0_3) := (blk_cell BK409.out 3).trans rfl; have hfz13_0 := blk_frozen BK409.out 0; have hfz13_1 := blk_frozen BK409.out 1; have hfz13_2 := blk_frozen BK409.out 2; have hfz13_3 := blk_frozen BK409.out 3) | ((with_reducible refine gate_callee (f := 64) rfl ?_); refine goesL_ (some 12) rfl rfl Try.func64 z11_29 rfl #[.agg #[.slice A0_0 l0_0.length c0_0, .int .i64 a0_1, .int .i64 a0_2, .int .i64 a0_3], .agg #[.int .i64 0, .int .i64 a1, .int .i64 a2]] rfl z11_2 ?_; (with_reducible refine (impl_isDeal.calls k _ _ l0_0 a0_1 a0_2 a0_3 0 a1 a2 false _ ?side1 ?side2 A4.out).mono ?_); (case side1 => have zh := (Kd.C_below HR0_0.out HB.out); exact z11_C); (case side2 => exact HC0_0.out); rintro e w14 ⟨rfl, hb⟩; refine ⟨_, rfl, ?_⟩; have n0_ := z11_A (blk_below (g := gb409) (o := .cells #[.slice A0_0 l0_0.length c0_0, .int .i64 a0_1, .int .i64 a0_2, .int .i64 a0_3] 30 (0, 0)) z11_43 hb); have n1_ := z11_A (below_step z11_25 hb); clear BK409 HB; revert n0_ n1_; intro BK409 HB; (try clear hb); (try clear hb2); (try clear hk); (try clear hi)))
  go_ret2
  exact ⟨z11_3, z11_25⟩

/-! ### impl_JointOrder: function 43 (by hand) -/
def impl_JointOrder.f (k : Nat) (l0_0 : List Int) (a0_1 : Int) (a0_2 : Int) (a0_3 : Int) : Option (Int × Bool) := (impl_IsMarket.f k l0_0 a0_1 a0_2 a0_3).bind fun t => (if t = true then ((impl_mostOrder.m0 k l0_0 a0_1 a0_2 a0_3 0 1).bind fun q => some (q, true)) else (some (0, false)))
theorem impl_JointOrder.mono : ∀ a0 a1 a2 a3 k, LeO (impl_JointOrder.f k a0 a1 a2 a3) (impl_JointOrder.f (k + 1) a0 a1 a2 a3) := by
 intro a0 a1 a2 a3 k
 have ih0 := impl_mostOrder.mono_l k
 unfold impl_JointOrder.f
 repeat' first
  | (with_reducible exact ih0 _ _ _ _ _ _)
  | (with_reducible exact impl_IsMarket.mono _ _ _ _ _)
  | (with_reducible exact LeO.refl _)
  | (with_reducible exact LeO.none _)
  | (with_reducible refine LeO.ite ?_ ?_)
  | (with_reducible refine LeO.bind ?_ (fun _ => ?_))
theorem impl_JointOrder.bcell {W w1 : World} (hb : Below W.heap.size W w1) : (∀ b o, b < W.heap.size → w1.cell? ⟨b, o, none⟩ = W.cell? ⟨b, o, none⟩) ∧ (∀ b o, b < W.heap.size → w1.frozen? ⟨b, o, none⟩ = W.frozen? ⟨b, o, none⟩) :=
 ⟨fun b o h => hb.cell (p := ⟨b, o, none⟩) h, fun b o h => hb.frozen (p := ⟨b, o, none⟩) h⟩
set_option maxHeartbeats 8000000 in
set_option maxRecDepth 100000 in
theorem impl_JointOrder.calls (k : Nat) (A0_0 : Option Addr) (c0_0 : Nat) (l0_0 : List Int) (a0_1 : Int) (a0_2 : Int) (a0_3 : Int) (r1 : Int) (r2 : Bool) (w : World) (hr0_0 : Kd.C (Kd.int .i64) w A0_0 l0_0.length l0_0) (hc0_0 : l0_0.length ≤ c0_0) (h : impl_JointOrder.f k l0_0 a0_1 a0_2 a0_3 = some (r1, r2)) :
  Calls Try.prog 43 #[.agg #[.slice A0_0 l0_0.length c0_0, .int .i64 a0_1, .int .i64 a0_2, .int .i64 a0_3]] w fun e w' => e = .returned (.tuple #[.int .i64 r1, .bool r2]) ∧ Below w.heap.size w w' := by
 have hmf : ∀ (fn : Fn) (first cap : Array Value) (w : World), (Instr.makeFunc fn first cap).run Try.prog w = .ok (.func fn first cap) w := fun _ _ _ _ => rfl
 have HR0_0 := z11_A hr0_0
 have HC0_0 := z11_A hc0_0
 clear hr0_0 hc0_0
 unfold impl_JointOrder.f at h
 cases e1 : impl_IsMarket.f k l0_0 a0_1 a0_2 a0_3 with
 | none => rw [e1] at h; cases h
 | some t =>
  rw [e1, Option.bind_some] at h
  have E1 := z11_A e1
  clear e1
  cases t with
  | false =>
   simp only [Bool.false_eq_true, if_false, Option.some.injEq, Prod.mk.injEq] at h
   obtain ⟨rfl, rfl⟩ := h
   go_enter Try.func43, Try.ntmps43
   go_wp2_with fail
   refine (impl_IsMarket.calls k A0_0 c0_0 l0_0 a0_1 a0_2 a0_3 false _ (by repeat (first | exact HR0_0.out | (with_reducible refine Kd.C_alloc ?_ _))) HC0_0.out E1.out).mono ?_
   rintro e w1 ⟨rfl, hb1⟩
   have HB1 := z11_A hb1
   clear hb1
   go_wp2
   go_ret2
   exact ⟨rfl, below_step (below_alloc (Below.refl _ _) _) HB1.out⟩
  | true =>
   simp only [if_true] at h
   cases e2 : impl_mostOrder.m0 k l0_0 a0_1 a0_2 a0_3 0 1 with
   | none => rw [e2] at h; cases h
   | some q =>
    rw [e2, Option.bind_some] at h
    have E2 := z11_A e2
    clear e2
    simp only [Option.some.injEq, Prod.mk.injEq] at h
    obtain ⟨rfl, rfl⟩ := h
    go_enter Try.func43, Try.ntmps43
    go_wp2_with fail
    refine (impl_IsMarket.calls k A0_0 c0_0 l0_0 a0_1 a0_2 a0_3 true _ (by repeat (first | exact HR0_0.out | (with_reducible refine Kd.C_alloc ?_ _))) HC0_0.out E1.out).mono ?_
    rintro e w1 ⟨rfl, hb1⟩
    have HB1 := z11_A hb1
    obtain ⟨hc1, hf1⟩ := impl_JointOrder.bcell hb1
    clear hb1
    go_wp2_with fail
    refine (impl_mostOrder_joint k A0_0 c0_0 l0_0 a0_1 a0_2 a0_3 q _ (Kd.C_below HR0_0.out (below_step (below_alloc (Below.refl _ _) _) HB1.out)) HC0_0.out E2.out).mono ?_
    rintro e w2 ⟨rfl, hb2⟩
    have HB2 := z11_A hb2
    clear hb2
    go_wp2
    go_ret2
    exact ⟨rfl, below_step (below_step (below_alloc (Below.refl _ _) _) HB1.out) HB2.out⟩

/-! ### impl_isSale: function 88 -/
def impl_isSale.f (k : Nat) (l0_0 : List Int) (a0_1 : Int) (a0_2 : Int) (a0_3 : Int) (a1 : Int) : Option (Bool) := (impl_IsMarket.f k l0_0 a0_1 a0_2 a0_3).bind fun t414 => (if t414 = true then ((impl_within.f a1 0 8).bind fun t415 => (some t415)) else (some false))
theorem impl_isSale.mono : ∀ a0 a1 a2 a3 a4 k, LeO (impl_isSale.f k a0 a1 a2 a3 a4) (impl_isSale.f (k + 1) a0 a1 a2 a3 a4) := by
 intro a0 a1 a2 a3 a4 k
 unfold impl_isSale.f
 repeat' first
   | (with_reducible exact impl_IsMarket.mono _ _ _ _ _)
   | (with_reducible exact LeO.refl _)
   | (with_reducible exact LeO.none _)
   | (with_reducible refine LeO.ite ?_ ?_)
   | (with_reducible refine LeO.bind ?_ (fun _ => ?_))
   | exact impl_IsMarket.mono _ _ _ _ _
   | exact LeO.none _
   | refine LeO.ite ?_ ?_
   | refine LeO.bind ?_ (fun _ => ?_)
set_option maxHeartbeats 8000000 in
set_option maxRecDepth 100000 in
theorem impl_isSale.calls (k : Nat) (A0_0 : Option Addr) (c0_0 : Nat) (l0_0 : List Int) (a0_1 : Int) (a0_2 : Int) (a0_3 : Int) (a1 : Int) (r : Bool) (w : World) (hr0_0 : Kd.C (Kd.int .i64) w A0_0 l0_0.length l0_0) (hc0_0 : l0_0.length ≤ c0_0) (h : impl_isSale.f k l0_0 a0_1 a0_2 a0_3 a1 = some r) :
  Calls Try.prog 88 #[.agg #[.slice A0_0 l0_0.length c0_0, .int .i64 a0_1, .int .i64 a0_2, .int .i64 a0_3], .int .i64 a1] w fun e w' => e = .returned (.bool r) ∧ Below w.heap.size w w' := by
 have hu30 := Try.underlying30
 have HR0_0 := z11_A hr0_0
 have HC0_0 := z11_A hc0_0
 clear hr0_0 hc0_0
 have HB := z11_A (Below.refl w.heap.size w)
 have H : ((impl_IsMarket.f k l0_0 a0_1 a0_2 a0_3).bind fun t414 => (if t414 = true then ((impl_within.f a1 0 8).bind fun t415 => (some t415)) else (some false))) = some r := h
 clear h
 replace H := Option.bind_eq_some_iff.mp H
 obtain ⟨t414, A30, H⟩ := H
 (try dsimp only at H)
 have A3 := z11_A A30
 clear A30
 by_cases c4 : t414 = true
 ·subst c4
  have H1 : ((impl_within.f a1 0 8).bind fun t415 => (some t415)) = some r := z11_49
  clear H
  have H := H1
  clear H1
  replace H := Option.bind_eq_some_iff.mp H
  obtain ⟨t415, A50, H⟩ := H
  (try dsimp only at H)
  have A5 := z11_A A50
  clear A50
  obtain rfl := Option.some.inj H
  go_enter Try.func88, Try.ntmps88
  go_wp2_with (first | ((with_reducible refine gate_dst (N := 2) rfl ?_); refine box_event ?hg (N := 2) ?hd (cs := #[.slice A0_0 l0_0.length c0_0, .int .i64 a0_1, .int .i64 a0_2, .int .i64 a0_3]) (t := 30) ?hr ?_; (case hd => rfl); (case hg => rfl); (case hr => first | (go_simp; done) | (go_simp; rfl)); intro gb413 hg w6 hbox hb; have n0_ := z11_A (below_step z11_1 hb); have n1_ := z11_A (hbox); have n2_ := z11_A ((z11_8 : w.heap.size ≤ gb413)); have n3_ := z11_A ((z11_8 : w.heap.size ≤ gb413)); clear HB; revert n0_ n1_ n2_ n3_; intro HB BK413 GW413 GE413; clear hb hbox hg; have hcz7_0 : w6.cell? ⟨gb413, 0, none⟩ = some (.slice A0_0 l0_0.length c0_0) := (blk_cell BK413.out 0).trans rfl; have hcz7_1 : w6.cell? ⟨gb413, 1, none⟩ = some (.int .i64 a0_1) := (blk_cell BK413.out 1).trans rfl; have hcz7_2 : w6.cell? ⟨gb413, 2, none⟩ = some (.int .i64 a0_2) := (blk_cell BK413.out 2).trans rfl; have hcz7_3 : w6.cell? ⟨gb413, 3, none⟩ = some (.int .i64 a0_3) := (blk_cell BK413.out 3).trans rfl; have hfz7_0 := blk_frozen BK413.out 0; have hfz7_1 := blk_frozen BK413.out 1; have hfz7_2 := blk_frozen BK413.out 2; have hfz7_3 := blk_frozen BK413.out 3) | ((with_reducible refine gate_callee (f := 42) rfl ?_); refine goesL_ (some 6) rfl rfl Try.func42 z11_29 rfl #[.agg #[.slice A0_0 l0_0.length c0_0, .int .i64 a0_1, .int .i64 a0_2, .int .i64 a0_3]] rfl z11_2 ?_; (with_reducible refine (impl_IsMarket.calls k _ _ l0_0 a0_1 a0_2 a0_3 true _ ?side1 ?side2 A3.out).mono ?_); (case side1 => have zh := (Kd.C_below HR0_0.out HB.out); exact z11_C); (case side2 => exact HC0_0.out); rintro e w8 ⟨rfl, hb⟩; refine ⟨_, rfl, ?_⟩; have n0_ := z11_A (blk_below (g := gb413) (o := .cells #[.slice A0_0 l0_0.length c0_0, .int .i64 a0_1, .int .i64 a0_2, .int .i64 a0_3] 30 (0, 0)) z11_63 hb); have n1_ := z11_A (below_step z11_28 hb); clear BK413 HB; revert n0_ n1_; intro BK413 HB; (try clear hb); (try clear hb2); (try clear hk); (try clear hi)) | (go_at_call 77; (with_reducible refine (impl_within.calls a1 0 8 t415 _ A5.out).mono ?_); rintro e w' ⟨rfl, ⟨nd, rfl⟩⟩))
  go_ret
  exact ⟨z11_3, z11_28⟩
 ·replace c4 := Bool.eq_false_iff.mpr c4
  subst c4
  have H1 : (some false) = some r := z11_30
  clear H
  have H := H1
  clear H1
  obtain rfl := Option.some.inj H
  go_enter Try.func88, Try.ntmps88
  go_wp2_with (first | ((with_reducible refine gate_dst (N := 2) rfl ?_); refine box_event ?hg (N := 2) ?hd (cs := #[.slice A0_0 l0_0.length c0_0, .int .i64 a0_1, .int .i64 a0_2, .int .i64 a0_3]) (t := 30) ?hr ?_; (case hd => rfl); (case hg => rfl); (case hr => first | (go_simp; done) | (go_simp; rfl)); intro gb413 hg w9 hbox hb; have n0_ := z11_A (below_step z11_1 hb); have n1_ := z11_A (hbox); have n2_ := z11_A ((z11_8 : w.heap.size ≤ gb413)); have n3_ := z11_A ((z11_8 : w.heap.size ≤ gb413)); clear HB; revert n0_ n1_ n2_ n3_; intro HB BK413 GW413 GE413; clear hb hbox hg; have hcz10_0 : w9.cell? ⟨gb413, 0, none⟩ = some (.slice A0_0 l0_0.length c0_0) := (blk_cell BK413.out 0).trans rfl; have hcz10_1 : w9.cell? ⟨gb413, 1, none⟩ = some (.int .i64 a0_1) := (blk_cell BK413.out 1).trans rfl; have hcz10_2 : w9.cell? ⟨gb413, 2, none⟩ = some (.int .i64 a0_2) := (blk_cell BK413.out 2).trans rfl; have hcz10_3 : w9.cell? ⟨gb413, 3, none⟩ = some (.int .i64 a0_3) := (blk_cell BK413.out 3).trans rfl; have hfz10_0 := blk_frozen BK413.out 0; have hfz10_1 := blk_frozen BK413.out 1; have hfz10_2 := blk_frozen BK413.out 2; have hfz10_3 := blk_frozen BK413.out 3) | ((with_reducible refine gate_callee (f := 42) rfl ?_); refine goesL_ (some 6) rfl rfl Try.func42 z11_29 rfl #[.agg #[.slice A0_0 l0_0.length c0_0, .int .i64 a0_1, .int .i64 a0_2, .int .i64 a0_3]] rfl z11_2 ?_; (with_reducible refine (impl_IsMarket.calls k _ _ l0_0 a0_1 a0_2 a0_3 false _ ?side1 ?side2 A3.out).mono ?_); (case side1 => have zh := (Kd.C_below HR0_0.out HB.out); exact z11_C); (case side2 => exact HC0_0.out); rintro e w11 ⟨rfl, hb⟩; refine ⟨_, rfl, ?_⟩; have n0_ := z11_A (blk_below (g := gb413) (o := .cells #[.slice A0_0 l0_0.length c0_0, .int .i64 a0_1, .int .i64 a0_2, .int .i64 a0_3] 30 (0, 0)) z11_63 hb); have n1_ := z11_A (below_step z11_28 hb); clear BK413 HB; revert n0_ n1_; intro BK413 HB; (try clear hb); (try clear hb2); (try clear hk); (try clear hi)))
  go_ret
  exact ⟨z11_3, z11_28⟩

/-! ### impl_SellerProfit: function 44 -/
def impl_SellerProfit.f (k : Nat) (l0_0 : List Int) (a0_1 : Int) (a0_2 : Int) (a0_3 : Int) (a1_0 : Int) (a1_1 : Int) (a1_2 : Int) (a2 : Int) : Option (Int × Bool) := (impl_isSale.f k l0_0 a0_1 a0_2 a0_3 a2).bind fun t418 => (if t418 = true then ((impl_IsContract.f a1_0 a1_1 a1_2).bind fun t419 => (if t419 = true then ((impl_Market_seller.f k l0_0 a0_1 a0_2 a0_3 a1_0 a1_1 a1_2 a2).bind fun t420 => (some (t420, true))) else (some (0, false)))) else (some (0, false)))
theorem impl_SellerProfit.mono : ∀ a0 a1 a2 a3 a4 a5 a6 a7 k, LeO (impl_SellerProfit.f k a0 a1 a2 a3 a4 a5 a6 a7) (impl_SellerProfit.f (k + 1) a0 a1 a2 a3 a4 a5 a6 a7) := by
 intro a0 a1 a2 a3 a4 a5 a6 a7 k
 unfold impl_SellerProfit.f
 repeat' first
   | (with_reducible exact impl_Market_seller.mono _ _ _ _ _ _ _ _ _)
   | (with_reducible exact impl_isSale.mono _ _ _ _ _ _)
   | (with_reducible exact LeO.refl _)
   | (with_reducible exact LeO.none _)
   | (with_reducible refine LeO.ite ?_ ?_)
   | (with_reducible refine LeO.bind ?_ (fun _ => ?_))
   | exact impl_Market_seller.mono _ _ _ _ _ _ _ _ _
   | exact impl_isSale.mono _ _ _ _ _ _
   | exact LeO.none _
   | refine LeO.ite ?_ ?_
   | refine LeO.bind ?_ (fun _ => ?_)
set_option maxHeartbeats 8000000 in
set_option maxRecDepth 100000 in
theorem impl_SellerProfit.calls (k : Nat) (A0_0 : Option Addr) (c0_0 : Nat) (l0_0 : List Int) (a0_1 : Int) (a0_2 : Int) (a0_3 : Int) (a1_0 : Int) (a1_1 : Int) (a1_2 : Int) (a2 : Int) (r1 : Int) (r2 : Bool) (w : World) (hr0_0 : Kd.C (Kd.int .i64) w A0_0 l0_0.length l0_0) (hc0_0 : l0_0.length ≤ c0_0) (h : impl_SellerProfit.f k l0_0 a0_1 a0_2 a0_3 a1_0 a1_1 a1_2 a2 = some (r1, r2)) :
  Calls Try.prog 44 #[.agg #[.slice A0_0 l0_0.length c0_0, .int .i64 a0_1, .int .i64 a0_2, .int .i64 a0_3], .agg #[.int .i64 a1_0, .int .i64 a1_1, .int .i64 a1_2], .int .i64 a2] w fun e w' => e = .returned (.tuple #[.int .i64 r1, .bool r2]) ∧ Below w.heap.size w w' := by
 have hu30 := Try.underlying30
 have hu32 := Try.underlying32
 have HR0_0 := z11_A hr0_0
 have HC0_0 := z11_A hc0_0
 clear hr0_0 hc0_0
 have HB := z11_A (Below.refl w.heap.size w)
 have H : ((impl_isSale.f k l0_0 a0_1 a0_2 a0_3 a2).bind fun t418 => (if t418 = true then ((impl_IsContract.f a1_0 a1_1 a1_2).bind fun t419 => (if t419 = true then ((impl_Market_seller.f k l0_0 a0_1 a0_2 a0_3 a1_0 a1_1 a1_2 a2).bind fun t420 => (some (t420, true))) else (some (0, false)))) else (some (0, false)))) = some (r1, r2) := h
 clear h
 replace H := Option.bind_eq_some_iff.mp H
 obtain ⟨t418, A40, H⟩ := H
 (try dsimp only at H)
 have A4 := z11_A A40
 clear A40
 by_cases c5 : t418 = true
 ·subst c5
  have H1 : ((impl_IsContract.f a1_0 a1_1 a1_2).bind fun t419 => (if t419 = true then ((impl_Market_seller.f k l0_0 a0_1 a0_2 a0_3 a1_0 a1_1 a1_2 a2).bind fun t420 => (some (t420, true))) else (some (0, false)))) = some (r1, r2) := z11_49
  clear H
  have H := H1
  clear H1
  replace H := Option.bind_eq_some_iff.mp H
  obtain ⟨t419, A60, H⟩ := H
  (try dsimp only at H)
  have A6 := z11_A A60
  clear A60
  by_cases c7 : t419 = true
  ·subst c7
   have H1 : ((impl_Market_seller.f k l0_0 a0_1 a0_2 a0_3 a1_0 a1_1 a1_2 a2).bind fun t420 => (some (t420, true))) = some (r1, r2) := z11_49
   clear H
   have H := H1
   clear H1
   replace H := Option.bind_eq_some_iff.mp H
   obtain ⟨t420, A80, H⟩ := H
   (try dsimp only at H)
   have A8 := z11_A A80
   clear A80
   simp only [Option.some.injEq, Prod.mk.injEq] at H
   obtain ⟨rfl, rfl⟩ := H
   go_enter Try.func44, Try.ntmps44
   go_wp2_with (first | ((with_reducible refine gate_dst (N := 3) rfl ?_); refine box_event ?hg (N := 3) ?hd (cs := #[.slice A0_0 l0_0.length c0_0, .int .i64 a0_1, .int .i64 a0_2, .int .i64 a0_3]) (t := 30) ?hr ?_; (case hd => rfl); (case hg => rfl); (case hr => first | (go_simp; done) | (go_simp; rfl)); intro gb416 hg w9 hbox hb; have n0_ := z11_A (below_step z11_1 hb); have n1_ := z11_A (hbox); have n2_ := z11_A ((z11_8 : w.heap.size ≤ gb416)); have n3_ := z11_A ((z11_8 : w.heap.size ≤ gb416)); clear HB; revert n0_ n1_ n2_ n3_; intro HB BK416 GW416 GE416; clear hb hbox hg) | ((with_reducible refine gate_dst (N := 4) rfl ?_); refine box_event ?hg (N := 4) ?hd (cs := #[.int .i64 a1_0, .int .i64 a1_1, .int .i64 a1_2]) (t := 32) ?hr ?_; (case hd => rfl); (case hg => rfl); (case hr => first | (go_simp; done) | (go_simp; rfl)); intro gb417 hg w10 hbox hb; have n0_ := z11_A (blk_below (g := gb416) (o := .cells #[.slice A0_0 l0_0.length c0_0, .int .i64 a0_1, .int .i64 a0_2, .int .i64 a0_3] 30 (0, 0)) z11_4 hb); have n1_ := z11_A (below_step z11_6 hb); have n2_ := z11_A (hbox); have n3_ := z11_A ((z11_59 : w.heap.size ≤ gb417)); have n4_ := z11_A ((z11_59 : w.heap.size ≤ gb417)); have n5_ := z11_A ((z11_38 : gb416 ≠ gb417)); have n6_ := z11_A ((z11_39 : gb417 ≠ gb416)); clear BK416 HB; revert n0_ n1_ n2_ n3_ n4_ n5_ n6_; intro BK416 HB BK417 GW417 GE417 NB416_417 NB417_416; clear hb hbox hg; have hnb11 := NB416_417.out; have hnc11 := NB417_416.out; have hcz12_0 : w10.cell? ⟨gb416, 0, none⟩ = some (.slice A0_0 l0_0.length c0_0) := (blk_cell BK416.out 0).trans rfl; have hcz12_1 : w10.cell? ⟨gb416, 1, none⟩ = some (.int .i64 a0_1) := (blk_cell BK416.out 1).trans rfl; have hcz12_2 : w10.cell? ⟨gb416, 2, none⟩ = some (.int .i64 a0_2) := (blk_cell BK416.out 2).trans rfl; have hcz12_3 : w10.cell? ⟨gb416, 3, none⟩ = some (.int .i64 a0_3) := (blk_cell BK416.out 3).trans rfl; have hfz12_0 := blk_frozen BK416.out 0; have hfz12_1 := blk_frozen BK416.out 1; have hfz12_2 := blk_frozen BK416.out 2; have hfz12_3 := blk_frozen BK416.out 3) | ((with_reducible refine gate_callee (f := 88) rfl ?_); refine goesL_ (some 10) rfl rfl Try.func88 z11_29 rfl #[.agg #[.slice A0_0 l0_0.length c0_0, .int .i64 a0_1, .int .i64 a0_2, .int .i64 a0_3], .int .i64 a2] rfl z11_2 ?_; (with_reducible refine (impl_isSale.calls k _ _ l0_0 a0_1 a0_2 a0_3 a2 true _ ?side1 ?side2 A4.out).mono ?_); (case side1 => have zh := (Kd.C_below HR0_0.out HB.out); exact z11_C); (case side2 => exact HC0_0.out); rintro e w13 ⟨rfl, hb⟩; refine ⟨_, rfl, ?_⟩; have n0_ := z11_A (blk_below (g := gb416) (o := .cells #[.slice A0_0 l0_0.length c0_0, .int .i64 a0_1, .int .i64 a0_2, .int .i64 a0_3] 30 (0, 0)) z11_4 hb); have n1_ := z11_A (blk_below (g := gb417) (o := .cells #[.int .i64 a1_0, .int .i64 a1_1, .int .i64 a1_2] 32 (0, 0)) z11_26 hb); have n2_ := z11_A (below_step z11_5 hb); clear BK416 BK417 HB; revert n0_ n1_ n2_; intro BK416 BK417 HB; (try clear hb); (try clear hb2); (try clear hk); (try clear hi); have hcz14_0 : w13.cell? ⟨gb417, 0, none⟩ = some (.int .i64 a1_0) := (blk_cell BK417.out 0).trans rfl; have hcz14_1 : w13.cell? ⟨gb417, 1, none⟩ = some (.int .i64 a1_1) := (blk_cell BK417.out 1).trans rfl; have hcz14_2 : w13.cell? ⟨gb417, 2, none⟩ = some (.int .i64 a1_2) := (blk_cell BK417.out 2).trans rfl; have hfz14_0 := blk_frozen BK417.out 0; have hfz14_1 := blk_frozen BK417.out 1; have hfz14_2 := blk_frozen BK417.out 2) | (go_at_call 35; (with_reducible refine (impl_IsContract.calls a1_0 a1_1 a1_2 true _ A6.out).mono ?_); rintro e w15 ⟨rfl, hb⟩; have n0_ := z11_A (blk_below (g := gb416) (o := .cells #[.slice A0_0 l0_0.length c0_0, .int .i64 a0_1, .int .i64 a0_2, .int .i64 a0_3] 30 (0, 0)) z11_4 hb); have n1_ := z11_A (blk_below (g := gb417) (o := .cells #[.int .i64 a1_0, .int .i64 a1_1, .int .i64 a1_2] 32 (0, 0)) z11_26 hb); have n2_ := z11_A (below_step z11_5 hb); clear BK416 BK417 HB; revert n0_ n1_ n2_; intro BK416 BK417 HB; (try clear hb); (try clear hb2); (try clear hk); (try clear hi); have hcz16_0 : w15.cell? ⟨gb416, 0, none⟩ = some (.slice A0_0 l0_0.length c0_0) := (blk_cell BK416.out 0).trans rfl; have hcz16_1 : w15.cell? ⟨gb416, 1, none⟩ = some (.int .i64 a0_1) := (blk_cell BK416.out 1).trans rfl; have hcz16_2 : w15.cell? ⟨gb416, 2, none⟩ = some (.int .i64 a0_2) := (blk_cell BK416.out 2).trans rfl; have hcz16_3 : w15.cell? ⟨gb416, 3, none⟩ = some (.int .i64 a0_3) := (blk_cell BK416.out 3).trans rfl; have hfz16_0 := blk_frozen BK416.out 0; have hfz16_1 := blk_frozen BK416.out 1; have hfz16_2 := blk_frozen BK416.out 2; have hfz16_3 := blk_frozen BK416.out 3; have hcz17_0 : w15.cell? ⟨gb417, 0, none⟩ = some (.int .i64 a1_0) := (blk_cell BK417.out 0).trans rfl; have hcz17_1 : w15.cell? ⟨gb417, 1, none⟩ = some (.int .i64 a1_1) := (blk_cell BK417.out 1).trans rfl; have hcz17_2 : w15.cell? ⟨gb417, 2, none⟩ = some (.int .i64 a1_2) := (blk_cell BK417.out 2).trans rfl; have hfz17_0 := blk_frozen BK417.out 0; have hfz17_1 := blk_frozen BK417.out 1; have hfz17_2 := blk_frozen BK417.out 2) | ((with_reducible refine gate_callee (f := 89) rfl ?_); refine goesL_ (some 20) rfl rfl Try.func89 z11_29 rfl #[.agg #[.slice A0_0 l0_0.length c0_0, .int .i64 a0_1, .int .i64 a0_2, .int .i64 a0_3], .agg #[.int .i64 a1_0, .int .i64 a1_1, .int .i64 a1_2], .int .i64 a2] rfl z11_2 ?_; (with_reducible refine (impl_Market_seller.calls k _ _ l0_0 a0_1 a0_2 a0_3 a1_0 a1_1 a1_2 a2 t420 _ ?side1 ?side2 A8.out).mono ?_); (case side1 => have zh := (Kd.C_below HR0_0.out HB.out); exact z11_C); (case side2 => exact HC0_0.out); rintro e w18 ⟨rfl, hb⟩; refine ⟨_, rfl, ?_⟩; have n0_ := z11_A (blk_below (g := gb416) (o := .cells #[.slice A0_0 l0_0.length c0_0, .int .i64 a0_1, .int .i64 a0_2, .int .i64 a0_3] 30 (0, 0)) z11_4 hb); have n1_ := z11_A (blk_below (g := gb417) (o := .cells #[.int .i64 a1_0, .int .i64 a1_1, .int .i64 a1_2] 32 (0, 0)) z11_26 hb); have n2_ := z11_A (below_step z11_5 hb); clear BK416 BK417 HB; revert n0_ n1_ n2_; intro BK416 BK417 HB; (try clear hb); (try clear hb2); (try clear hk); (try clear hi)))
   go_ret2
   exact ⟨z11_3, z11_5⟩
  ·replace c7 := Bool.eq_false_iff.mpr c7
   subst c7
   have H1 : (some (0, false)) = some (r1, r2) := z11_30
   clear H
   have H := H1
   clear H1
   simp only [Option.some.injEq, Prod.mk.injEq] at H
   obtain ⟨rfl, rfl⟩ := H
   go_enter Try.func44, Try.ntmps44
   go_wp2_with (first | ((with_reducible refine gate_dst (N := 3) rfl ?_); refine box_event ?hg (N := 3) ?hd (cs := #[.slice A0_0 l0_0.length c0_0, .int .i64 a0_1, .int .i64 a0_2, .int .i64 a0_3]) (t := 30) ?hr ?_; (case hd => rfl); (case hg => rfl); (case hr => first | (go_simp; done) | (go_simp; rfl)); intro gb416 hg w19 hbox hb; have n0_ := z11_A (below_step z11_1 hb); have n1_ := z11_A (hbox); have n2_ := z11_A ((z11_8 : w.heap.size ≤ gb416)); have n3_ := z11_A ((z11_8 : w.heap.size ≤ gb416)); clear HB; revert n0_ n1_ n2_ n3_; intro HB BK416 GW416 GE416; clear hb hbox hg) | ((with_reducible refine gate_dst (N := 4) rfl ?_); refine box_event ?hg (N := 4) ?hd (cs := #[.int .i64 a1_0, .int .i64 a1_1, .int .i64 a1_2]) (t := 32) ?hr ?_; (case hd => rfl); (case hg => rfl); (case hr => first | (go_simp; done) | (go_simp; rfl)); intro gb417 hg w20 hbox hb; have n0_ := z11_A (blk_below (g := gb416) (o := .cells #[.slice A0_0 l0_0.length c0_0, .int .i64 a0_1, .int .i64 a0_2, .int .i64 a0_3] 30 (0, 0)) z11_4 hb); have n1_ := z11_A (below_step z11_6 hb); have n2_ := z11_A (hbox); have n3_ := z11_A ((z11_59 : w.heap.size ≤ gb417)); have n4_ := z11_A ((z11_59 : w.heap.size ≤ gb417)); have n5_ := z11_A ((z11_38 : gb416 ≠ gb417)); have n6_ := z11_A ((z11_39 : gb417 ≠ gb416)); clear BK416 HB; revert n0_ n1_ n2_ n3_ n4_ n5_ n6_; intro BK416 HB BK417 GW417 GE417 NB416_417 NB417_416; clear hb hbox hg; have hnb21 := NB416_417.out; have hnc21 := NB417_416.out; have hcz22_0 : w20.cell? ⟨gb416, 0, none⟩ = some (.slice A0_0 l0_0.length c0_0) := (blk_cell BK416.out 0).trans rfl; have hcz22_1 : w20.cell? ⟨gb416, 1, none⟩ = some (.int .i64 a0_1) := (blk_cell BK416.out 1).trans rfl; have hcz22_2 : w20.cell? ⟨gb416, 2, none⟩ = some (.int .i64 a0_2) := (blk_cell BK416.out 2).trans rfl; have hcz22_3 : w20.cell? ⟨gb416, 3, none⟩ = some (.int .i64 a0_3) := (blk_cell BK416.out 3).trans rfl; have hfz22_0 := blk_frozen BK416.out 0; have hfz22_1 := blk_frozen BK416.out 1; have hfz22_2 := blk_frozen BK416.out 2; have hfz22_3 := blk_frozen BK416.out 3) | ((with_reducible refine gate_callee (f := 88) rfl ?_); refine goesL_ (some 10) rfl rfl Try.func88 z11_29 rfl #[.agg #[.slice A0_0 l0_0.length c0_0, .int .i64 a0_1, .int .i64 a0_2, .int .i64 a0_3], .int .i64 a2] rfl z11_2 ?_; (with_reducible refine (impl_isSale.calls k _ _ l0_0 a0_1 a0_2 a0_3 a2 true _ ?side1 ?side2 A4.out).mono ?_); (case side1 => have zh := (Kd.C_below HR0_0.out HB.out); exact z11_C); (case side2 => exact HC0_0.out); rintro e w23 ⟨rfl, hb⟩; refine ⟨_, rfl, ?_⟩; have n0_ := z11_A (blk_below (g := gb416) (o := .cells #[.slice A0_0 l0_0.length c0_0, .int .i64 a0_1, .int .i64 a0_2, .int .i64 a0_3] 30 (0, 0)) z11_4 hb); have n1_ := z11_A (blk_below (g := gb417) (o := .cells #[.int .i64 a1_0, .int .i64 a1_1, .int .i64 a1_2] 32 (0, 0)) z11_26 hb); have n2_ := z11_A (below_step z11_5 hb); clear BK416 BK417 HB; revert n0_ n1_ n2_; intro BK416 BK417 HB; (try clear hb); (try clear hb2); (try clear hk); (try clear hi); have hcz24_0 : w23.cell? ⟨gb417, 0, none⟩ = some (.int .i64 a1_0) := (blk_cell BK417.out 0).trans rfl; have hcz24_1 : w23.cell? ⟨gb417, 1, none⟩ = some (.int .i64 a1_1) := (blk_cell BK417.out 1).trans rfl; have hcz24_2 : w23.cell? ⟨gb417, 2, none⟩ = some (.int .i64 a1_2) := (blk_cell BK417.out 2).trans rfl; have hfz24_0 := blk_frozen BK417.out 0; have hfz24_1 := blk_frozen BK417.out 1; have hfz24_2 := blk_frozen BK417.out 2) | (go_at_call 35; (with_reducible refine (impl_IsContract.calls a1_0 a1_1 a1_2 false _ A6.out).mono ?_); rintro e w25 ⟨rfl, hb⟩; have n0_ := z11_A (blk_below (g := gb416) (o := .cells #[.slice A0_0 l0_0.length c0_0, .int .i64 a0_1, .int .i64 a0_2, .int .i64 a0_3] 30 (0, 0)) z11_4 hb); have n1_ := z11_A (blk_below (g := gb417) (o := .cells #[.int .i64 a1_0, .int .i64 a1_1, .int .i64 a1_2] 32 (0, 0)) z11_26 hb); have n2_ := z11_A (below_step z11_5 hb); clear BK416 BK417 HB; revert n0_ n1_ n2_; intro BK416 BK417 HB; (try clear hb); (try clear hb2); (try clear hk); (try clear hi)))
   go_ret2
   exact ⟨z11_3, z11_5⟩
 ·replace c5 := Bool.eq_false_iff.mpr c5
  subst c5
  have H1 : (some (0, false)) = some (r1, r2) := z11_30
  clear H
  have H := H1
  clear H1
  simp only [Option.some.injEq, Prod.mk.injEq] at H
  obtain ⟨rfl, rfl⟩ := H
  go_enter Try.func44, Try.ntmps44
  go_wp2_with (first | ((with_reducible refine gate_dst (N := 3) rfl ?_); refine box_event ?hg (N := 3) ?hd (cs := #[.slice A0_0 l0_0.length c0_0, .int .i64 a0_1, .int .i64 a0_2, .int .i64 a0_3]) (t := 30) ?hr ?_; (case hd => rfl); (case hg => rfl); (case hr => first | (go_simp; done) | (go_simp; rfl)); intro gb416 hg w26 hbox hb; have n0_ := z11_A (below_step z11_1 hb); have n1_ := z11_A (hbox); have n2_ := z11_A ((z11_8 : w.heap.size ≤ gb416)); have n3_ := z11_A ((z11_8 : w.heap.size ≤ gb416)); clear HB; revert n0_ n1_ n2_ n3_; intro HB BK416 GW416 GE416; clear hb hbox hg) | ((with_reducible refine gate_dst (N := 4) rfl ?_); refine box_event ?hg (N := 4) ?hd (cs := #[.int .i64 a1_0, .int .i64 a1_1, .int .i64 a1_2]) (t := 32) ?hr ?_; (case hd => rfl); (case hg => rfl); (case hr => first | (go_simp; done) | (go_simp; rfl)); intro gb417 hg w27 hbox hb; have n0_ := z11_A (blk_below (g := gb416) (o := .cells #[.slice A0_0 l0_0.length c0_0, .int .i64 a0_1, .int .i64 a0_2, .int .i64 a0_3] 30 (0, 0)) z11_4 hb); have n1_ := z11_A (below_step z11_6 hb); have n2_ := z11_A (hbox); have n3_ := z11_A ((z11_59 : w.heap.size ≤ gb417)); have n4_ := z11_A ((z11_59 : w.heap.size ≤ gb417)); have n5_ := z11_A ((z11_38 : gb416 ≠ gb417)); have n6_ := z11_A ((z11_39 : gb417 ≠ gb416)); clear BK416 HB; revert n0_ n1_ n2_ n3_ n4_ n5_ n6_; intro BK416 HB BK417 GW417 GE417 NB416_417 NB417_416; clear hb hbox hg; have hnb28 := NB416_417.out; have hnc28 := NB417_416.out; have hcz29_0 : w27.cell? ⟨gb416, 0, none⟩ = some (.slice A0_0 l0_0.length c0_0) := (blk_cell BK416.out 0).trans rfl; have hcz29_1 : w27.cell? ⟨gb416, 1, none⟩ = some (.int .i64 a0_1) := (blk_cell BK416.out 1).trans rfl; have hcz29_2 : w27.cell? ⟨gb416, 2, none⟩ = some (.int .i64 a0_2) := (blk_cell BK416.out 2).trans rfl; have hcz29_3 : w27.cell? ⟨gb416, 3, none⟩ = some (.int .i64 a0_3) := (blk_cell BK416.out 3).trans rfl; have hfz29_0 := blk_frozen BK416.out 0; have hfz29_1 := blk_frozen BK416.out 1; have hfz29_2 := blk_frozen BK416.out 2; have hfz29_3 := blk_frozen BK416.out 3) | ((with_reducible refine gate_callee (f := 88) rfl ?_); refine goesL_ (some 10) rfl rfl Try.func88 z11_29 rfl #[.agg #[.slice A0_0 l0_0.length c0_0, .int .i64 a0_1, .int .i64 a0_2, .int .i64 a0_3], .int .i64 a2] rfl z11_2 ?_; (with_reducible refine (impl_isSale.calls k _ _ l0_0 a0_1 a0_2 a0_3 a2 false _ ?side1 ?side2 A4.out).mono ?_); (case side1 => have zh := (Kd.C_below HR0_0.out HB.out); exact z11_C); (case side2 => exact HC0_0.out); rintro e w30 ⟨rfl, hb⟩; refine ⟨_, rfl, ?_⟩; have n0_ := z11_A (blk_below (g := gb416) (o := .cells #[.slice A0_0 l0_0.length c0_0, .int .i64 a0_1, .int .i64 a0_2, .int .i64 a0_3] 30 (0, 0)) z11_4 hb); have n1_ := z11_A (blk_below (g := gb417) (o := .cells #[.int .i64 a1_0, .int .i64 a1_1, .int .i64 a1_2] 32 (0, 0)) z11_26 hb); have n2_ := z11_A (below_step z11_5 hb); clear BK416 BK417 HB; revert n0_ n1_ n2_; intro BK416 BK417 HB; (try clear hb); (try clear hb2); (try clear hk); (try clear hi)))
  go_ret2
  exact ⟨z11_3, z11_5⟩

end Go.Proofs.Ytiniocecpgjikaa.PFnContracts
