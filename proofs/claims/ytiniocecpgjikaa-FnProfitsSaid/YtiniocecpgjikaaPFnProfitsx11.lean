-- A text of this session (its program hook.py, over the kit's print.py): not a print of print.sh
import Derived.Test.YtiniocecpgjikaaPFnProfitsx0
import Derived.Test.YtiniocecpgjikaaPFnProfitsx2
import Derived.Test.YtiniocecpgjikaaPFnProfitsx3
import Derived.Test.YtiniocecpgjikaaPFnProfitsx6
import Derived.Test.YtiniocecpgjikaaPFnProfitsx7
import Derived.Test.YtiniocecpgjikaaPFnProfitsx8
import Derived.Test.YtiniocecpgjikaaPFnProfitsx9
import Derived.Test.YtiniocecpgjikaaPFnProfitsx10
namespace Go.Proofs.Ytiniocecpgjikaa.PFnProfits
open Go.RowKit Go.Proofs.YtiniocecpgjikaaW.PrintWords Go.Proofs.YtiniocecpgjikaaW.PrintLast Go.Proofs.YtiniocecpgjikaaW.PrintMore
attribute [local go_sem] max2_int min2_int max_two min_two max_three min_three max_four min_four   -- for this text's walks alone
set_option linter.unusedVariables false
set_option linter.unusedSimpArgs false

-- SQUEEZED
private theorem bcz {w : World} {g : Nat} {t : TypeId} {cs : Array Value} (h : w.heap[g]? = some (.cells cs t (0, 0))) (i : Nat) {v : Value} (e : cs[i]? = some v) : w.cell? ⟨g, i, none⟩ = some v := (blk_cell h i).trans e
private theorem F3z {P : Nat → Prop} (h : ∀ i, P i) : P 0 ∧ P 1 ∧ P 2 := ⟨h 0, h 1, h 2⟩
private theorem F4z {P : Nat → Prop} (h : ∀ i, P i) : P 0 ∧ P 1 ∧ P 2 ∧ P 3 := ⟨h 0, h 1, h 2, h 3⟩
theorem z11_A {p : Prop} (h : p) : Aside0 p := Aside0.mk h
theorem z11_C {p : Prop} (h : p := by repeat (first | exact zh | (with_reducible refine Kd.C_alloc ?_ _) | (with_reducible refine Kd.C_drewN ?_ _) | (with_reducible refine Kd.C_drew ?_))) : p := h
theorem z11_1 {p : Prop} (h : p := by repeat (first | (with_reducible first | exact HB.out | apply below_alloc | apply pw_below_drewN | apply below_drew1) | exact HB.out)) : p := h
theorem z11_2 {p : Prop} (h : p := by (try simp only [List.map_toArray, List.map_cons, List.map_nil]); first | done | rfl | (simp only [List.length_drop, List.length_take]; rfl)) : p := h
theorem z11_3 {p : Prop} (h : p := by (with_reducible repeat (first | refine blk_drewN ?_ _ | refine blk_drew ?_ | refine blk_alloc ?_ _)); exact BK386.out) : p := h
theorem z11_4 {p : Prop} (h : p := by repeat (first | (with_reducible first | exact HB.out | apply below_alloc | apply pw_below_drewN | apply below_drew1 | refine below_set ?_ GE386.out | refine below_set ?_ GE387.out) | exact HB.out)) : p := h
theorem z11_5 {p : Prop} (h : p := by first | rfl | (simp [errW_none, errW_some] <;> rfl) | (simp [*, errW_none, errW_some] <;> rfl)) : p := h
theorem z11_6 {p : Prop} (h : p := by (with_reducible repeat (first | refine blk_drewN ?_ _ | refine blk_drew ?_ | refine blk_alloc ?_ _)); exact BK391.out) : p := h
theorem z11_7 {p : Prop} (h : p := by (with_reducible repeat (first | refine blk_drewN ?_ _ | refine blk_drew ?_ | refine blk_alloc ?_ _)); exact BK381.out) : p := h
theorem z11_8 {p : Prop} (h : p := by repeat (first | (with_reducible first | exact HB.out | apply below_alloc | apply pw_below_drewN | apply below_drew1 | refine below_set ?_ GE391.out | refine below_set ?_ GE392.out) | exact HB.out)) : p := h
theorem z11_9 {p : Prop} (h : p := by repeat (first | (with_reducible first | exact HB.out | apply below_alloc | apply pw_below_drewN | apply below_drew1 | refine below_set ?_ GE381.out | refine below_set ?_ GE382.out) | exact HB.out)) : p := h
theorem z11_10 {p : Prop} (h : p := by repeat (first | (with_reducible first | exact HB.out | apply below_alloc | apply pw_below_drewN | apply below_drew1 | refine below_set ?_ GE391.out) | exact HB.out)) : p := h
theorem z11_11 {p : Prop} (h : p := by repeat (first | (with_reducible first | exact HB.out | apply below_alloc | apply pw_below_drewN | apply below_drew1 | refine below_set ?_ GE386.out) | exact HB.out)) : p := h
theorem z11_12 {p : Prop} (h : p := by repeat (first | (with_reducible first | exact HB.out | apply below_alloc | apply pw_below_drewN | apply below_drew1 | refine below_set ?_ GE381.out) | exact HB.out)) : p := h
theorem z11_13 {p : Prop} (h : p := by (with_reducible repeat (first | refine blk_drewN ?_ _ | refine blk_drew ?_ | refine blk_alloc ?_ _)); exact BK352.out) : p := h
theorem z11_14 {p : Prop} (h : p := by rw [hg]; exact (below_size z11_1)) : p := h
theorem z11_15 {p : Prop} (h : p := by (with_reducible repeat (first | refine blk_drewN ?_ _ | refine blk_drew ?_ | refine blk_alloc ?_ _)); exact BK376.out) : p := h
theorem z11_16 {p : Prop} (h : p := by (with_reducible repeat (first | refine blk_drewN ?_ _ | refine blk_drew ?_ | refine blk_alloc ?_ _)); exact BK353.out) : p := h
theorem z11_17 {p : Prop} (h : p := by repeat (first | (with_reducible first | exact HB.out | apply below_alloc | apply pw_below_drewN | apply below_drew1 | refine below_set ?_ GE376.out) | exact HB.out)) : p := h
theorem z11_18 {p : Prop} (h : p := by repeat (first | (with_reducible first | exact HB.out | apply below_alloc | apply pw_below_drewN | apply below_drew1 | refine below_set ?_ GE376.out | refine below_set ?_ GE377.out) | exact HB.out)) : p := h
theorem z11_19 {p : Prop} (h : p := by repeat (first | (with_reducible first | exact HB.out | apply below_alloc | apply pw_below_drewN | apply below_drew1 | refine below_set ?_ (IsS82.ge HI354.out) | refine below_set ?_ GE352.out | refine below_set ?_ GE353.out) | exact HB.out)) : p := h
theorem z11_20 {p : Prop} (h : p := by (with_reducible repeat (first | refine blk_drewN ?_ _ | refine blk_drew ?_ | refine blk_alloc ?_ _)); exact BK387.out) : p := h
theorem z11_21 {p : Prop} (h : p := by kernel_rfl) : p := h
theorem z11_22 {p : Prop} (h : p := by rw [if_neg (show ¬ (false = true) by decide)] at H; exact H) : p := h
theorem z11_23 {p : Prop} (h : p := by repeat (first | (with_reducible first | exact HB.out | apply below_alloc | apply pw_below_drewN | apply below_drew1 | refine below_set ?_ GE352.out | refine below_set ?_ GE353.out) | exact HB.out)) : p := h
theorem z11_24 {p : Prop} (h : p := by (with_reducible repeat (first | refine blk_drewN ?_ _ | refine blk_drew ?_ | refine blk_alloc ?_ _)); exact BK392.out) : p := h
theorem z11_25 {p : Prop} (h : p := by (with_reducible repeat (first | refine blk_drewN ?_ _ | refine blk_drew ?_ | refine blk_alloc ?_ _)); exact BK382.out) : p := h
theorem z11_26 {p : Prop} (h : p := by repeat (first | (with_reducible first | exact HB.out | apply below_alloc | apply pw_below_drewN | apply below_drew1 | refine below_set ?_ GE372.out) | exact HB.out)) : p := h
theorem z11_27 {p : Prop} (h : p := by repeat (first | (with_reducible first | exact HB.out | apply below_alloc | apply pw_below_drewN | apply below_drew1 | refine below_set ?_ GE352.out) | exact HB.out)) : p := h
theorem z11_28 {p : Prop} (h : p := by rw [hg]; exact Nat.ne_of_lt (blk_lt (g := gb391) (o := .cells #[.slice A0_0 l0_0.length c0_0, .int .i64 a0_1, .int .i64 a0_2, .int .i64 a0_3] 30 (0, 0)) z11_6)) : p := h
theorem z11_29 {p : Prop} (h : p := by rw [hg]; exact Nat.ne_of_lt (blk_lt (g := gb386) (o := .cells #[.slice A0_0 l0_0.length c0_0, .int .i64 a0_1, .int .i64 a0_2, .int .i64 a0_3] 30 (0, 0)) z11_3)) : p := h
theorem z11_30 {p : Prop} (h : p := by rw [hg]; exact Nat.ne_of_lt (blk_lt (g := gb381) (o := .cells #[.slice A0_0 l0_0.length c0_0, .int .i64 a0_1, .int .i64 a0_2, .int .i64 a0_3] 30 (0, 0)) z11_7)) : p := h
theorem z11_31 {p : Prop} (h : p := by rw [hg]; exact Nat.ne_of_gt (blk_lt (g := gb391) (o := .cells #[.slice A0_0 l0_0.length c0_0, .int .i64 a0_1, .int .i64 a0_2, .int .i64 a0_3] 30 (0, 0)) z11_6)) : p := h
theorem z11_32 {p : Prop} (h : p := by rw [hg]; exact Nat.ne_of_gt (blk_lt (g := gb386) (o := .cells #[.slice A0_0 l0_0.length c0_0, .int .i64 a0_1, .int .i64 a0_2, .int .i64 a0_3] 30 (0, 0)) z11_3)) : p := h
theorem z11_33 {p : Prop} (h : p := by rw [hg]; exact Nat.ne_of_gt (blk_lt (g := gb381) (o := .cells #[.slice A0_0 l0_0.length c0_0, .int .i64 a0_1, .int .i64 a0_2, .int .i64 a0_3] 30 (0, 0)) z11_7)) : p := h
theorem z11_34 {p : Prop} (h : p := by rw [hg]; exact Nat.ne_of_lt (blk_lt (g := gb352) (o := .cells #[.slice none 0 0, .int .i64 0, .int .i64 0, .int .i64 0] 30 (0, 0)) z11_13)) : p := h
theorem z11_35 {p : Prop} (h : p := by rw [hg]; exact Nat.ne_of_gt (blk_lt (g := gb352) (o := .cells #[.slice none 0 0, .int .i64 0, .int .i64 0, .int .i64 0] 30 (0, 0)) z11_13)) : p := h
theorem z11_36 {p : Prop} (h : p := by repeat (first | (with_reducible first | exact HB.out | apply below_alloc | apply pw_below_drewN | apply below_drew1 | refine below_set ?_ (IsS82.ge HI354.out) | refine below_set ?_ GE352.out | refine below_set ?_ GE353.out | refine below_set ?_ GE363.out) | exact HB.out)) : p := h
theorem z11_37 {p : Prop} (h : p := by rw [if_pos rfl] at H; exact H) : p := h
theorem z11_38 {p : Prop} (h : p := by (with_reducible repeat (first | refine blk_drewN ?_ _ | refine blk_drew ?_ | refine blk_alloc ?_ _)); exact BK377.out) : p := h
theorem z11_39 {p : Prop} (h : p := by (with_reducible repeat (first | apply Kd.R_alloc | apply Kd.R_drewN | apply Kd.R_drew)); exact HO357.out) : p := h
theorem z11_40 {p : Prop} (h : p := by repeat (first | (with_reducible first | exact HB.out | apply below_alloc | apply pw_below_drewN | apply below_drew1 | refine below_set ?_ GE396.out) | exact HB.out)) : p := h
theorem z11_41 {p : Prop} (h : p := by rw [hg]; exact (below_size z11_12)) : p := h
theorem z11_42 {p : Prop} (h : p := by rw [hg]; exact (below_size z11_11)) : p := h
theorem z11_43 {p : Prop} (h : p := by rw [hg]; exact (below_size z11_10)) : p := h
theorem z11_44 {p : Prop} (h : p := by rw [hg]; exact Nat.ne_of_lt (blk_lt (g := gb376) (o := .cells #[.slice A0_0 l0_0.length c0_0, .int .i64 a0_1, .int .i64 a0_2, .int .i64 a0_3] 30 (0, 0)) z11_15)) : p := h
theorem z11_45 {p : Prop} (h : p := by rw [hg]; exact Nat.ne_of_gt (blk_lt (g := gb376) (o := .cells #[.slice A0_0 l0_0.length c0_0, .int .i64 a0_1, .int .i64 a0_2, .int .i64 a0_3] 30 (0, 0)) z11_15)) : p := h
theorem z11_46 {p : Prop} (h : p := by rw [hg]; exact Nat.ne_of_lt (blk_lt (g := gb353) (o := .cells #[.int .i64 0, .int .i64 0, .int .i64 0] 32 (0, 0)) z11_16)) : p := h
theorem z11_47 {p : Prop} (h : p := by rw [hg]; exact Nat.ne_of_gt (blk_lt (g := gb353) (o := .cells #[.int .i64 0, .int .i64 0, .int .i64 0] 32 (0, 0)) z11_16)) : p := h
theorem z11_48 {p : Prop} (h : p := by (with_reducible repeat (first | refine blk_drewN ?_ _ | refine blk_drew ?_ | refine blk_alloc ?_ _)); exact BK363.out) : p := h
theorem z11_49 {p : Prop} (h : p := by rw [hg]; exact (below_size z11_17)) : p := h

/-! ### spec_DrawSellerProfit: function 46 -/
def spec_DrawSellerProfit.f (k : Nat) (l0 : List Int) : Option (List Int × Int × Int × Int × Int × Int × Int × Int) := (spec_l1Cur_market.f k l0 0 0).bind fun bt355 => ((spec_l1Cur_contract.f k l0 bt355.2.2.2.2.1 bt355.2.2.2.2.2 bt355.1 bt355.2.1 bt355.2.2.1 bt355.2.2.2.1).bind fun bt364 => ((spec_l1Cur_sold.f l0 bt364.2.2.2.1 bt364.2.2.2.2).bind fun bt369 => (some (bt355.1, bt355.2.1, bt355.2.2.1, bt355.2.2.2.1, bt364.1, bt364.2.1, bt364.2.2.1, bt369.1))))
theorem spec_DrawSellerProfit.mono : ∀ a0 k, LeO (spec_DrawSellerProfit.f k a0) (spec_DrawSellerProfit.f (k + 1) a0) := by
  intro a0 k
  unfold spec_DrawSellerProfit.f
  repeat' first
      | (with_reducible exact spec_l1Cur_contract.mono _ _ _ _ _ _ _ _)
      | (with_reducible exact spec_l1Cur_market.mono _ _ _ _)
      | (with_reducible exact LeO.refl _)
      | (with_reducible exact LeO.none _)
      | (with_reducible refine LeO.ite ?_ ?_)
      | (with_reducible refine LeO.bind ?_ (fun _ => ?_))
      | exact spec_l1Cur_contract.mono _ _ _ _ _ _ _ _
      | exact spec_l1Cur_market.mono _ _ _ _
      | exact LeO.none _
      | refine LeO.ite ?_ ?_
      | refine LeO.bind ?_ (fun _ => ?_)
def spec_DrawSellerProfit.T3 : Bool × List (List Nat × List Nat) := (true, [([], []), ([], []), ([], []), ([1, 2], [1, 2]), ([], []), ([4, 3], [4]), ([0, 5, 0], [0]), ([3, 6, 0, 1, 2, 3, 6], [3]), ([5, 7, 0, 1, 2, 3, 4, 5, 6, 7], [5])])
def spec_DrawSellerProfit.B3 : List Nat := [0, 0, 0, 6, 0, 30, 63, 127, 255]
theorem spec_DrawSellerProfit.tab3 : rtab .any (opsOf Try.f46 3) = spec_DrawSellerProfit.T3 := z11_21
theorem spec_DrawSellerProfit.bits3 : waitsOk spec_DrawSellerProfit.T3.2 spec_DrawSellerProfit.B3 = true := z11_21
set_option maxHeartbeats 8000000 in
set_option maxRecDepth 100000 in
theorem spec_DrawSellerProfit.calls (k : Nat) (A0 : Option Addr) (c0 : Nat) (l0 : List Int) (r1 : List Int) (r2 : Int) (r3 : Int) (r4 : Int) (r5 : Int) (r6 : Int) (r7 : Int) (r8 : Int) (w : World) (hr0 : Kd.C (Kd.int .u8) w A0 l0.length l0) (hc0 : l0.length ≤ c0) (h : spec_DrawSellerProfit.f k l0 = some (r1, r2, r3, r4, r5, r6, r7, r8)) :
    Calls Try.prog 46 #[.slice A0 l0.length c0] w fun e w' => ∃ v0_ : Value, e = .returned (.tuple #[.agg #[v0_, .int .i64 r2, .int .i64 r3, .int .i64 r4], .agg #[.int .i64 r5, .int .i64 r6, .int .i64 r7], .int .i64 r8]) ∧ Kd.R (Kd.int .i64) 3 w' w.heap.size (fun _ => True) v0_ r1 ∧ Below w.heap.size w w' := by
  have hu30 := Try.underlying30
  have hu32 := Try.underlying32
  have hu82 := Try.underlying82
  have HR0 := z11_A hr0
  have HC0 := z11_A hc0
  clear hr0 hc0
  have HB := z11_A (Below.refl w.heap.size w)
  have H : ((spec_l1Cur_market.f k l0 0 0).bind fun bt355 => ((spec_l1Cur_contract.f k l0 bt355.2.2.2.2.1 bt355.2.2.2.2.2 bt355.1 bt355.2.1 bt355.2.2.1 bt355.2.2.2.1).bind fun bt364 => ((spec_l1Cur_sold.f l0 bt364.2.2.2.1 bt364.2.2.2.2).bind fun bt369 => (some (bt355.1, bt355.2.1, bt355.2.2.1, bt355.2.2.2.1, bt364.1, bt364.2.1, bt364.2.2.1, bt369.1))))) = some (r1, r2, r3, r4, r5, r6, r7, r8) := h
  clear h
  replace H := Option.bind_eq_some_iff.mp H
  obtain ⟨⟨t355, t358, t359, t360, t361, t362⟩, A20, H⟩ := H
  (try dsimp only at H)
  have A2 := z11_A A20
  clear A20
  replace H := Option.bind_eq_some_iff.mp H
  obtain ⟨⟨t364, t365, t366, t367, t368⟩, A30, H⟩ := H
  (try dsimp only at H)
  have A3 := z11_A A30
  clear A30
  replace H := Option.bind_eq_some_iff.mp H
  obtain ⟨⟨t369, t370, t371⟩, A40, H⟩ := H
  (try dsimp only at H)
  have A4 := z11_A A40
  clear A40
  simp only [Option.some.injEq, Prod.mk.injEq] at H
  obtain ⟨rfl, rfl, rfl, rfl, rfl, rfl, rfl, rfl⟩ := H
  go_enter Try.func46, Try.ntmps46
  try go_wp2_with (first | ((with_reducible refine gate_dst (N := 2) rfl ?_); refine box_event ?hg (N := 2) ?hd (cs := #[.slice none 0 0, .int .i64 0, .int .i64 0, .int .i64 0]) (t := 30) ?hr ?_; (case hd => rfl); (case hg => rfl); (case hr => first | (go_simp; done) | (go_simp; rfl)); intro gb352 hg w5 hbox hb; have n0_ := z11_A (below_step z11_1 hb); have n1_ := z11_A (hbox); have n2_ := z11_A ((z11_14 : w.heap.size ≤ gb352)); have n3_ := z11_A ((z11_14 : w.heap.size ≤ gb352)); clear HB; revert n0_ n1_ n2_ n3_; intro HB BK352 GW352 GE352; clear hb hbox hg) | ((with_reducible refine gate_dst (N := 3) rfl ?_); refine box_event ?hg (N := 3) ?hd (cs := #[.int .i64 0, .int .i64 0, .int .i64 0]) (t := 32) ?hr ?_; (case hd => rfl); (case hg => rfl); (case hr => first | (go_simp; done) | (go_simp; rfl)); intro gb353 hg w6 hbox hb; have n0_ := z11_A (blk_below (g := gb352) (o := .cells #[.slice none 0 0, .int .i64 0, .int .i64 0, .int .i64 0] 30 (0, 0)) z11_13 hb); have n1_ := z11_A (below_step z11_27 hb); have n2_ := z11_A (hbox); have n3_ := z11_A ((by rw [hg]; exact (below_size z11_27) : w.heap.size ≤ gb353)); have n4_ := z11_A ((by rw [hg]; exact (below_size z11_27) : w.heap.size ≤ gb353)); have n5_ := z11_A ((z11_34 : gb352 ≠ gb353)); have n6_ := z11_A ((z11_35 : gb353 ≠ gb352)); clear BK352 HB; revert n0_ n1_ n2_ n3_ n4_ n5_ n6_; intro BK352 HB BK353 GW353 GE353 NB352_353 NB353_352; clear hb hbox hg) | ((with_reducible refine gate_dst (N := 9) rfl ?_); refine box_event ?hg (N := 9) ?hd (cs := #[.slice A0 l0.length c0, .int .i64 0, .int .u64 0]) (t := 82) ?hr ?_; (case hd => rfl); (case hg => rfl); (case hr => first | (go_simp; done) | (go_simp; rfl)); intro gb354 hg w7 hbox hb; have n0_ := z11_A (blk_below (g := gb352) (o := .cells #[.slice none 0 0, .int .i64 0, .int .i64 0, .int .i64 0] 30 (0, 0)) z11_13 hb); have n1_ := z11_A (blk_below (g := gb353) (o := .cells #[.int .i64 0, .int .i64 0, .int .i64 0] 32 (0, 0)) z11_16 hb); have n2_ := z11_A (below_step z11_23 hb); have n3_ := z11_A (hbox); have n4_ := z11_A ((by rw [hg]; exact (below_size z11_23) : w.heap.size ≤ gb354)); have n5_ := z11_A ((by rw [hg]; exact (below_size z11_23) : w.heap.size ≤ gb354)); have n6_ := z11_A ((z11_34 : gb352 ≠ gb354)); have n7_ := z11_A ((z11_35 : gb354 ≠ gb352)); have n8_ := z11_A ((z11_46 : gb353 ≠ gb354)); have n9_ := z11_A ((z11_47 : gb354 ≠ gb353)); clear BK352 BK353 HB; revert n0_ n1_ n2_ n3_ n4_ n5_ n6_ n7_ n8_ n9_; intro BK352 BK353 HB BK354 GW354 GE354 NB352_354 NB354_352 NB353_354 NB354_353; clear hb hbox hg; have HI354 := z11_A (show IsS82 w _ gb354 l0 0 0 from ⟨_, _, (by (with_reducible repeat (first | refine blk_drewN ?_ _ | refine blk_drew ?_ | refine blk_alloc ?_ _)); exact BK354.out), GW354.out, HR0.out⟩); clear BK354) | ((with_reducible refine gate_callee (f := 81) rfl ?_); refine goesL_ (some 11) rfl rfl Try.func81 z11_21 rfl #[.pointer (some ⟨gb354, 0, none⟩)] rfl z11_2 ?_; (with_reducible refine (spec_l1Cur_market.calls k gb354 l0 0 0 t355 t358 t359 t360 t361 t362 w _ ?side1 ?side2 A2.out).mono ?_); (case side1 => repeat (first | (with_reducible first | exact HI354.out | apply IsS82.alloc | apply IsS82.drewN | apply IsS82.drew | apply IsS82.set_1 | apply IsS82.set_2 | refine IsS82.far ?_ NB354_352.out _ | refine IsS82.far ?_ NB354_353.out _) | exact HI354.out)); (case side2 => repeat (first | (with_reducible first | exact HB.out | apply below_alloc | apply pw_below_drewN | apply below_drew1 | refine below_set ?_ (IsS82.ge HI354.out) | refine below_set ?_ GE352.out | refine below_set ?_ GE353.out) | exact HB.out)); rintro e w8 ⟨v356, rfl, ho0, hi, hb, hk⟩; refine ⟨_, rfl, ?_⟩; have n0_ := z11_A (KeepBut.blk hk (g' := gb352) (o := .cells #[.slice none 0 0, .int .i64 0, .int .i64 0, .int .i64 0] 30 (0, 0)) z11_13 NB352_354.out (by simp)); have n1_ := z11_A (KeepBut.blk hk (g' := gb353) (o := .cells #[.int .i64 0, .int .i64 0, .int .i64 0] 32 (0, 0)) z11_16 NB353_354.out (by simp)); have n2_ := z11_A (Kd.R_lower ho0 (below_size z11_19)); have n3_ := z11_A (hb); have n4_ := z11_A (hi); clear BK352 BK353 HB HI354; revert n0_ n1_ n2_ n3_ n4_; intro BK352 BK353 HO357 HB HI354; (try clear hb); (try clear hb2); (try clear hk); (try clear hi); (try clear ho0)) | ((with_reducible refine gate_dst (N := 6) rfl ?_); refine box_event ?hg (N := 6) ?hd (cs := #[.slice none 0 0, .int .i64 0, .int .i64 0, .int .i64 0]) (t := 30) ?hr ?_; (case hd => rfl); (case hg => rfl); (case hr => first | (go_simp; done) | (go_simp; rfl)); intro gb363 hg w9 hbox hb; have n0_ := z11_A (Kd.R_below z11_39 hb); have n1_ := z11_A (blk_below (g := gb352) (o := .cells #[.slice none 0 0, .int .i64 0, .int .i64 0, .int .i64 0] 30 (0, 0)) z11_13 hb); have n2_ := z11_A (blk_below (g := gb353) (o := .cells #[.int .i64 0, .int .i64 0, .int .i64 0] 32 (0, 0)) z11_16 hb); have n3_ := z11_A (IsS82.below (by repeat (first | (with_reducible first | exact HI354.out | apply IsS82.alloc | apply IsS82.drewN | apply IsS82.drew | apply IsS82.set_1 | apply IsS82.set_2 | refine IsS82.far ?_ NB354_352.out _ | refine IsS82.far ?_ NB354_353.out _) | exact HI354.out)) hb); have n4_ := z11_A (below_step z11_19 hb); have n5_ := z11_A (hbox); have n6_ := z11_A ((by rw [hg]; exact (below_size z11_19) : w.heap.size ≤ gb363)); have n7_ := z11_A ((by rw [hg]; exact (below_size z11_19) : w.heap.size ≤ gb363)); have n8_ := z11_A ((z11_34 : gb352 ≠ gb363)); have n9_ := z11_A ((z11_35 : gb363 ≠ gb352)); have n10_ := z11_A ((z11_46 : gb353 ≠ gb363)); have n11_ := z11_A ((z11_47 : gb363 ≠ gb353)); have n12_ := z11_A ((by rw [hg]; exact Nat.ne_of_lt (IsS82.lt (show IsS82 w _ gb354 l0 t361 t362 from by repeat (first | (with_reducible first | exact HI354.out | apply IsS82.alloc | apply IsS82.drewN | apply IsS82.drew | apply IsS82.set_1 | apply IsS82.set_2 | refine IsS82.far ?_ NB354_352.out _ | refine IsS82.far ?_ NB354_353.out _) | exact HI354.out))) : gb354 ≠ gb363)); have n13_ := z11_A ((by rw [hg]; exact Nat.ne_of_gt (IsS82.lt (show IsS82 w _ gb354 l0 t361 t362 from by repeat (first | (with_reducible first | exact HI354.out | apply IsS82.alloc | apply IsS82.drewN | apply IsS82.drew | apply IsS82.set_1 | apply IsS82.set_2 | refine IsS82.far ?_ NB354_352.out _ | refine IsS82.far ?_ NB354_353.out _) | exact HI354.out))) : gb363 ≠ gb354)); clear HO357 BK352 BK353 HI354 HB; revert n0_ n1_ n2_ n3_ n4_ n5_ n6_ n7_ n8_ n9_ n10_ n11_ n12_ n13_; intro HO357 BK352 BK353 HI354 HB BK363 GW363 GE363 NB352_363 NB363_352 NB353_363 NB363_353 NB354_363 NB363_354; clear hb hbox hg; obtain ⟨Ao10, co10, eo10⟩ := Kd.R_slice HO357.out; subst eo10; have hnb11 := NB363_352.out; have hnc11 := NB352_363.out; have hnb12 := NB363_353.out; have hnc12 := NB353_363.out; have hnb13 := NB363_354.out; have hnc13 := NB354_363.out; have hcz14_0 : w9.cell? ⟨gb363, 0, none⟩ = some (.slice none 0 0) := bcz BK363.out 0 rfl; have hcz14_1 : w9.cell? ⟨gb363, 1, none⟩ = some (.int .i64 0) := bcz BK363.out 1 rfl; have hcz14_2 : w9.cell? ⟨gb363, 2, none⟩ = some (.int .i64 0) := bcz BK363.out 2 rfl; have hcz14_3 : w9.cell? ⟨gb363, 3, none⟩ = some (.int .i64 0) := bcz BK363.out 3 rfl; obtain ⟨hfz14_0, hfz14_1, hfz14_2, hfz14_3⟩ := F4z (blk_frozen BK363.out)))
  have n0_ : Aside0 (Kd.R (Kd.int .i64) 3 ((((w9.setCell ⟨gb363, 0, none⟩ (.slice Ao10 t355.length co10)).setCell ⟨gb363, 1, none⟩ (.int .i64 t358)).setCell ⟨gb363, 2, none⟩ (.int .i64 t359)).setCell ⟨gb363, 3, none⟩ (.int .i64 t360)) w.heap.size (fun _ => True) (.slice Ao10 t355.length co10) t355) := ⟨by (with_reducible repeat (first | apply Kd.R_alloc | apply Kd.R_drewN | apply Kd.R_drew)); exact Kd.R_mono (Kd.R_far (p := ⟨gb363, 3, none⟩) (Kd.R_far (p := ⟨gb363, 2, none⟩) (Kd.R_far (p := ⟨gb363, 1, none⟩) (Kd.R_far (p := ⟨gb363, 0, none⟩) (Kd.R_types HO357.out BK363.out (by decide)) (fun _ hk => hk.2) (.slice Ao10 t355.length co10)) (fun _ hk => hk.2) (.int .i64 t358)) (fun _ hk => hk.2) (.int .i64 t359)) (fun _ hk => hk.2) (.int .i64 t360)) (fun _ hk => trivial)⟩
  have n1_ : Aside0 (((((w9.setCell ⟨gb363, 0, none⟩ (.slice Ao10 t355.length co10)).setCell ⟨gb363, 1, none⟩ (.int .i64 t358)).setCell ⟨gb363, 2, none⟩ (.int .i64 t359)).setCell ⟨gb363, 3, none⟩ (.int .i64 t360)).heap[gb352]? = some (.cells #[.slice none 0 0, .int .i64 0, .int .i64 0, .int .i64 0] 30 (0, 0))) := ⟨by (with_reducible repeat (first | refine blk_drewN ?_ _ | refine blk_drew ?_ | refine blk_alloc ?_ _)); refine blk_far ?_ NB352_363.out _; (with_reducible repeat (first | refine blk_drewN ?_ _ | refine blk_drew ?_ | refine blk_alloc ?_ _)); refine blk_far ?_ NB352_363.out _; (with_reducible repeat (first | refine blk_drewN ?_ _ | refine blk_drew ?_ | refine blk_alloc ?_ _)); refine blk_far ?_ NB352_363.out _; (with_reducible repeat (first | refine blk_drewN ?_ _ | refine blk_drew ?_ | refine blk_alloc ?_ _)); refine blk_far ?_ NB352_363.out _; (with_reducible repeat (first | refine blk_drewN ?_ _ | refine blk_drew ?_ | refine blk_alloc ?_ _)); exact BK352.out⟩
  have n2_ : Aside0 (((((w9.setCell ⟨gb363, 0, none⟩ (.slice Ao10 t355.length co10)).setCell ⟨gb363, 1, none⟩ (.int .i64 t358)).setCell ⟨gb363, 2, none⟩ (.int .i64 t359)).setCell ⟨gb363, 3, none⟩ (.int .i64 t360)).heap[gb353]? = some (.cells #[.int .i64 0, .int .i64 0, .int .i64 0] 32 (0, 0))) := ⟨by (with_reducible repeat (first | refine blk_drewN ?_ _ | refine blk_drew ?_ | refine blk_alloc ?_ _)); refine blk_far ?_ NB353_363.out _; (with_reducible repeat (first | refine blk_drewN ?_ _ | refine blk_drew ?_ | refine blk_alloc ?_ _)); refine blk_far ?_ NB353_363.out _; (with_reducible repeat (first | refine blk_drewN ?_ _ | refine blk_drew ?_ | refine blk_alloc ?_ _)); refine blk_far ?_ NB353_363.out _; (with_reducible repeat (first | refine blk_drewN ?_ _ | refine blk_drew ?_ | refine blk_alloc ?_ _)); refine blk_far ?_ NB353_363.out _; (with_reducible repeat (first | refine blk_drewN ?_ _ | refine blk_drew ?_ | refine blk_alloc ?_ _)); exact BK353.out⟩
  have n3_ : Aside0 (((((w9.setCell ⟨gb363, 0, none⟩ (.slice Ao10 t355.length co10)).setCell ⟨gb363, 1, none⟩ (.int .i64 t358)).setCell ⟨gb363, 2, none⟩ (.int .i64 t359)).setCell ⟨gb363, 3, none⟩ (.int .i64 t360)).heap[gb363]? = some (.cells #[.slice Ao10 t355.length co10, .int .i64 t358, .int .i64 t359, .int .i64 t360] 30 (0, 0))) := ⟨by (with_reducible repeat (first | refine blk_drewN ?_ _ | refine blk_drew ?_ | refine blk_alloc ?_ _)); refine blk_put (cs := #[.slice Ao10 t355.length co10, .int .i64 t358, .int .i64 t359, .int .i64 0]) ?_ 3 _ rfl; (with_reducible repeat (first | refine blk_drewN ?_ _ | refine blk_drew ?_ | refine blk_alloc ?_ _)); refine blk_put (cs := #[.slice Ao10 t355.length co10, .int .i64 t358, .int .i64 0, .int .i64 0]) ?_ 2 _ rfl; (with_reducible repeat (first | refine blk_drewN ?_ _ | refine blk_drew ?_ | refine blk_alloc ?_ _)); refine blk_put (cs := #[.slice Ao10 t355.length co10, .int .i64 0, .int .i64 0, .int .i64 0]) ?_ 1 _ rfl; (with_reducible repeat (first | refine blk_drewN ?_ _ | refine blk_drew ?_ | refine blk_alloc ?_ _)); refine blk_put (cs := #[.slice none 0 0, .int .i64 0, .int .i64 0, .int .i64 0]) ?_ 0 _ rfl; (with_reducible repeat (first | refine blk_drewN ?_ _ | refine blk_drew ?_ | refine blk_alloc ?_ _)); exact BK363.out⟩
  have n4_ : Aside0 (IsS82 w ((((w9.setCell ⟨gb363, 0, none⟩ (.slice Ao10 t355.length co10)).setCell ⟨gb363, 1, none⟩ (.int .i64 t358)).setCell ⟨gb363, 2, none⟩ (.int .i64 t359)).setCell ⟨gb363, 3, none⟩ (.int .i64 t360)) gb354 l0 t361 t362) := ⟨by repeat (first | (with_reducible first | exact HI354.out | apply IsS82.alloc | apply IsS82.drewN | apply IsS82.drew | apply IsS82.set_1 | apply IsS82.set_2 | refine IsS82.far ?_ NB354_352.out _ | refine IsS82.far ?_ NB354_353.out _ | refine IsS82.far ?_ NB354_363.out _) | exact HI354.out)⟩
  have n5_ : Aside0 (Below w.heap.size w ((((w9.setCell ⟨gb363, 0, none⟩ (.slice Ao10 t355.length co10)).setCell ⟨gb363, 1, none⟩ (.int .i64 t358)).setCell ⟨gb363, 2, none⟩ (.int .i64 t359)).setCell ⟨gb363, 3, none⟩ (.int .i64 t360))) := ⟨z11_36⟩
  (try clear HO357)
  (try clear BK352)
  (try clear BK353)
  (try clear BK363)
  (try clear HI354)
  (try clear HB)
  generalize ((((w9.setCell ⟨gb363, 0, none⟩ (.slice Ao10 t355.length co10)).setCell ⟨gb363, 1, none⟩ (.int .i64 t358)).setCell ⟨gb363, 2, none⟩ (.int .i64 t359)).setCell ⟨gb363, 3, none⟩ (.int .i64 t360)) = w15 at n0_ n1_ n2_ n3_ n4_ n5_ ⊢
  have HO357 := n0_
  have BK352 := n1_
  have BK353 := n2_
  have BK363 := n3_
  have HI354 := n4_
  have HB := n5_
  clear n0_ n1_ n2_ n3_ n4_ n5_
  have n0_ := z11_A (Kd.R_drew HO357.out)
  have n1_ := z11_A (blk_drew BK352.out)
  have n2_ := z11_A (blk_drew BK353.out)
  have n3_ := z11_A (blk_drew BK363.out)
  have n4_ := z11_A (IsS82.drew HI354.out)
  have n5_ := z11_A (below_drew1 HB.out)
  clear HO357
  clear BK352
  clear BK353
  clear BK363
  clear HI354
  clear HB
  have HO357 := n0_
  have BK352 := n1_
  have BK353 := n2_
  have BK363 := n3_
  have HI354 := n4_
  have HB := n5_
  clear n0_ n1_ n2_ n3_ n4_ n5_
  refine start_ (n := 9) (S := fun w' => w'.cell? ⟨gb363, 0, none⟩ = some (.slice Ao10 t355.length co10) ∧ w'.cell? ⟨gb363, 1, none⟩ = some (.int .i64 t358) ∧ w'.cell? ⟨gb363, 2, none⟩ = some (.int .i64 t359) ∧ w'.cell? ⟨gb363, 3, none⟩ = some (.int .i64 t360)) (ds := []) #[false, false, false, false, false, false, false, false, false] z11_21 rfl rfl ⟨bcz BK363.out 0 rfl, bcz BK363.out 1 rfl, bcz BK363.out 2 rfl, bcz BK363.out 3 rfl⟩ (fun hHeld => ?_); refine with_tabW spec_DrawSellerProfit.tab3 spec_DrawSellerProfit.bits3 (fun HT_ HW_ => ?_)
  generalize w15.drew = w16 at HO357 BK352 BK353 BK363 HI354 HB hHeld ⊢
  refine pure_ (i := 1) (N := some 13) (v := ?_) (a' := ?_) #[false, true, false, false, false, false, false, false, false] rfl rfl (any_of HT_.out z11_21) (fun _ _ _ h => h) (Or.inl ⟨by rfl, ?_⟩) ?_ ?_
  rotate_left
  · intro w'
    go_simp
    with_reducible rfl
  rotate_left
  · simp only [Act.put, List.setIfInBounds_toArray, List.set_cons_zero, List.set_cons_succ, i64_w, i32_w]
    rfl
  refine pure_ (i := 4) (N := some 16) (v := ?_) (a' := ?_) #[false, true, false, false, true, false, false, false, false] rfl rfl (any_of HT_.out z11_21) (fun _ _ _ h => h) (Or.inl ⟨by rfl, ?_⟩) ?_ ?_
  rotate_left
  · intro w'
    go_simp
    with_reducible rfl
  rotate_left
  · simp only [Act.put, List.setIfInBounds_toArray, List.set_cons_zero, List.set_cons_succ, i64_w, i32_w]
    rfl
  refine take_ (i := 0) (N := some 12) (v := ?_) (a' := ?_) #[true, true, false, false, true, false, false, false, false] rfl rfl (take_ofW HT_.out HW_.out z11_21) (fun _ _ _ h => h) (Or.inl ⟨by rfl, ?_⟩) hHeld ?_ ?_
  rotate_left
  · rintro w' ⟨s0, s1, s2, s3⟩
    go_simp
    with_reducible rfl
  rotate_left
  · simp only [Act.put, List.setIfInBounds_toArray, List.set_cons_zero, List.set_cons_succ, i64_w, i32_w]
    rfl
  refine take_ (i := 2) (N := some 14) (v := ?_) (a' := ?_) #[true, true, true, false, true, false, false, false, false] rfl rfl (take_ofW HT_.out HW_.out z11_21) (fun _ _ _ h => h) (Or.inl ⟨by rfl, ?_⟩) hHeld ?_ ?_
  rotate_left
  · rintro w' ⟨s0, s1, s2, s3⟩
    go_simp
    with_reducible rfl
  rotate_left
  · simp only [Act.put, List.setIfInBounds_toArray, List.set_cons_zero, List.set_cons_succ, i64_w, i32_w]
    rfl
  refine one_ (i := 3) (N := some 15) #[true, true, true, true, true, false, false, false, false] rfl rfl (one_of HT_.out z11_21) (by decide) (fun K hK => ?_)
  refine goes_ Try.func90 z11_21 rfl #[.pointer (some ⟨gb354, 0, none⟩), .agg #[.slice Ao10 t355.length co10, .int .i64 t358, .int .i64 t359, .int .i64 t360]] (by rfl) rfl rfl z11_2 ?_
  with_reducible refine (spec_l1Cur_contract.calls k gb354 l0 t361 t362 _ _ t355 t358 t359 t360 t364 t365 t366 t367 t368 w _ ?side1 ?side2 ?side3 ?side4 ?side5 A3.out).mono ?_
  (case side1 => repeat (first | (with_reducible first | exact HI354.out | apply IsS82.alloc | apply IsS82.drewN | apply IsS82.drew | apply IsS82.set_1 | apply IsS82.set_2 | refine IsS82.far ?_ NB354_352.out _ | refine IsS82.far ?_ NB354_353.out _ | refine IsS82.far ?_ NB354_363.out _) | exact HI354.out))
  (case side2 => repeat (first | (with_reducible first | exact HB.out | apply below_alloc | apply pw_below_drewN | apply below_drew1 | refine below_set ?_ (IsS82.ge HI354.out) | refine below_set ?_ GE352.out | refine below_set ?_ GE353.out | refine below_set ?_ GE363.out) | exact HB.out))
  (case side3 => have zh := (Kd.R_reads' HO357.out).2.2; exact z11_C)
  (case side4 => exact (Kd.R_reads' HO357.out).2.1)
  (case side5 => exact far_slice (IsS82.own_ne HI354.out HO357.out (by decide)))
  rintro e w17 ⟨rfl, hi, hb, hk⟩
  refine ⟨_, rfl, ?_⟩
  have n0_ := z11_A (KeepBut.blk hk (g' := gb352) (o := .cells #[.slice none 0 0, .int .i64 0, .int .i64 0, .int .i64 0] 30 (0, 0)) z11_13 NB352_354.out (by simp))
  have n1_ := z11_A (KeepBut.blk hk (g' := gb353) (o := .cells #[.int .i64 0, .int .i64 0, .int .i64 0] 32 (0, 0)) z11_16 NB353_354.out (by simp))
  have n2_ := z11_A (Kd.R_mono (Kd.R_keep (IsS82.apart (show IsS82 w _ gb354 l0 t361 t362 from by repeat (first | (with_reducible first | exact HI354.out | apply IsS82.alloc | apply IsS82.drewN | apply IsS82.drew | apply IsS82.set_1 | apply IsS82.set_2 | refine IsS82.far ?_ NB354_352.out _ | refine IsS82.far ?_ NB354_353.out _ | refine IsS82.far ?_ NB354_363.out _) | exact HI354.out)) z11_39 (by decide)) hk (fun _ h => h.2)) (fun _ h => h.1))
  have n3_ := z11_A (KeepBut.blk hk (g' := gb363) (o := .cells #[.slice Ao10 t355.length co10, .int .i64 t358, .int .i64 t359, .int .i64 t360] 30 (0, 0)) z11_48 NB363_354.out (by simp))
  have n4_ := z11_A (hb)
  have n5_ := z11_A (hi)
  clear BK352
  clear BK353
  clear HO357
  clear BK363
  clear HB
  clear HI354
  have BK352 := n0_
  have BK353 := n1_
  have HO357 := n2_
  have BK363 := n3_
  have HB := n4_
  have HI354 := n5_
  clear n0_ n1_ n2_ n3_ n4_ n5_
  (try clear hb)
  (try clear hb2)
  (try clear hk)
  (try clear hi)
  refine hK.out _ _ ⟨bcz BK363.out 0 rfl, bcz BK363.out 1 rfl, bcz BK363.out 2 rfl, bcz BK363.out 3 rfl⟩ (fun hHeld => ?_)
  clear hK K
  refine norm_ (a' := ?_) ?_ ?_
  rotate_left
  · show Act.put _ (some 15) _ = _
    simp only [Act.put, List.setIfInBounds_toArray, List.set_cons_zero, List.set_cons_succ, i64_w, i32_w]
    rfl
  refine one_ (i := 5) (N := some 17) #[true, true, true, true, true, true, false, false, false] rfl rfl (one_of HT_.out z11_21) (by decide) (fun K hK => ?_)
  refine goes_ Try.func91 z11_21 rfl #[.pointer (some ⟨gb354, 0, none⟩)] (by rfl) rfl rfl z11_2 ?_
  with_reducible refine (spec_l1Cur_sold.calls gb354 l0 t367 t368 t369 t370 t371 w _ ?side1 ?side2 A4.out).mono ?_
  (case side1 => repeat (first | (with_reducible first | exact HI354.out | apply IsS82.alloc | apply IsS82.drewN | apply IsS82.drew | apply IsS82.set_1 | apply IsS82.set_2 | refine IsS82.far ?_ NB354_352.out _ | refine IsS82.far ?_ NB354_353.out _ | refine IsS82.far ?_ NB354_363.out _) | exact HI354.out))
  (case side2 => repeat (first | (with_reducible first | exact HB.out | apply below_alloc | apply pw_below_drewN | apply below_drew1 | refine below_set ?_ (IsS82.ge HI354.out) | refine below_set ?_ GE352.out | refine below_set ?_ GE353.out | refine below_set ?_ GE363.out) | exact HB.out))
  rintro e w18 ⟨rfl, hi, hb, hk⟩
  refine ⟨_, rfl, ?_⟩
  have n0_ := z11_A (KeepBut.blk hk (g' := gb352) (o := .cells #[.slice none 0 0, .int .i64 0, .int .i64 0, .int .i64 0] 30 (0, 0)) z11_13 NB352_354.out (by simp))
  have n1_ := z11_A (KeepBut.blk hk (g' := gb353) (o := .cells #[.int .i64 0, .int .i64 0, .int .i64 0] 32 (0, 0)) z11_16 NB353_354.out (by simp))
  have n2_ := z11_A (Kd.R_mono (Kd.R_keep (IsS82.apart (show IsS82 w _ gb354 l0 t367 t368 from by repeat (first | (with_reducible first | exact HI354.out | apply IsS82.alloc | apply IsS82.drewN | apply IsS82.drew | apply IsS82.set_1 | apply IsS82.set_2 | refine IsS82.far ?_ NB354_352.out _ | refine IsS82.far ?_ NB354_353.out _ | refine IsS82.far ?_ NB354_363.out _) | exact HI354.out)) z11_39 (by decide)) hk (fun _ h => h.2)) (fun _ h => h.1))
  have n3_ := z11_A (KeepBut.blk hk (g' := gb363) (o := .cells #[.slice Ao10 t355.length co10, .int .i64 t358, .int .i64 t359, .int .i64 t360] 30 (0, 0)) z11_48 NB363_354.out (by simp))
  have n4_ := z11_A (hb)
  have n5_ := z11_A (hi)
  clear BK352
  clear BK353
  clear HO357
  clear BK363
  clear HB
  clear HI354
  have BK352 := n0_
  have BK353 := n1_
  have HO357 := n2_
  have BK363 := n3_
  have HB := n4_
  have HI354 := n5_
  clear n0_ n1_ n2_ n3_ n4_ n5_
  (try clear hb)
  (try clear hb2)
  (try clear hk)
  (try clear hi)
  refine hK.out _ _ ⟨bcz BK363.out 0 rfl, bcz BK363.out 1 rfl, bcz BK363.out 2 rfl, bcz BK363.out 3 rfl⟩ (fun hHeld => ?_)
  clear hK K
  refine norm_ (a' := ?_) ?_ ?_
  rotate_left
  · show Act.put _ (some 17) _ = _
    simp only [Act.put, List.setIfInBounds_toArray, List.set_cons_zero, List.set_cons_succ, i64_w, i32_w]
    rfl
  refine one_ (i := 6) (N := none) #[true, true, true, true, true, true, true, false, false] rfl rfl (one_of HT_.out z11_21) (by decide) (fun K hK => ?_)
  have hs19 : w18.cell? ⟨gb352, 0, none⟩ = some (.slice none 0 0) := bcz BK352.out 0 rfl
  have hfs19 := blk_frozen BK352.out 0
  have hns19_1 := NB353_352.out
  have hns19_2 := NB363_352.out
  have hms19_1 := NB352_353.out
  have hms19_2 := NB352_363.out
  have hs20 : w18.cell? ⟨gb352, 1, none⟩ = some (.int .i64 0) := bcz BK352.out 1 rfl
  have hfs20 := blk_frozen BK352.out 1
  have hns20_1 := NB353_352.out
  have hns20_2 := NB363_352.out
  have hms20_1 := NB352_353.out
  have hms20_2 := NB352_363.out
  have hs21 : w18.cell? ⟨gb352, 2, none⟩ = some (.int .i64 0) := bcz BK352.out 2 rfl
  have hfs21 := blk_frozen BK352.out 2
  have hns21_1 := NB353_352.out
  have hns21_2 := NB363_352.out
  have hms21_1 := NB352_353.out
  have hms21_2 := NB352_363.out
  have hs22 : w18.cell? ⟨gb352, 3, none⟩ = some (.int .i64 0) := bcz BK352.out 3 rfl
  have hfs22 := blk_frozen BK352.out 3
  have hns22_1 := NB353_352.out
  have hns22_2 := NB363_352.out
  have hms22_1 := NB352_353.out
  have hms22_2 := NB352_363.out
  refine skip_ (w1 := ?_) (by rfl) rfl ?_ ?_
  rotate_left
  · go_simp
    rfl
  refine hK.out _ _ ⟨((cell_far (p := ⟨gb352, _, none⟩) NB363_352.out _).trans (((cell_far (p := ⟨gb352, _, none⟩) NB363_352.out _).trans (((cell_far (p := ⟨gb352, _, none⟩) NB363_352.out _).trans (((cell_far (p := ⟨gb352, _, none⟩) NB363_352.out _).trans (hHeld.1)))))))), ((cell_far (p := ⟨gb352, _, none⟩) NB363_352.out _).trans (((cell_far (p := ⟨gb352, _, none⟩) NB363_352.out _).trans (((cell_far (p := ⟨gb352, _, none⟩) NB363_352.out _).trans (((cell_far (p := ⟨gb352, _, none⟩) NB363_352.out _).trans (hHeld.2.1)))))))), ((cell_far (p := ⟨gb352, _, none⟩) NB363_352.out _).trans (((cell_far (p := ⟨gb352, _, none⟩) NB363_352.out _).trans (((cell_far (p := ⟨gb352, _, none⟩) NB363_352.out _).trans (((cell_far (p := ⟨gb352, _, none⟩) NB363_352.out _).trans (hHeld.2.2.1)))))))), ((cell_far (p := ⟨gb352, _, none⟩) NB363_352.out _).trans (((cell_far (p := ⟨gb352, _, none⟩) NB363_352.out _).trans (((cell_far (p := ⟨gb352, _, none⟩) NB363_352.out _).trans (((cell_far (p := ⟨gb352, _, none⟩) NB363_352.out _).trans (hHeld.2.2.2))))))))⟩ (fun hHeld => ?_)
  clear hK K
  refine one_ (i := 7) (N := none) #[true, true, true, true, true, true, true, true, false] rfl rfl (one_of HT_.out z11_21) (by decide) (fun K hK => ?_)
  have hs23 : w18.cell? ⟨gb353, 0, none⟩ = some (.int .i64 0) := bcz BK353.out 0 rfl
  have hfs23 := blk_frozen BK353.out 0
  have hns23_0 := NB352_353.out
  have hns23_2 := NB363_353.out
  have hms23_0 := NB353_352.out
  have hms23_2 := NB353_363.out
  have hs24 : w18.cell? ⟨gb353, 1, none⟩ = some (.int .i64 0) := bcz BK353.out 1 rfl
  have hfs24 := blk_frozen BK353.out 1
  have hns24_0 := NB352_353.out
  have hns24_2 := NB363_353.out
  have hms24_0 := NB353_352.out
  have hms24_2 := NB353_363.out
  have hs25 : w18.cell? ⟨gb353, 2, none⟩ = some (.int .i64 0) := bcz BK353.out 2 rfl
  have hfs25 := blk_frozen BK353.out 2
  have hns25_0 := NB352_353.out
  have hns25_2 := NB363_353.out
  have hms25_0 := NB353_352.out
  have hms25_2 := NB353_363.out
  refine skip_ (w1 := ?_) (by rfl) rfl ?_ ?_
  rotate_left
  · go_simp
    rfl
  refine hK.out _ _ ⟨((cell_far (p := ⟨gb353, _, none⟩) NB363_353.out _).trans (((cell_far (p := ⟨gb353, _, none⟩) NB363_353.out _).trans (((cell_far (p := ⟨gb353, _, none⟩) NB363_353.out _).trans (hHeld.1)))))), ((cell_far (p := ⟨gb353, _, none⟩) NB363_353.out _).trans (((cell_far (p := ⟨gb353, _, none⟩) NB363_353.out _).trans (((cell_far (p := ⟨gb353, _, none⟩) NB363_353.out _).trans (hHeld.2.1)))))), ((cell_far (p := ⟨gb353, _, none⟩) NB363_353.out _).trans (((cell_far (p := ⟨gb353, _, none⟩) NB363_353.out _).trans (((cell_far (p := ⟨gb353, _, none⟩) NB363_353.out _).trans (hHeld.2.2.1)))))), ((cell_far (p := ⟨gb353, _, none⟩) NB363_353.out _).trans (((cell_far (p := ⟨gb353, _, none⟩) NB363_353.out _).trans (((cell_far (p := ⟨gb353, _, none⟩) NB363_353.out _).trans (hHeld.2.2.2))))))⟩ (fun hHeld => ?_)
  clear hK K
  refine pure_ (i := 8) (N := some 4) (v := ?_) (a' := ?_) #[true, true, true, true, true, true, true, true, true] rfl rfl (any_of HT_.out z11_21) (fun _ _ _ h => h) (Or.inl ⟨by rfl, ?_⟩) ?_ ?_
  rotate_left
  · intro w'
    go_simp
    with_reducible rfl
  rotate_left
  · simp only [Act.put, List.setIfInBounds_toArray, List.set_cons_zero, List.set_cons_succ, i64_w, i32_w]
    rfl
  refine done_ (done_of HT_.out z11_21) ?_
  try go_wp2
  refine bodyPost_ret (results_list (rs := [.cell 2 30, .cell 3 32, .tmp 4]) rfl (by simp) (.cell gb352 30 #[.slice Ao10 t355.length co10, .int .i64 t358, .int .i64 t359, .int .i64 t360] (0, 0) _ rfl (by (with_reducible repeat (first | refine blk_drewN ?_ _ | refine blk_drew ?_ | refine blk_alloc ?_ _)); refine blk_far ?_ NB352_353.out _; (with_reducible repeat (first | refine blk_drewN ?_ _ | refine blk_drew ?_ | refine blk_alloc ?_ _)); refine blk_far ?_ NB352_353.out _; (with_reducible repeat (first | refine blk_drewN ?_ _ | refine blk_drew ?_ | refine blk_alloc ?_ _)); refine blk_far ?_ NB352_353.out _; (with_reducible repeat (first | refine blk_drewN ?_ _ | refine blk_drew ?_ | refine blk_alloc ?_ _)); refine blk_put (cs := #[.slice Ao10 t355.length co10, .int .i64 t358, .int .i64 t359, .int .i64 0]) ?_ 3 _ rfl; (with_reducible repeat (first | refine blk_drewN ?_ _ | refine blk_drew ?_ | refine blk_alloc ?_ _)); refine blk_put (cs := #[.slice Ao10 t355.length co10, .int .i64 t358, .int .i64 0, .int .i64 0]) ?_ 2 _ rfl; (with_reducible repeat (first | refine blk_drewN ?_ _ | refine blk_drew ?_ | refine blk_alloc ?_ _)); refine blk_put (cs := #[.slice Ao10 t355.length co10, .int .i64 0, .int .i64 0, .int .i64 0]) ?_ 1 _ rfl; (with_reducible repeat (first | refine blk_drewN ?_ _ | refine blk_drew ?_ | refine blk_alloc ?_ _)); refine blk_put (cs := #[.slice none 0 0, .int .i64 0, .int .i64 0, .int .i64 0]) ?_ 0 _ rfl; (with_reducible repeat (first | refine blk_drewN ?_ _ | refine blk_drew ?_ | refine blk_alloc ?_ _)); exact BK352.out) Try.underlying30 rfl z11_21 (.cell gb353 32 #[.int .i64 t364, .int .i64 t365, .int .i64 t366] (0, 0) _ rfl (by (with_reducible repeat (first | refine blk_drewN ?_ _ | refine blk_drew ?_ | refine blk_alloc ?_ _)); refine blk_put (cs := #[.int .i64 t364, .int .i64 t365, .int .i64 0]) ?_ 2 _ rfl; (with_reducible repeat (first | refine blk_drewN ?_ _ | refine blk_drew ?_ | refine blk_alloc ?_ _)); refine blk_put (cs := #[.int .i64 t364, .int .i64 0, .int .i64 0]) ?_ 1 _ rfl; (with_reducible repeat (first | refine blk_drewN ?_ _ | refine blk_drew ?_ | refine blk_alloc ?_ _)); refine blk_put (cs := #[.int .i64 0, .int .i64 0, .int .i64 0]) ?_ 0 _ rfl; (with_reducible repeat (first | refine blk_drewN ?_ _ | refine blk_drew ?_ | refine blk_alloc ?_ _)); refine blk_far ?_ NB353_352.out _; (with_reducible repeat (first | refine blk_drewN ?_ _ | refine blk_drew ?_ | refine blk_alloc ?_ _)); refine blk_far ?_ NB353_352.out _; (with_reducible repeat (first | refine blk_drewN ?_ _ | refine blk_drew ?_ | refine blk_alloc ?_ _)); refine blk_far ?_ NB353_352.out _; (with_reducible repeat (first | refine blk_drewN ?_ _ | refine blk_drew ?_ | refine blk_alloc ?_ _)); refine blk_far ?_ NB353_352.out _; (with_reducible repeat (first | refine blk_drewN ?_ _ | refine blk_drew ?_ | refine blk_alloc ?_ _)); exact BK353.out) Try.underlying32 rfl z11_21 (.tmp .nil)))) rfl ?_
  exact ⟨_, z11_5, by (with_reducible repeat (first | apply Kd.R_alloc | apply Kd.R_drewN | apply Kd.R_drew)); exact Kd.R_mono (Kd.R_far (p := ⟨gb353, 2, none⟩) (Kd.R_far (p := ⟨gb353, 1, none⟩) (Kd.R_far (p := ⟨gb353, 0, none⟩) (Kd.R_far (p := ⟨gb352, 3, none⟩) (Kd.R_far (p := ⟨gb352, 2, none⟩) (Kd.R_far (p := ⟨gb352, 1, none⟩) (Kd.R_far (p := ⟨gb352, 0, none⟩) (Kd.R_types (Kd.R_types HO357.out BK352.out (by decide)) BK353.out (by decide)) (fun _ hk => hk.1.2) (.slice Ao10 t355.length co10)) (fun _ hk => hk.1.2) (.int .i64 t358)) (fun _ hk => hk.1.2) (.int .i64 t359)) (fun _ hk => hk.1.2) (.int .i64 t360)) (fun _ hk => hk.2) (.int .i64 t364)) (fun _ hk => hk.2) (.int .i64 t365)) (fun _ hk => hk.2) (.int .i64 t366)) (fun _ hk => trivial), z11_36⟩

/-! ### spec_l10Contract: function 78 -/
def spec_l10Contract.f (a0_0 : Int) (a0_1 : Int) (a0_2 : Int) : Option (Bool) := (spec_l1In.f a0_0 0 99).bind fun t373 => (if t373 = true then ((spec_l1In.f a0_1 0 99).bind fun t374 => (if t374 = true then ((spec_l1In.f a0_2 0 100).bind fun t375 => (some t375)) else (some false))) else (some false))
set_option maxHeartbeats 8000000 in
set_option maxRecDepth 100000 in
theorem spec_l10Contract.calls (a0_0 : Int) (a0_1 : Int) (a0_2 : Int) (r : Bool) (w : World) (h : spec_l10Contract.f a0_0 a0_1 a0_2 = some r) :
    Calls Try.prog 78 #[.agg #[.int .i64 a0_0, .int .i64 a0_1, .int .i64 a0_2]] w fun e w' => e = .returned (.bool r) ∧ Below w.heap.size w w' := by
  have hu32 := Try.underlying32
  have HB := z11_A (Below.refl w.heap.size w)
  have H : ((spec_l1In.f a0_0 0 99).bind fun t373 => (if t373 = true then ((spec_l1In.f a0_1 0 99).bind fun t374 => (if t374 = true then ((spec_l1In.f a0_2 0 100).bind fun t375 => (some t375)) else (some false))) else (some false))) = some r := h
  clear h
  replace H := Option.bind_eq_some_iff.mp H
  obtain ⟨t373, A20, H⟩ := H
  (try dsimp only at H)
  have A2 := z11_A A20
  clear A20
  by_cases c3 : t373 = true
  · subst c3
    have H1 : ((spec_l1In.f a0_1 0 99).bind fun t374 => (if t374 = true then ((spec_l1In.f a0_2 0 100).bind fun t375 => (some t375)) else (some false))) = some r := z11_37
    clear H
    have H := H1
    clear H1
    replace H := Option.bind_eq_some_iff.mp H
    obtain ⟨t374, A40, H⟩ := H
    (try dsimp only at H)
    have A4 := z11_A A40
    clear A40
    by_cases c5 : t374 = true
    · subst c5
      have H1 : ((spec_l1In.f a0_2 0 100).bind fun t375 => (some t375)) = some r := z11_37
      clear H
      have H := H1
      clear H1
      replace H := Option.bind_eq_some_iff.mp H
      obtain ⟨t375, A60, H⟩ := H
      (try dsimp only at H)
      have A6 := z11_A A60
      clear A60
      obtain rfl := Option.some.inj H
      go_enter Try.func78, Try.ntmps78
      go_wp2_with (first | ((with_reducible refine gate_dst (N := 1) rfl ?_); refine box_event ?hg (N := 1) ?hd (cs := #[.int .i64 a0_0, .int .i64 a0_1, .int .i64 a0_2]) (t := 32) ?hr ?_; (case hd => rfl); (case hg => rfl); (case hr => first | (go_simp; done) | (go_simp; rfl)); intro gb372 hg w7 hbox hb; have n0_ := z11_A (below_step z11_1 hb); have n1_ := z11_A (hbox); have n2_ := z11_A ((z11_14 : w.heap.size ≤ gb372)); have n3_ := z11_A ((z11_14 : w.heap.size ≤ gb372)); clear HB; revert n0_ n1_ n2_ n3_; intro HB BK372 GW372 GE372; clear hb hbox hg; have hcz8_0 : w7.cell? ⟨gb372, 0, none⟩ = some (.int .i64 a0_0) := bcz BK372.out 0 rfl; have hcz8_1 : w7.cell? ⟨gb372, 1, none⟩ = some (.int .i64 a0_1) := bcz BK372.out 1 rfl; have hcz8_2 : w7.cell? ⟨gb372, 2, none⟩ = some (.int .i64 a0_2) := bcz BK372.out 2 rfl; obtain ⟨hfz8_0, hfz8_1, hfz8_2⟩ := F3z (blk_frozen BK372.out)) | ((with_reducible refine gate_callee (f := 83) rfl ?_); refine goesL_ (some 5) rfl rfl Try.func83 z11_21 rfl #[.int .i64 a0_0, .int .i64 0, .int .i64 99] rfl z11_2 ?_; (with_reducible refine (spec_l1In.calls a0_0 0 99 true _ A2.out).mono ?_); rintro e w' ⟨rfl, ⟨nd, rfl⟩⟩; refine ⟨_, rfl, ?_⟩) | (go_at_call 83; (with_reducible refine (spec_l1In.calls a0_1 0 99 true _ A4.out).mono ?_); rintro e w' ⟨rfl, ⟨nd, rfl⟩⟩) | (go_at_call 83; (with_reducible refine (spec_l1In.calls a0_2 0 100 t375 _ A6.out).mono ?_); rintro e w' ⟨rfl, ⟨nd, rfl⟩⟩))
      go_ret
      exact ⟨z11_5, z11_26⟩
    · replace c5 := Bool.eq_false_iff.mpr c5
      subst c5
      have H1 : (some false) = some r := z11_22
      clear H
      have H := H1
      clear H1
      obtain rfl := Option.some.inj H
      go_enter Try.func78, Try.ntmps78
      go_wp2_with (first | ((with_reducible refine gate_dst (N := 1) rfl ?_); refine box_event ?hg (N := 1) ?hd (cs := #[.int .i64 a0_0, .int .i64 a0_1, .int .i64 a0_2]) (t := 32) ?hr ?_; (case hd => rfl); (case hg => rfl); (case hr => first | (go_simp; done) | (go_simp; rfl)); intro gb372 hg w9 hbox hb; have n0_ := z11_A (below_step z11_1 hb); have n1_ := z11_A (hbox); have n2_ := z11_A ((z11_14 : w.heap.size ≤ gb372)); have n3_ := z11_A ((z11_14 : w.heap.size ≤ gb372)); clear HB; revert n0_ n1_ n2_ n3_; intro HB BK372 GW372 GE372; clear hb hbox hg; have hcz10_0 : w9.cell? ⟨gb372, 0, none⟩ = some (.int .i64 a0_0) := bcz BK372.out 0 rfl; have hcz10_1 : w9.cell? ⟨gb372, 1, none⟩ = some (.int .i64 a0_1) := bcz BK372.out 1 rfl; have hcz10_2 : w9.cell? ⟨gb372, 2, none⟩ = some (.int .i64 a0_2) := bcz BK372.out 2 rfl; obtain ⟨hfz10_0, hfz10_1, hfz10_2⟩ := F3z (blk_frozen BK372.out)) | ((with_reducible refine gate_callee (f := 83) rfl ?_); refine goesL_ (some 5) rfl rfl Try.func83 z11_21 rfl #[.int .i64 a0_0, .int .i64 0, .int .i64 99] rfl z11_2 ?_; (with_reducible refine (spec_l1In.calls a0_0 0 99 true _ A2.out).mono ?_); rintro e w' ⟨rfl, ⟨nd, rfl⟩⟩; refine ⟨_, rfl, ?_⟩) | (go_at_call 83; (with_reducible refine (spec_l1In.calls a0_1 0 99 false _ A4.out).mono ?_); rintro e w' ⟨rfl, ⟨nd, rfl⟩⟩))
      go_ret
      exact ⟨z11_5, z11_26⟩
  · replace c3 := Bool.eq_false_iff.mpr c3
    subst c3
    have H1 : (some false) = some r := z11_22
    clear H
    have H := H1
    clear H1
    obtain rfl := Option.some.inj H
    go_enter Try.func78, Try.ntmps78
    go_wp2_with (first | ((with_reducible refine gate_dst (N := 1) rfl ?_); refine box_event ?hg (N := 1) ?hd (cs := #[.int .i64 a0_0, .int .i64 a0_1, .int .i64 a0_2]) (t := 32) ?hr ?_; (case hd => rfl); (case hg => rfl); (case hr => first | (go_simp; done) | (go_simp; rfl)); intro gb372 hg w11 hbox hb; have n0_ := z11_A (below_step z11_1 hb); have n1_ := z11_A (hbox); have n2_ := z11_A ((z11_14 : w.heap.size ≤ gb372)); have n3_ := z11_A ((z11_14 : w.heap.size ≤ gb372)); clear HB; revert n0_ n1_ n2_ n3_; intro HB BK372 GW372 GE372; clear hb hbox hg; have hcz12_0 : w11.cell? ⟨gb372, 0, none⟩ = some (.int .i64 a0_0) := bcz BK372.out 0 rfl; have hcz12_1 : w11.cell? ⟨gb372, 1, none⟩ = some (.int .i64 a0_1) := bcz BK372.out 1 rfl; have hcz12_2 : w11.cell? ⟨gb372, 2, none⟩ = some (.int .i64 a0_2) := bcz BK372.out 2 rfl; obtain ⟨hfz12_0, hfz12_1, hfz12_2⟩ := F3z (blk_frozen BK372.out)) | ((with_reducible refine gate_callee (f := 83) rfl ?_); refine goesL_ (some 5) rfl rfl Try.func83 z11_21 rfl #[.int .i64 a0_0, .int .i64 0, .int .i64 99] rfl z11_2 ?_; (with_reducible refine (spec_l1In.calls a0_0 0 99 false _ A2.out).mono ?_); rintro e w' ⟨rfl, ⟨nd, rfl⟩⟩; refine ⟨_, rfl, ?_⟩))
    go_ret
    exact ⟨z11_5, z11_26⟩

/-! ### spec_l10Both: function 61 -/
def spec_l10Both.f (k : Nat) (l0_0 : List Int) (a0_1 : Int) (a0_2 : Int) (a0_3 : Int) (a1_0 : Int) (a1_1 : Int) (a1_2 : Int) : Option (Bool) := (spec_l10Market.f k l0_0 a0_1 a0_2 a0_3).bind fun t378 => (if t378 = true then ((spec_l10Contract.f a1_0 a1_1 a1_2).bind fun t379 => (some t379)) else (some false))
theorem spec_l10Both.mono : ∀ a0 a1 a2 a3 a4 a5 a6 k, LeO (spec_l10Both.f k a0 a1 a2 a3 a4 a5 a6) (spec_l10Both.f (k + 1) a0 a1 a2 a3 a4 a5 a6) := by
  intro a0 a1 a2 a3 a4 a5 a6 k
  unfold spec_l10Both.f
  repeat' first
      | (with_reducible exact spec_l10Market.mono _ _ _ _ _)
      | (with_reducible exact LeO.refl _)
      | (with_reducible exact LeO.none _)
      | (with_reducible refine LeO.ite ?_ ?_)
      | (with_reducible refine LeO.bind ?_ (fun _ => ?_))
      | exact spec_l10Market.mono _ _ _ _ _
      | exact LeO.none _
      | refine LeO.ite ?_ ?_
      | refine LeO.bind ?_ (fun _ => ?_)
set_option maxHeartbeats 8000000 in
set_option maxRecDepth 100000 in
theorem spec_l10Both.calls (k : Nat) (A0_0 : Option Addr) (c0_0 : Nat) (l0_0 : List Int) (a0_1 : Int) (a0_2 : Int) (a0_3 : Int) (a1_0 : Int) (a1_1 : Int) (a1_2 : Int) (r : Bool) (w : World) (hr0_0 : Kd.C (Kd.int .i64) w A0_0 l0_0.length l0_0) (hc0_0 : l0_0.length ≤ c0_0) (h : spec_l10Both.f k l0_0 a0_1 a0_2 a0_3 a1_0 a1_1 a1_2 = some r) :
    Calls Try.prog 61 #[.agg #[.slice A0_0 l0_0.length c0_0, .int .i64 a0_1, .int .i64 a0_2, .int .i64 a0_3], .agg #[.int .i64 a1_0, .int .i64 a1_1, .int .i64 a1_2]] w fun e w' => e = .returned (.bool r) ∧ Below w.heap.size w w' := by
  have hu30 := Try.underlying30
  have hu32 := Try.underlying32
  have HR0_0 := z11_A hr0_0
  have HC0_0 := z11_A hc0_0
  clear hr0_0 hc0_0
  have HB := z11_A (Below.refl w.heap.size w)
  have H : ((spec_l10Market.f k l0_0 a0_1 a0_2 a0_3).bind fun t378 => (if t378 = true then ((spec_l10Contract.f a1_0 a1_1 a1_2).bind fun t379 => (some t379)) else (some false))) = some r := h
  clear h
  replace H := Option.bind_eq_some_iff.mp H
  obtain ⟨t378, A30, H⟩ := H
  (try dsimp only at H)
  have A3 := z11_A A30
  clear A30
  by_cases c4 : t378 = true
  · subst c4
    have H1 : ((spec_l10Contract.f a1_0 a1_1 a1_2).bind fun t379 => (some t379)) = some r := z11_37
    clear H
    have H := H1
    clear H1
    replace H := Option.bind_eq_some_iff.mp H
    obtain ⟨t379, A50, H⟩ := H
    (try dsimp only at H)
    have A5 := z11_A A50
    clear A50
    obtain rfl := Option.some.inj H
    go_enter Try.func61, Try.ntmps61
    go_wp2_with (first | ((with_reducible refine gate_dst (N := 2) rfl ?_); refine box_event ?hg (N := 2) ?hd (cs := #[.slice A0_0 l0_0.length c0_0, .int .i64 a0_1, .int .i64 a0_2, .int .i64 a0_3]) (t := 30) ?hr ?_; (case hd => rfl); (case hg => rfl); (case hr => first | (go_simp; done) | (go_simp; rfl)); intro gb376 hg w6 hbox hb; have n0_ := z11_A (below_step z11_1 hb); have n1_ := z11_A (hbox); have n2_ := z11_A ((z11_14 : w.heap.size ≤ gb376)); have n3_ := z11_A ((z11_14 : w.heap.size ≤ gb376)); clear HB; revert n0_ n1_ n2_ n3_; intro HB BK376 GW376 GE376; clear hb hbox hg) | ((with_reducible refine gate_dst (N := 3) rfl ?_); refine box_event ?hg (N := 3) ?hd (cs := #[.int .i64 a1_0, .int .i64 a1_1, .int .i64 a1_2]) (t := 32) ?hr ?_; (case hd => rfl); (case hg => rfl); (case hr => first | (go_simp; done) | (go_simp; rfl)); intro gb377 hg w7 hbox hb; have n0_ := z11_A (blk_below (g := gb376) (o := .cells #[.slice A0_0 l0_0.length c0_0, .int .i64 a0_1, .int .i64 a0_2, .int .i64 a0_3] 30 (0, 0)) z11_15 hb); have n1_ := z11_A (below_step z11_17 hb); have n2_ := z11_A (hbox); have n3_ := z11_A ((z11_49 : w.heap.size ≤ gb377)); have n4_ := z11_A ((z11_49 : w.heap.size ≤ gb377)); have n5_ := z11_A ((z11_44 : gb376 ≠ gb377)); have n6_ := z11_A ((z11_45 : gb377 ≠ gb376)); clear BK376 HB; revert n0_ n1_ n2_ n3_ n4_ n5_ n6_; intro BK376 HB BK377 GW377 GE377 NB376_377 NB377_376; clear hb hbox hg; have hnb8 := NB376_377.out; have hnc8 := NB377_376.out; have hcz9_0 : w7.cell? ⟨gb376, 0, none⟩ = some (.slice A0_0 l0_0.length c0_0) := bcz BK376.out 0 rfl; have hcz9_1 : w7.cell? ⟨gb376, 1, none⟩ = some (.int .i64 a0_1) := bcz BK376.out 1 rfl; have hcz9_2 : w7.cell? ⟨gb376, 2, none⟩ = some (.int .i64 a0_2) := bcz BK376.out 2 rfl; have hcz9_3 : w7.cell? ⟨gb376, 3, none⟩ = some (.int .i64 a0_3) := bcz BK376.out 3 rfl; obtain ⟨hfz9_0, hfz9_1, hfz9_2, hfz9_3⟩ := F4z (blk_frozen BK376.out)) | ((with_reducible refine gate_callee (f := 67) rfl ?_); refine goesL_ (some 6) rfl rfl Try.func67 z11_21 rfl #[.agg #[.slice A0_0 l0_0.length c0_0, .int .i64 a0_1, .int .i64 a0_2, .int .i64 a0_3]] rfl z11_2 ?_; (with_reducible refine (spec_l10Market.calls k _ _ l0_0 a0_1 a0_2 a0_3 true _ ?side1 ?side2 A3.out).mono ?_); (case side1 => have zh := (Kd.C_below HR0_0.out HB.out); exact z11_C); (case side2 => exact HC0_0.out); rintro e w10 ⟨rfl, hb⟩; refine ⟨_, rfl, ?_⟩; have n0_ := z11_A (blk_below (g := gb376) (o := .cells #[.slice A0_0 l0_0.length c0_0, .int .i64 a0_1, .int .i64 a0_2, .int .i64 a0_3] 30 (0, 0)) z11_15 hb); have n1_ := z11_A (blk_below (g := gb377) (o := .cells #[.int .i64 a1_0, .int .i64 a1_1, .int .i64 a1_2] 32 (0, 0)) z11_38 hb); have n2_ := z11_A (below_step z11_18 hb); clear BK376 BK377 HB; revert n0_ n1_ n2_; intro BK376 BK377 HB; (try clear hb); (try clear hb2); (try clear hk); (try clear hi); have hcz11_0 : w10.cell? ⟨gb377, 0, none⟩ = some (.int .i64 a1_0) := bcz BK377.out 0 rfl; have hcz11_1 : w10.cell? ⟨gb377, 1, none⟩ = some (.int .i64 a1_1) := bcz BK377.out 1 rfl; have hcz11_2 : w10.cell? ⟨gb377, 2, none⟩ = some (.int .i64 a1_2) := bcz BK377.out 2 rfl; obtain ⟨hfz11_0, hfz11_1, hfz11_2⟩ := F3z (blk_frozen BK377.out)) | (go_at_call 78; (with_reducible refine (spec_l10Contract.calls a1_0 a1_1 a1_2 t379 _ A5.out).mono ?_); rintro e w12 ⟨rfl, hb⟩; have n0_ := z11_A (blk_below (g := gb376) (o := .cells #[.slice A0_0 l0_0.length c0_0, .int .i64 a0_1, .int .i64 a0_2, .int .i64 a0_3] 30 (0, 0)) z11_15 hb); have n1_ := z11_A (blk_below (g := gb377) (o := .cells #[.int .i64 a1_0, .int .i64 a1_1, .int .i64 a1_2] 32 (0, 0)) z11_38 hb); have n2_ := z11_A (below_step z11_18 hb); clear BK376 BK377 HB; revert n0_ n1_ n2_; intro BK376 BK377 HB; (try clear hb); (try clear hb2); (try clear hk); (try clear hi)))
    go_ret
    exact ⟨z11_5, z11_18⟩
  · replace c4 := Bool.eq_false_iff.mpr c4
    subst c4
    have H1 : (some false) = some r := z11_22
    clear H
    have H := H1
    clear H1
    obtain rfl := Option.some.inj H
    go_enter Try.func61, Try.ntmps61
    go_wp2_with (first | ((with_reducible refine gate_dst (N := 2) rfl ?_); refine box_event ?hg (N := 2) ?hd (cs := #[.slice A0_0 l0_0.length c0_0, .int .i64 a0_1, .int .i64 a0_2, .int .i64 a0_3]) (t := 30) ?hr ?_; (case hd => rfl); (case hg => rfl); (case hr => first | (go_simp; done) | (go_simp; rfl)); intro gb376 hg w13 hbox hb; have n0_ := z11_A (below_step z11_1 hb); have n1_ := z11_A (hbox); have n2_ := z11_A ((z11_14 : w.heap.size ≤ gb376)); have n3_ := z11_A ((z11_14 : w.heap.size ≤ gb376)); clear HB; revert n0_ n1_ n2_ n3_; intro HB BK376 GW376 GE376; clear hb hbox hg) | ((with_reducible refine gate_dst (N := 3) rfl ?_); refine box_event ?hg (N := 3) ?hd (cs := #[.int .i64 a1_0, .int .i64 a1_1, .int .i64 a1_2]) (t := 32) ?hr ?_; (case hd => rfl); (case hg => rfl); (case hr => first | (go_simp; done) | (go_simp; rfl)); intro gb377 hg w14 hbox hb; have n0_ := z11_A (blk_below (g := gb376) (o := .cells #[.slice A0_0 l0_0.length c0_0, .int .i64 a0_1, .int .i64 a0_2, .int .i64 a0_3] 30 (0, 0)) z11_15 hb); have n1_ := z11_A (below_step z11_17 hb); have n2_ := z11_A (hbox); have n3_ := z11_A ((z11_49 : w.heap.size ≤ gb377)); have n4_ := z11_A ((z11_49 : w.heap.size ≤ gb377)); have n5_ := z11_A ((z11_44 : gb376 ≠ gb377)); have n6_ := z11_A ((z11_45 : gb377 ≠ gb376)); clear BK376 HB; revert n0_ n1_ n2_ n3_ n4_ n5_ n6_; intro BK376 HB BK377 GW377 GE377 NB376_377 NB377_376; clear hb hbox hg; have hnb15 := NB376_377.out; have hnc15 := NB377_376.out; have hcz16_0 : w14.cell? ⟨gb376, 0, none⟩ = some (.slice A0_0 l0_0.length c0_0) := bcz BK376.out 0 rfl; have hcz16_1 : w14.cell? ⟨gb376, 1, none⟩ = some (.int .i64 a0_1) := bcz BK376.out 1 rfl; have hcz16_2 : w14.cell? ⟨gb376, 2, none⟩ = some (.int .i64 a0_2) := bcz BK376.out 2 rfl; have hcz16_3 : w14.cell? ⟨gb376, 3, none⟩ = some (.int .i64 a0_3) := bcz BK376.out 3 rfl; obtain ⟨hfz16_0, hfz16_1, hfz16_2, hfz16_3⟩ := F4z (blk_frozen BK376.out)) | ((with_reducible refine gate_callee (f := 67) rfl ?_); refine goesL_ (some 6) rfl rfl Try.func67 z11_21 rfl #[.agg #[.slice A0_0 l0_0.length c0_0, .int .i64 a0_1, .int .i64 a0_2, .int .i64 a0_3]] rfl z11_2 ?_; (with_reducible refine (spec_l10Market.calls k _ _ l0_0 a0_1 a0_2 a0_3 false _ ?side1 ?side2 A3.out).mono ?_); (case side1 => have zh := (Kd.C_below HR0_0.out HB.out); exact z11_C); (case side2 => exact HC0_0.out); rintro e w17 ⟨rfl, hb⟩; refine ⟨_, rfl, ?_⟩; have n0_ := z11_A (blk_below (g := gb376) (o := .cells #[.slice A0_0 l0_0.length c0_0, .int .i64 a0_1, .int .i64 a0_2, .int .i64 a0_3] 30 (0, 0)) z11_15 hb); have n1_ := z11_A (blk_below (g := gb377) (o := .cells #[.int .i64 a1_0, .int .i64 a1_1, .int .i64 a1_2] 32 (0, 0)) z11_38 hb); have n2_ := z11_A (below_step z11_18 hb); clear BK376 BK377 HB; revert n0_ n1_ n2_; intro BK376 BK377 HB; (try clear hb); (try clear hb2); (try clear hk); (try clear hi)))
    go_ret
    exact ⟨z11_5, z11_18⟩

/-! ### spec_l10Order: function 92 -/
def spec_l10Order.f (a0 : Int) : Option (Bool) := (spec_l1In.f a0 0 8).bind fun t380 => (some t380)
set_option maxHeartbeats 8000000 in
set_option maxRecDepth 100000 in
theorem spec_l10Order.calls (a0 : Int) (r : Bool) (w : World) (h : spec_l10Order.f a0 = some r) :
    Calls Try.prog 92 #[.int .i64 a0] w fun e w' => e = .returned (.bool r) ∧ Drawn0 w w' := by
  have H : ((spec_l1In.f a0 0 8).bind fun t380 => (some t380)) = some r := h
  clear h
  replace H := Option.bind_eq_some_iff.mp H
  obtain ⟨t380, A20, H⟩ := H
  (try dsimp only at H)
  have A2 := z11_A A20
  clear A20
  obtain rfl := Option.some.inj H
  go_enter Try.func92, Try.ntmps92
  go_wp2_with (first | ((with_reducible refine gate_callee (f := 83) rfl ?_); refine goesL_ (some 4) rfl rfl Try.func83 z11_21 rfl #[.int .i64 a0, .int .i64 0, .int .i64 8] rfl z11_2 ?_; (with_reducible refine (spec_l1In.calls a0 0 8 t380 _ A2.out).mono ?_); rintro e w' ⟨rfl, ⟨nd, rfl⟩⟩; refine ⟨_, rfl, ?_⟩))
  go_ret
  exact ⟨by first | rfl | (simp; done) | (simp [*]; done), by repeat (first | exact Drawn0.refl _ | apply Drawn0.step)⟩

/-! ### spec_SellerProfit: function 47 -/
def spec_SellerProfit.f (k : Nat) (l0_0 : List Int) (a0_1 : Int) (a0_2 : Int) (a0_3 : Int) (a1_0 : Int) (a1_1 : Int) (a1_2 : Int) (a2 : Int) : Option (Int × Bool) := (spec_l10Both.f k l0_0 a0_1 a0_2 a0_3 a1_0 a1_1 a1_2).bind fun t383 => (if t383 = true then ((spec_l10Order.f a2).bind fun t384 => (if t384 = true then ((spec_l10Seller.f k l0_0 a0_1 a0_2 a0_3 a1_0 a1_1 a1_2 a2).bind fun t385 => (some (t385, true))) else (some (0, false)))) else (some (0, false)))
theorem spec_SellerProfit.mono : ∀ a0 a1 a2 a3 a4 a5 a6 a7 k, LeO (spec_SellerProfit.f k a0 a1 a2 a3 a4 a5 a6 a7) (spec_SellerProfit.f (k + 1) a0 a1 a2 a3 a4 a5 a6 a7) := by
  intro a0 a1 a2 a3 a4 a5 a6 a7 k
  unfold spec_SellerProfit.f
  repeat' first
      | (with_reducible exact spec_l10Both.mono _ _ _ _ _ _ _ _)
      | (with_reducible exact spec_l10Seller.mono _ _ _ _ _ _ _ _ _)
      | (with_reducible exact LeO.refl _)
      | (with_reducible exact LeO.none _)
      | (with_reducible refine LeO.ite ?_ ?_)
      | (with_reducible refine LeO.bind ?_ (fun _ => ?_))
      | exact spec_l10Both.mono _ _ _ _ _ _ _ _
      | exact spec_l10Seller.mono _ _ _ _ _ _ _ _ _
      | exact LeO.none _
      | refine LeO.ite ?_ ?_
      | refine LeO.bind ?_ (fun _ => ?_)
set_option maxHeartbeats 8000000 in
set_option maxRecDepth 100000 in
theorem spec_SellerProfit.calls (k : Nat) (A0_0 : Option Addr) (c0_0 : Nat) (l0_0 : List Int) (a0_1 : Int) (a0_2 : Int) (a0_3 : Int) (a1_0 : Int) (a1_1 : Int) (a1_2 : Int) (a2 : Int) (r1 : Int) (r2 : Bool) (w : World) (hr0_0 : Kd.C (Kd.int .i64) w A0_0 l0_0.length l0_0) (hc0_0 : l0_0.length ≤ c0_0) (h : spec_SellerProfit.f k l0_0 a0_1 a0_2 a0_3 a1_0 a1_1 a1_2 a2 = some (r1, r2)) :
    Calls Try.prog 47 #[.agg #[.slice A0_0 l0_0.length c0_0, .int .i64 a0_1, .int .i64 a0_2, .int .i64 a0_3], .agg #[.int .i64 a1_0, .int .i64 a1_1, .int .i64 a1_2], .int .i64 a2] w fun e w' => e = .returned (.tuple #[.int .i64 r1, .bool r2]) ∧ Below w.heap.size w w' := by
  have hu30 := Try.underlying30
  have hu32 := Try.underlying32
  have HR0_0 := z11_A hr0_0
  have HC0_0 := z11_A hc0_0
  clear hr0_0 hc0_0
  have HB := z11_A (Below.refl w.heap.size w)
  have H : ((spec_l10Both.f k l0_0 a0_1 a0_2 a0_3 a1_0 a1_1 a1_2).bind fun t383 => (if t383 = true then ((spec_l10Order.f a2).bind fun t384 => (if t384 = true then ((spec_l10Seller.f k l0_0 a0_1 a0_2 a0_3 a1_0 a1_1 a1_2 a2).bind fun t385 => (some (t385, true))) else (some (0, false)))) else (some (0, false)))) = some (r1, r2) := h
  clear h
  replace H := Option.bind_eq_some_iff.mp H
  obtain ⟨t383, A40, H⟩ := H
  (try dsimp only at H)
  have A4 := z11_A A40
  clear A40
  by_cases c5 : t383 = true
  · subst c5
    have H1 : ((spec_l10Order.f a2).bind fun t384 => (if t384 = true then ((spec_l10Seller.f k l0_0 a0_1 a0_2 a0_3 a1_0 a1_1 a1_2 a2).bind fun t385 => (some (t385, true))) else (some (0, false)))) = some (r1, r2) := z11_37
    clear H
    have H := H1
    clear H1
    replace H := Option.bind_eq_some_iff.mp H
    obtain ⟨t384, A60, H⟩ := H
    (try dsimp only at H)
    have A6 := z11_A A60
    clear A60
    by_cases c7 : t384 = true
    · subst c7
      have H1 : ((spec_l10Seller.f k l0_0 a0_1 a0_2 a0_3 a1_0 a1_1 a1_2 a2).bind fun t385 => (some (t385, true))) = some (r1, r2) := z11_37
      clear H
      have H := H1
      clear H1
      replace H := Option.bind_eq_some_iff.mp H
      obtain ⟨t385, A80, H⟩ := H
      (try dsimp only at H)
      have A8 := z11_A A80
      clear A80
      simp only [Option.some.injEq, Prod.mk.injEq] at H
      obtain ⟨rfl, rfl⟩ := H
      go_enter Try.func47, Try.ntmps47
      go_wp2_with (first | ((with_reducible refine gate_dst (N := 3) rfl ?_); refine box_event ?hg (N := 3) ?hd (cs := #[.slice A0_0 l0_0.length c0_0, .int .i64 a0_1, .int .i64 a0_2, .int .i64 a0_3]) (t := 30) ?hr ?_; (case hd => rfl); (case hg => rfl); (case hr => first | (go_simp; done) | (go_simp; rfl)); intro gb381 hg w9 hbox hb; have n0_ := z11_A (below_step z11_1 hb); have n1_ := z11_A (hbox); have n2_ := z11_A ((z11_14 : w.heap.size ≤ gb381)); have n3_ := z11_A ((z11_14 : w.heap.size ≤ gb381)); clear HB; revert n0_ n1_ n2_ n3_; intro HB BK381 GW381 GE381; clear hb hbox hg) | ((with_reducible refine gate_dst (N := 4) rfl ?_); refine box_event ?hg (N := 4) ?hd (cs := #[.int .i64 a1_0, .int .i64 a1_1, .int .i64 a1_2]) (t := 32) ?hr ?_; (case hd => rfl); (case hg => rfl); (case hr => first | (go_simp; done) | (go_simp; rfl)); intro gb382 hg w10 hbox hb; have n0_ := z11_A (blk_below (g := gb381) (o := .cells #[.slice A0_0 l0_0.length c0_0, .int .i64 a0_1, .int .i64 a0_2, .int .i64 a0_3] 30 (0, 0)) z11_7 hb); have n1_ := z11_A (below_step z11_12 hb); have n2_ := z11_A (hbox); have n3_ := z11_A ((z11_41 : w.heap.size ≤ gb382)); have n4_ := z11_A ((z11_41 : w.heap.size ≤ gb382)); have n5_ := z11_A ((z11_30 : gb381 ≠ gb382)); have n6_ := z11_A ((z11_33 : gb382 ≠ gb381)); clear BK381 HB; revert n0_ n1_ n2_ n3_ n4_ n5_ n6_; intro BK381 HB BK382 GW382 GE382 NB381_382 NB382_381; clear hb hbox hg; have hnb11 := NB381_382.out; have hnc11 := NB382_381.out; have hcz12_0 : w10.cell? ⟨gb381, 0, none⟩ = some (.slice A0_0 l0_0.length c0_0) := bcz BK381.out 0 rfl; have hcz12_1 : w10.cell? ⟨gb381, 1, none⟩ = some (.int .i64 a0_1) := bcz BK381.out 1 rfl; have hcz12_2 : w10.cell? ⟨gb381, 2, none⟩ = some (.int .i64 a0_2) := bcz BK381.out 2 rfl; have hcz12_3 : w10.cell? ⟨gb381, 3, none⟩ = some (.int .i64 a0_3) := bcz BK381.out 3 rfl; obtain ⟨hfz12_0, hfz12_1, hfz12_2, hfz12_3⟩ := F4z (blk_frozen BK381.out); have hcz13_0 : w10.cell? ⟨gb382, 0, none⟩ = some (.int .i64 a1_0) := bcz BK382.out 0 rfl; have hcz13_1 : w10.cell? ⟨gb382, 1, none⟩ = some (.int .i64 a1_1) := bcz BK382.out 1 rfl; have hcz13_2 : w10.cell? ⟨gb382, 2, none⟩ = some (.int .i64 a1_2) := bcz BK382.out 2 rfl; obtain ⟨hfz13_0, hfz13_1, hfz13_2⟩ := F3z (blk_frozen BK382.out)) | ((with_reducible refine gate_callee (f := 61) rfl ?_); refine goesL_ (some 10) rfl rfl Try.func61 z11_21 rfl #[.agg #[.slice A0_0 l0_0.length c0_0, .int .i64 a0_1, .int .i64 a0_2, .int .i64 a0_3], .agg #[.int .i64 a1_0, .int .i64 a1_1, .int .i64 a1_2]] rfl z11_2 ?_; (with_reducible refine (spec_l10Both.calls k _ _ l0_0 a0_1 a0_2 a0_3 a1_0 a1_1 a1_2 true _ ?side1 ?side2 A4.out).mono ?_); (case side1 => have zh := (Kd.C_below HR0_0.out HB.out); exact z11_C); (case side2 => exact HC0_0.out); rintro e w14 ⟨rfl, hb⟩; refine ⟨_, rfl, ?_⟩; have n0_ := z11_A (blk_below (g := gb381) (o := .cells #[.slice A0_0 l0_0.length c0_0, .int .i64 a0_1, .int .i64 a0_2, .int .i64 a0_3] 30 (0, 0)) z11_7 hb); have n1_ := z11_A (blk_below (g := gb382) (o := .cells #[.int .i64 a1_0, .int .i64 a1_1, .int .i64 a1_2] 32 (0, 0)) z11_25 hb); have n2_ := z11_A (below_step z11_9 hb); clear BK381 BK382 HB; revert n0_ n1_ n2_; intro BK381 BK382 HB; (try clear hb); (try clear hb2); (try clear hk); (try clear hi)) | (go_at_call 92; (with_reducible refine (spec_l10Order.calls a2 true _ A6.out).mono ?_); rintro e w' ⟨rfl, ⟨nd, rfl⟩⟩; have hcz15_0 : w14.cell? ⟨gb381, 0, none⟩ = some (.slice A0_0 l0_0.length c0_0) := bcz BK381.out 0 rfl; have hcz15_1 : w14.cell? ⟨gb381, 1, none⟩ = some (.int .i64 a0_1) := bcz BK381.out 1 rfl; have hcz15_2 : w14.cell? ⟨gb381, 2, none⟩ = some (.int .i64 a0_2) := bcz BK381.out 2 rfl; have hcz15_3 : w14.cell? ⟨gb381, 3, none⟩ = some (.int .i64 a0_3) := bcz BK381.out 3 rfl; obtain ⟨hfz15_0, hfz15_1, hfz15_2, hfz15_3⟩ := F4z (blk_frozen BK381.out); have hcz16_0 : w14.cell? ⟨gb382, 0, none⟩ = some (.int .i64 a1_0) := bcz BK382.out 0 rfl; have hcz16_1 : w14.cell? ⟨gb382, 1, none⟩ = some (.int .i64 a1_1) := bcz BK382.out 1 rfl; have hcz16_2 : w14.cell? ⟨gb382, 2, none⟩ = some (.int .i64 a1_2) := bcz BK382.out 2 rfl; obtain ⟨hfz16_0, hfz16_1, hfz16_2⟩ := F3z (blk_frozen BK382.out)) | ((with_reducible refine gate_callee (f := 93) rfl ?_); refine goesL_ (some 20) rfl rfl Try.func93 z11_21 rfl #[.agg #[.slice A0_0 l0_0.length c0_0, .int .i64 a0_1, .int .i64 a0_2, .int .i64 a0_3], .agg #[.int .i64 a1_0, .int .i64 a1_1, .int .i64 a1_2], .int .i64 a2] rfl z11_2 ?_; (with_reducible refine (spec_l10Seller.calls k _ _ l0_0 a0_1 a0_2 a0_3 a1_0 a1_1 a1_2 a2 t385 _ ?side1 ?side2 A8.out).mono ?_); (case side1 => repeat (first | exact (Kd.C_below HR0_0.out z11_9) | (with_reducible refine Kd.C_alloc ?_ _) | (with_reducible refine Kd.C_drewN ?_ _) | (with_reducible refine Kd.C_drew ?_))); (case side2 => exact HC0_0.out); rintro e w17 ⟨rfl, hb⟩; refine ⟨_, rfl, ?_⟩; have n0_ := z11_A (blk_below (g := gb381) (o := .cells #[.slice A0_0 l0_0.length c0_0, .int .i64 a0_1, .int .i64 a0_2, .int .i64 a0_3] 30 (0, 0)) z11_7 hb); have n1_ := z11_A (blk_below (g := gb382) (o := .cells #[.int .i64 a1_0, .int .i64 a1_1, .int .i64 a1_2] 32 (0, 0)) z11_25 hb); have n2_ := z11_A (below_step z11_9 hb); clear BK381 BK382 HB; revert n0_ n1_ n2_; intro BK381 BK382 HB; (try clear hb); (try clear hb2); (try clear hk); (try clear hi)))
      go_ret2
      exact ⟨z11_5, z11_9⟩
    · replace c7 := Bool.eq_false_iff.mpr c7
      subst c7
      have H1 : (some (0, false)) = some (r1, r2) := z11_22
      clear H
      have H := H1
      clear H1
      simp only [Option.some.injEq, Prod.mk.injEq] at H
      obtain ⟨rfl, rfl⟩ := H
      go_enter Try.func47, Try.ntmps47
      go_wp2_with (first | ((with_reducible refine gate_dst (N := 3) rfl ?_); refine box_event ?hg (N := 3) ?hd (cs := #[.slice A0_0 l0_0.length c0_0, .int .i64 a0_1, .int .i64 a0_2, .int .i64 a0_3]) (t := 30) ?hr ?_; (case hd => rfl); (case hg => rfl); (case hr => first | (go_simp; done) | (go_simp; rfl)); intro gb381 hg w18 hbox hb; have n0_ := z11_A (below_step z11_1 hb); have n1_ := z11_A (hbox); have n2_ := z11_A ((z11_14 : w.heap.size ≤ gb381)); have n3_ := z11_A ((z11_14 : w.heap.size ≤ gb381)); clear HB; revert n0_ n1_ n2_ n3_; intro HB BK381 GW381 GE381; clear hb hbox hg) | ((with_reducible refine gate_dst (N := 4) rfl ?_); refine box_event ?hg (N := 4) ?hd (cs := #[.int .i64 a1_0, .int .i64 a1_1, .int .i64 a1_2]) (t := 32) ?hr ?_; (case hd => rfl); (case hg => rfl); (case hr => first | (go_simp; done) | (go_simp; rfl)); intro gb382 hg w19 hbox hb; have n0_ := z11_A (blk_below (g := gb381) (o := .cells #[.slice A0_0 l0_0.length c0_0, .int .i64 a0_1, .int .i64 a0_2, .int .i64 a0_3] 30 (0, 0)) z11_7 hb); have n1_ := z11_A (below_step z11_12 hb); have n2_ := z11_A (hbox); have n3_ := z11_A ((z11_41 : w.heap.size ≤ gb382)); have n4_ := z11_A ((z11_41 : w.heap.size ≤ gb382)); have n5_ := z11_A ((z11_30 : gb381 ≠ gb382)); have n6_ := z11_A ((z11_33 : gb382 ≠ gb381)); clear BK381 HB; revert n0_ n1_ n2_ n3_ n4_ n5_ n6_; intro BK381 HB BK382 GW382 GE382 NB381_382 NB382_381; clear hb hbox hg; have hnb20 := NB381_382.out; have hnc20 := NB382_381.out; have hcz21_0 : w19.cell? ⟨gb381, 0, none⟩ = some (.slice A0_0 l0_0.length c0_0) := bcz BK381.out 0 rfl; have hcz21_1 : w19.cell? ⟨gb381, 1, none⟩ = some (.int .i64 a0_1) := bcz BK381.out 1 rfl; have hcz21_2 : w19.cell? ⟨gb381, 2, none⟩ = some (.int .i64 a0_2) := bcz BK381.out 2 rfl; have hcz21_3 : w19.cell? ⟨gb381, 3, none⟩ = some (.int .i64 a0_3) := bcz BK381.out 3 rfl; obtain ⟨hfz21_0, hfz21_1, hfz21_2, hfz21_3⟩ := F4z (blk_frozen BK381.out); have hcz22_0 : w19.cell? ⟨gb382, 0, none⟩ = some (.int .i64 a1_0) := bcz BK382.out 0 rfl; have hcz22_1 : w19.cell? ⟨gb382, 1, none⟩ = some (.int .i64 a1_1) := bcz BK382.out 1 rfl; have hcz22_2 : w19.cell? ⟨gb382, 2, none⟩ = some (.int .i64 a1_2) := bcz BK382.out 2 rfl; obtain ⟨hfz22_0, hfz22_1, hfz22_2⟩ := F3z (blk_frozen BK382.out)) | ((with_reducible refine gate_callee (f := 61) rfl ?_); refine goesL_ (some 10) rfl rfl Try.func61 z11_21 rfl #[.agg #[.slice A0_0 l0_0.length c0_0, .int .i64 a0_1, .int .i64 a0_2, .int .i64 a0_3], .agg #[.int .i64 a1_0, .int .i64 a1_1, .int .i64 a1_2]] rfl z11_2 ?_; (with_reducible refine (spec_l10Both.calls k _ _ l0_0 a0_1 a0_2 a0_3 a1_0 a1_1 a1_2 true _ ?side1 ?side2 A4.out).mono ?_); (case side1 => have zh := (Kd.C_below HR0_0.out HB.out); exact z11_C); (case side2 => exact HC0_0.out); rintro e w23 ⟨rfl, hb⟩; refine ⟨_, rfl, ?_⟩; have n0_ := z11_A (blk_below (g := gb381) (o := .cells #[.slice A0_0 l0_0.length c0_0, .int .i64 a0_1, .int .i64 a0_2, .int .i64 a0_3] 30 (0, 0)) z11_7 hb); have n1_ := z11_A (blk_below (g := gb382) (o := .cells #[.int .i64 a1_0, .int .i64 a1_1, .int .i64 a1_2] 32 (0, 0)) z11_25 hb); have n2_ := z11_A (below_step z11_9 hb); clear BK381 BK382 HB; revert n0_ n1_ n2_; intro BK381 BK382 HB; (try clear hb); (try clear hb2); (try clear hk); (try clear hi)) | (go_at_call 92; (with_reducible refine (spec_l10Order.calls a2 false _ A6.out).mono ?_); rintro e w' ⟨rfl, ⟨nd, rfl⟩⟩))
      go_ret2
      exact ⟨z11_5, z11_9⟩
  · replace c5 := Bool.eq_false_iff.mpr c5
    subst c5
    have H1 : (some (0, false)) = some (r1, r2) := z11_22
    clear H
    have H := H1
    clear H1
    simp only [Option.some.injEq, Prod.mk.injEq] at H
    obtain ⟨rfl, rfl⟩ := H
    go_enter Try.func47, Try.ntmps47
    go_wp2_with (first | ((with_reducible refine gate_dst (N := 3) rfl ?_); refine box_event ?hg (N := 3) ?hd (cs := #[.slice A0_0 l0_0.length c0_0, .int .i64 a0_1, .int .i64 a0_2, .int .i64 a0_3]) (t := 30) ?hr ?_; (case hd => rfl); (case hg => rfl); (case hr => first | (go_simp; done) | (go_simp; rfl)); intro gb381 hg w24 hbox hb; have n0_ := z11_A (below_step z11_1 hb); have n1_ := z11_A (hbox); have n2_ := z11_A ((z11_14 : w.heap.size ≤ gb381)); have n3_ := z11_A ((z11_14 : w.heap.size ≤ gb381)); clear HB; revert n0_ n1_ n2_ n3_; intro HB BK381 GW381 GE381; clear hb hbox hg) | ((with_reducible refine gate_dst (N := 4) rfl ?_); refine box_event ?hg (N := 4) ?hd (cs := #[.int .i64 a1_0, .int .i64 a1_1, .int .i64 a1_2]) (t := 32) ?hr ?_; (case hd => rfl); (case hg => rfl); (case hr => first | (go_simp; done) | (go_simp; rfl)); intro gb382 hg w25 hbox hb; have n0_ := z11_A (blk_below (g := gb381) (o := .cells #[.slice A0_0 l0_0.length c0_0, .int .i64 a0_1, .int .i64 a0_2, .int .i64 a0_3] 30 (0, 0)) z11_7 hb); have n1_ := z11_A (below_step z11_12 hb); have n2_ := z11_A (hbox); have n3_ := z11_A ((z11_41 : w.heap.size ≤ gb382)); have n4_ := z11_A ((z11_41 : w.heap.size ≤ gb382)); have n5_ := z11_A ((z11_30 : gb381 ≠ gb382)); have n6_ := z11_A ((z11_33 : gb382 ≠ gb381)); clear BK381 HB; revert n0_ n1_ n2_ n3_ n4_ n5_ n6_; intro BK381 HB BK382 GW382 GE382 NB381_382 NB382_381; clear hb hbox hg; have hnb26 := NB381_382.out; have hnc26 := NB382_381.out; have hcz27_0 : w25.cell? ⟨gb381, 0, none⟩ = some (.slice A0_0 l0_0.length c0_0) := bcz BK381.out 0 rfl; have hcz27_1 : w25.cell? ⟨gb381, 1, none⟩ = some (.int .i64 a0_1) := bcz BK381.out 1 rfl; have hcz27_2 : w25.cell? ⟨gb381, 2, none⟩ = some (.int .i64 a0_2) := bcz BK381.out 2 rfl; have hcz27_3 : w25.cell? ⟨gb381, 3, none⟩ = some (.int .i64 a0_3) := bcz BK381.out 3 rfl; obtain ⟨hfz27_0, hfz27_1, hfz27_2, hfz27_3⟩ := F4z (blk_frozen BK381.out); have hcz28_0 : w25.cell? ⟨gb382, 0, none⟩ = some (.int .i64 a1_0) := bcz BK382.out 0 rfl; have hcz28_1 : w25.cell? ⟨gb382, 1, none⟩ = some (.int .i64 a1_1) := bcz BK382.out 1 rfl; have hcz28_2 : w25.cell? ⟨gb382, 2, none⟩ = some (.int .i64 a1_2) := bcz BK382.out 2 rfl; obtain ⟨hfz28_0, hfz28_1, hfz28_2⟩ := F3z (blk_frozen BK382.out)) | ((with_reducible refine gate_callee (f := 61) rfl ?_); refine goesL_ (some 10) rfl rfl Try.func61 z11_21 rfl #[.agg #[.slice A0_0 l0_0.length c0_0, .int .i64 a0_1, .int .i64 a0_2, .int .i64 a0_3], .agg #[.int .i64 a1_0, .int .i64 a1_1, .int .i64 a1_2]] rfl z11_2 ?_; (with_reducible refine (spec_l10Both.calls k _ _ l0_0 a0_1 a0_2 a0_3 a1_0 a1_1 a1_2 false _ ?side1 ?side2 A4.out).mono ?_); (case side1 => have zh := (Kd.C_below HR0_0.out HB.out); exact z11_C); (case side2 => exact HC0_0.out); rintro e w29 ⟨rfl, hb⟩; refine ⟨_, rfl, ?_⟩; have n0_ := z11_A (blk_below (g := gb381) (o := .cells #[.slice A0_0 l0_0.length c0_0, .int .i64 a0_1, .int .i64 a0_2, .int .i64 a0_3] 30 (0, 0)) z11_7 hb); have n1_ := z11_A (blk_below (g := gb382) (o := .cells #[.int .i64 a1_0, .int .i64 a1_1, .int .i64 a1_2] 32 (0, 0)) z11_25 hb); have n2_ := z11_A (below_step z11_9 hb); clear BK381 BK382 HB; revert n0_ n1_ n2_; intro BK381 BK382 HB; (try clear hb); (try clear hb2); (try clear hk); (try clear hi)))
    go_ret2
    exact ⟨z11_5, z11_9⟩

/-! ### impl_MakerProfit: function 48 -/
def impl_MakerProfit.f (k : Nat) (l0_0 : List Int) (a0_1 : Int) (a0_2 : Int) (a0_3 : Int) (a1_0 : Int) (a1_1 : Int) (a1_2 : Int) (a2 : Int) : Option (Int × Bool) := (impl_isSale.f k l0_0 a0_1 a0_2 a0_3 a2).bind fun t388 => (if t388 = true then ((impl_IsContract.f a1_0 a1_1 a1_2).bind fun t389 => (if t389 = true then ((impl_Market_maker.f k l0_0 a0_1 a0_2 a0_3 a1_0 a1_1 a1_2 a2).bind fun t390 => (some (t390, true))) else (some (0, false)))) else (some (0, false)))
theorem impl_MakerProfit.mono : ∀ a0 a1 a2 a3 a4 a5 a6 a7 k, LeO (impl_MakerProfit.f k a0 a1 a2 a3 a4 a5 a6 a7) (impl_MakerProfit.f (k + 1) a0 a1 a2 a3 a4 a5 a6 a7) := by
  intro a0 a1 a2 a3 a4 a5 a6 a7 k
  unfold impl_MakerProfit.f
  repeat' first
      | (with_reducible exact impl_Market_maker.mono _ _ _ _ _ _ _ _ _)
      | (with_reducible exact impl_isSale.mono _ _ _ _ _ _)
      | (with_reducible exact LeO.refl _)
      | (with_reducible exact LeO.none _)
      | (with_reducible refine LeO.ite ?_ ?_)
      | (with_reducible refine LeO.bind ?_ (fun _ => ?_))
      | exact impl_Market_maker.mono _ _ _ _ _ _ _ _ _
      | exact impl_isSale.mono _ _ _ _ _ _
      | exact LeO.none _
      | refine LeO.ite ?_ ?_
      | refine LeO.bind ?_ (fun _ => ?_)
set_option maxHeartbeats 8000000 in
set_option maxRecDepth 100000 in
theorem impl_MakerProfit.calls (k : Nat) (A0_0 : Option Addr) (c0_0 : Nat) (l0_0 : List Int) (a0_1 : Int) (a0_2 : Int) (a0_3 : Int) (a1_0 : Int) (a1_1 : Int) (a1_2 : Int) (a2 : Int) (r1 : Int) (r2 : Bool) (w : World) (hr0_0 : Kd.C (Kd.int .i64) w A0_0 l0_0.length l0_0) (hc0_0 : l0_0.length ≤ c0_0) (h : impl_MakerProfit.f k l0_0 a0_1 a0_2 a0_3 a1_0 a1_1 a1_2 a2 = some (r1, r2)) :
    Calls Try.prog 48 #[.agg #[.slice A0_0 l0_0.length c0_0, .int .i64 a0_1, .int .i64 a0_2, .int .i64 a0_3], .agg #[.int .i64 a1_0, .int .i64 a1_1, .int .i64 a1_2], .int .i64 a2] w fun e w' => e = .returned (.tuple #[.int .i64 r1, .bool r2]) ∧ Below w.heap.size w w' := by
  have hu30 := Try.underlying30
  have hu32 := Try.underlying32
  have HR0_0 := z11_A hr0_0
  have HC0_0 := z11_A hc0_0
  clear hr0_0 hc0_0
  have HB := z11_A (Below.refl w.heap.size w)
  have H : ((impl_isSale.f k l0_0 a0_1 a0_2 a0_3 a2).bind fun t388 => (if t388 = true then ((impl_IsContract.f a1_0 a1_1 a1_2).bind fun t389 => (if t389 = true then ((impl_Market_maker.f k l0_0 a0_1 a0_2 a0_3 a1_0 a1_1 a1_2 a2).bind fun t390 => (some (t390, true))) else (some (0, false)))) else (some (0, false)))) = some (r1, r2) := h
  clear h
  replace H := Option.bind_eq_some_iff.mp H
  obtain ⟨t388, A40, H⟩ := H
  (try dsimp only at H)
  have A4 := z11_A A40
  clear A40
  by_cases c5 : t388 = true
  · subst c5
    have H1 : ((impl_IsContract.f a1_0 a1_1 a1_2).bind fun t389 => (if t389 = true then ((impl_Market_maker.f k l0_0 a0_1 a0_2 a0_3 a1_0 a1_1 a1_2 a2).bind fun t390 => (some (t390, true))) else (some (0, false)))) = some (r1, r2) := z11_37
    clear H
    have H := H1
    clear H1
    replace H := Option.bind_eq_some_iff.mp H
    obtain ⟨t389, A60, H⟩ := H
    (try dsimp only at H)
    have A6 := z11_A A60
    clear A60
    by_cases c7 : t389 = true
    · subst c7
      have H1 : ((impl_Market_maker.f k l0_0 a0_1 a0_2 a0_3 a1_0 a1_1 a1_2 a2).bind fun t390 => (some (t390, true))) = some (r1, r2) := z11_37
      clear H
      have H := H1
      clear H1
      replace H := Option.bind_eq_some_iff.mp H
      obtain ⟨t390, A80, H⟩ := H
      (try dsimp only at H)
      have A8 := z11_A A80
      clear A80
      simp only [Option.some.injEq, Prod.mk.injEq] at H
      obtain ⟨rfl, rfl⟩ := H
      go_enter Try.func48, Try.ntmps48
      go_wp2_with (first | ((with_reducible refine gate_dst (N := 3) rfl ?_); refine box_event ?hg (N := 3) ?hd (cs := #[.slice A0_0 l0_0.length c0_0, .int .i64 a0_1, .int .i64 a0_2, .int .i64 a0_3]) (t := 30) ?hr ?_; (case hd => rfl); (case hg => rfl); (case hr => first | (go_simp; done) | (go_simp; rfl)); intro gb386 hg w9 hbox hb; have n0_ := z11_A (below_step z11_1 hb); have n1_ := z11_A (hbox); have n2_ := z11_A ((z11_14 : w.heap.size ≤ gb386)); have n3_ := z11_A ((z11_14 : w.heap.size ≤ gb386)); clear HB; revert n0_ n1_ n2_ n3_; intro HB BK386 GW386 GE386; clear hb hbox hg) | ((with_reducible refine gate_dst (N := 4) rfl ?_); refine box_event ?hg (N := 4) ?hd (cs := #[.int .i64 a1_0, .int .i64 a1_1, .int .i64 a1_2]) (t := 32) ?hr ?_; (case hd => rfl); (case hg => rfl); (case hr => first | (go_simp; done) | (go_simp; rfl)); intro gb387 hg w10 hbox hb; have n0_ := z11_A (blk_below (g := gb386) (o := .cells #[.slice A0_0 l0_0.length c0_0, .int .i64 a0_1, .int .i64 a0_2, .int .i64 a0_3] 30 (0, 0)) z11_3 hb); have n1_ := z11_A (below_step z11_11 hb); have n2_ := z11_A (hbox); have n3_ := z11_A ((z11_42 : w.heap.size ≤ gb387)); have n4_ := z11_A ((z11_42 : w.heap.size ≤ gb387)); have n5_ := z11_A ((z11_29 : gb386 ≠ gb387)); have n6_ := z11_A ((z11_32 : gb387 ≠ gb386)); clear BK386 HB; revert n0_ n1_ n2_ n3_ n4_ n5_ n6_; intro BK386 HB BK387 GW387 GE387 NB386_387 NB387_386; clear hb hbox hg; have hnb11 := NB386_387.out; have hnc11 := NB387_386.out; have hcz12_0 : w10.cell? ⟨gb386, 0, none⟩ = some (.slice A0_0 l0_0.length c0_0) := bcz BK386.out 0 rfl; have hcz12_1 : w10.cell? ⟨gb386, 1, none⟩ = some (.int .i64 a0_1) := bcz BK386.out 1 rfl; have hcz12_2 : w10.cell? ⟨gb386, 2, none⟩ = some (.int .i64 a0_2) := bcz BK386.out 2 rfl; have hcz12_3 : w10.cell? ⟨gb386, 3, none⟩ = some (.int .i64 a0_3) := bcz BK386.out 3 rfl; obtain ⟨hfz12_0, hfz12_1, hfz12_2, hfz12_3⟩ := F4z (blk_frozen BK386.out)) | ((with_reducible refine gate_callee (f := 88) rfl ?_); refine goesL_ (some 10) rfl rfl Try.func88 z11_21 rfl #[.agg #[.slice A0_0 l0_0.length c0_0, .int .i64 a0_1, .int .i64 a0_2, .int .i64 a0_3], .int .i64 a2] rfl z11_2 ?_; (with_reducible refine (impl_isSale.calls k _ _ l0_0 a0_1 a0_2 a0_3 a2 true _ ?side1 ?side2 A4.out).mono ?_); (case side1 => have zh := (Kd.C_below HR0_0.out HB.out); exact z11_C); (case side2 => exact HC0_0.out); rintro e w13 ⟨rfl, hb⟩; refine ⟨_, rfl, ?_⟩; have n0_ := z11_A (blk_below (g := gb386) (o := .cells #[.slice A0_0 l0_0.length c0_0, .int .i64 a0_1, .int .i64 a0_2, .int .i64 a0_3] 30 (0, 0)) z11_3 hb); have n1_ := z11_A (blk_below (g := gb387) (o := .cells #[.int .i64 a1_0, .int .i64 a1_1, .int .i64 a1_2] 32 (0, 0)) z11_20 hb); have n2_ := z11_A (below_step z11_4 hb); clear BK386 BK387 HB; revert n0_ n1_ n2_; intro BK386 BK387 HB; (try clear hb); (try clear hb2); (try clear hk); (try clear hi); have hcz14_0 : w13.cell? ⟨gb387, 0, none⟩ = some (.int .i64 a1_0) := bcz BK387.out 0 rfl; have hcz14_1 : w13.cell? ⟨gb387, 1, none⟩ = some (.int .i64 a1_1) := bcz BK387.out 1 rfl; have hcz14_2 : w13.cell? ⟨gb387, 2, none⟩ = some (.int .i64 a1_2) := bcz BK387.out 2 rfl; obtain ⟨hfz14_0, hfz14_1, hfz14_2⟩ := F3z (blk_frozen BK387.out)) | (go_at_call 35; (with_reducible refine (impl_IsContract.calls a1_0 a1_1 a1_2 true _ A6.out).mono ?_); rintro e w15 ⟨rfl, hb⟩; have n0_ := z11_A (blk_below (g := gb386) (o := .cells #[.slice A0_0 l0_0.length c0_0, .int .i64 a0_1, .int .i64 a0_2, .int .i64 a0_3] 30 (0, 0)) z11_3 hb); have n1_ := z11_A (blk_below (g := gb387) (o := .cells #[.int .i64 a1_0, .int .i64 a1_1, .int .i64 a1_2] 32 (0, 0)) z11_20 hb); have n2_ := z11_A (below_step z11_4 hb); clear BK386 BK387 HB; revert n0_ n1_ n2_; intro BK386 BK387 HB; (try clear hb); (try clear hb2); (try clear hk); (try clear hi); have hcz16_0 : w15.cell? ⟨gb386, 0, none⟩ = some (.slice A0_0 l0_0.length c0_0) := bcz BK386.out 0 rfl; have hcz16_1 : w15.cell? ⟨gb386, 1, none⟩ = some (.int .i64 a0_1) := bcz BK386.out 1 rfl; have hcz16_2 : w15.cell? ⟨gb386, 2, none⟩ = some (.int .i64 a0_2) := bcz BK386.out 2 rfl; have hcz16_3 : w15.cell? ⟨gb386, 3, none⟩ = some (.int .i64 a0_3) := bcz BK386.out 3 rfl; obtain ⟨hfz16_0, hfz16_1, hfz16_2, hfz16_3⟩ := F4z (blk_frozen BK386.out); have hcz17_0 : w15.cell? ⟨gb387, 0, none⟩ = some (.int .i64 a1_0) := bcz BK387.out 0 rfl; have hcz17_1 : w15.cell? ⟨gb387, 1, none⟩ = some (.int .i64 a1_1) := bcz BK387.out 1 rfl; have hcz17_2 : w15.cell? ⟨gb387, 2, none⟩ = some (.int .i64 a1_2) := bcz BK387.out 2 rfl; obtain ⟨hfz17_0, hfz17_1, hfz17_2⟩ := F3z (blk_frozen BK387.out)) | ((with_reducible refine gate_callee (f := 94) rfl ?_); refine goesL_ (some 20) rfl rfl Try.func94 z11_21 rfl #[.agg #[.slice A0_0 l0_0.length c0_0, .int .i64 a0_1, .int .i64 a0_2, .int .i64 a0_3], .agg #[.int .i64 a1_0, .int .i64 a1_1, .int .i64 a1_2], .int .i64 a2] rfl z11_2 ?_; (with_reducible refine (impl_Market_maker.calls k _ _ l0_0 a0_1 a0_2 a0_3 a1_0 a1_1 a1_2 a2 t390 _ ?side1 ?side2 A8.out).mono ?_); (case side1 => have zh := (Kd.C_below HR0_0.out HB.out); exact z11_C); (case side2 => exact HC0_0.out); rintro e w18 ⟨rfl, hb⟩; refine ⟨_, rfl, ?_⟩; have n0_ := z11_A (blk_below (g := gb386) (o := .cells #[.slice A0_0 l0_0.length c0_0, .int .i64 a0_1, .int .i64 a0_2, .int .i64 a0_3] 30 (0, 0)) z11_3 hb); have n1_ := z11_A (blk_below (g := gb387) (o := .cells #[.int .i64 a1_0, .int .i64 a1_1, .int .i64 a1_2] 32 (0, 0)) z11_20 hb); have n2_ := z11_A (below_step z11_4 hb); clear BK386 BK387 HB; revert n0_ n1_ n2_; intro BK386 BK387 HB; (try clear hb); (try clear hb2); (try clear hk); (try clear hi)))
      go_ret2
      exact ⟨z11_5, z11_4⟩
    · replace c7 := Bool.eq_false_iff.mpr c7
      subst c7
      have H1 : (some (0, false)) = some (r1, r2) := z11_22
      clear H
      have H := H1
      clear H1
      simp only [Option.some.injEq, Prod.mk.injEq] at H
      obtain ⟨rfl, rfl⟩ := H
      go_enter Try.func48, Try.ntmps48
      go_wp2_with (first | ((with_reducible refine gate_dst (N := 3) rfl ?_); refine box_event ?hg (N := 3) ?hd (cs := #[.slice A0_0 l0_0.length c0_0, .int .i64 a0_1, .int .i64 a0_2, .int .i64 a0_3]) (t := 30) ?hr ?_; (case hd => rfl); (case hg => rfl); (case hr => first | (go_simp; done) | (go_simp; rfl)); intro gb386 hg w19 hbox hb; have n0_ := z11_A (below_step z11_1 hb); have n1_ := z11_A (hbox); have n2_ := z11_A ((z11_14 : w.heap.size ≤ gb386)); have n3_ := z11_A ((z11_14 : w.heap.size ≤ gb386)); clear HB; revert n0_ n1_ n2_ n3_; intro HB BK386 GW386 GE386; clear hb hbox hg) | ((with_reducible refine gate_dst (N := 4) rfl ?_); refine box_event ?hg (N := 4) ?hd (cs := #[.int .i64 a1_0, .int .i64 a1_1, .int .i64 a1_2]) (t := 32) ?hr ?_; (case hd => rfl); (case hg => rfl); (case hr => first | (go_simp; done) | (go_simp; rfl)); intro gb387 hg w20 hbox hb; have n0_ := z11_A (blk_below (g := gb386) (o := .cells #[.slice A0_0 l0_0.length c0_0, .int .i64 a0_1, .int .i64 a0_2, .int .i64 a0_3] 30 (0, 0)) z11_3 hb); have n1_ := z11_A (below_step z11_11 hb); have n2_ := z11_A (hbox); have n3_ := z11_A ((z11_42 : w.heap.size ≤ gb387)); have n4_ := z11_A ((z11_42 : w.heap.size ≤ gb387)); have n5_ := z11_A ((z11_29 : gb386 ≠ gb387)); have n6_ := z11_A ((z11_32 : gb387 ≠ gb386)); clear BK386 HB; revert n0_ n1_ n2_ n3_ n4_ n5_ n6_; intro BK386 HB BK387 GW387 GE387 NB386_387 NB387_386; clear hb hbox hg; have hnb21 := NB386_387.out; have hnc21 := NB387_386.out; have hcz22_0 : w20.cell? ⟨gb386, 0, none⟩ = some (.slice A0_0 l0_0.length c0_0) := bcz BK386.out 0 rfl; have hcz22_1 : w20.cell? ⟨gb386, 1, none⟩ = some (.int .i64 a0_1) := bcz BK386.out 1 rfl; have hcz22_2 : w20.cell? ⟨gb386, 2, none⟩ = some (.int .i64 a0_2) := bcz BK386.out 2 rfl; have hcz22_3 : w20.cell? ⟨gb386, 3, none⟩ = some (.int .i64 a0_3) := bcz BK386.out 3 rfl; obtain ⟨hfz22_0, hfz22_1, hfz22_2, hfz22_3⟩ := F4z (blk_frozen BK386.out)) | ((with_reducible refine gate_callee (f := 88) rfl ?_); refine goesL_ (some 10) rfl rfl Try.func88 z11_21 rfl #[.agg #[.slice A0_0 l0_0.length c0_0, .int .i64 a0_1, .int .i64 a0_2, .int .i64 a0_3], .int .i64 a2] rfl z11_2 ?_; (with_reducible refine (impl_isSale.calls k _ _ l0_0 a0_1 a0_2 a0_3 a2 true _ ?side1 ?side2 A4.out).mono ?_); (case side1 => have zh := (Kd.C_below HR0_0.out HB.out); exact z11_C); (case side2 => exact HC0_0.out); rintro e w23 ⟨rfl, hb⟩; refine ⟨_, rfl, ?_⟩; have n0_ := z11_A (blk_below (g := gb386) (o := .cells #[.slice A0_0 l0_0.length c0_0, .int .i64 a0_1, .int .i64 a0_2, .int .i64 a0_3] 30 (0, 0)) z11_3 hb); have n1_ := z11_A (blk_below (g := gb387) (o := .cells #[.int .i64 a1_0, .int .i64 a1_1, .int .i64 a1_2] 32 (0, 0)) z11_20 hb); have n2_ := z11_A (below_step z11_4 hb); clear BK386 BK387 HB; revert n0_ n1_ n2_; intro BK386 BK387 HB; (try clear hb); (try clear hb2); (try clear hk); (try clear hi); have hcz24_0 : w23.cell? ⟨gb387, 0, none⟩ = some (.int .i64 a1_0) := bcz BK387.out 0 rfl; have hcz24_1 : w23.cell? ⟨gb387, 1, none⟩ = some (.int .i64 a1_1) := bcz BK387.out 1 rfl; have hcz24_2 : w23.cell? ⟨gb387, 2, none⟩ = some (.int .i64 a1_2) := bcz BK387.out 2 rfl; obtain ⟨hfz24_0, hfz24_1, hfz24_2⟩ := F3z (blk_frozen BK387.out)) | (go_at_call 35; (with_reducible refine (impl_IsContract.calls a1_0 a1_1 a1_2 false _ A6.out).mono ?_); rintro e w25 ⟨rfl, hb⟩; have n0_ := z11_A (blk_below (g := gb386) (o := .cells #[.slice A0_0 l0_0.length c0_0, .int .i64 a0_1, .int .i64 a0_2, .int .i64 a0_3] 30 (0, 0)) z11_3 hb); have n1_ := z11_A (blk_below (g := gb387) (o := .cells #[.int .i64 a1_0, .int .i64 a1_1, .int .i64 a1_2] 32 (0, 0)) z11_20 hb); have n2_ := z11_A (below_step z11_4 hb); clear BK386 BK387 HB; revert n0_ n1_ n2_; intro BK386 BK387 HB; (try clear hb); (try clear hb2); (try clear hk); (try clear hi)))
      go_ret2
      exact ⟨z11_5, z11_4⟩
  · replace c5 := Bool.eq_false_iff.mpr c5
    subst c5
    have H1 : (some (0, false)) = some (r1, r2) := z11_22
    clear H
    have H := H1
    clear H1
    simp only [Option.some.injEq, Prod.mk.injEq] at H
    obtain ⟨rfl, rfl⟩ := H
    go_enter Try.func48, Try.ntmps48
    go_wp2_with (first | ((with_reducible refine gate_dst (N := 3) rfl ?_); refine box_event ?hg (N := 3) ?hd (cs := #[.slice A0_0 l0_0.length c0_0, .int .i64 a0_1, .int .i64 a0_2, .int .i64 a0_3]) (t := 30) ?hr ?_; (case hd => rfl); (case hg => rfl); (case hr => first | (go_simp; done) | (go_simp; rfl)); intro gb386 hg w26 hbox hb; have n0_ := z11_A (below_step z11_1 hb); have n1_ := z11_A (hbox); have n2_ := z11_A ((z11_14 : w.heap.size ≤ gb386)); have n3_ := z11_A ((z11_14 : w.heap.size ≤ gb386)); clear HB; revert n0_ n1_ n2_ n3_; intro HB BK386 GW386 GE386; clear hb hbox hg) | ((with_reducible refine gate_dst (N := 4) rfl ?_); refine box_event ?hg (N := 4) ?hd (cs := #[.int .i64 a1_0, .int .i64 a1_1, .int .i64 a1_2]) (t := 32) ?hr ?_; (case hd => rfl); (case hg => rfl); (case hr => first | (go_simp; done) | (go_simp; rfl)); intro gb387 hg w27 hbox hb; have n0_ := z11_A (blk_below (g := gb386) (o := .cells #[.slice A0_0 l0_0.length c0_0, .int .i64 a0_1, .int .i64 a0_2, .int .i64 a0_3] 30 (0, 0)) z11_3 hb); have n1_ := z11_A (below_step z11_11 hb); have n2_ := z11_A (hbox); have n3_ := z11_A ((z11_42 : w.heap.size ≤ gb387)); have n4_ := z11_A ((z11_42 : w.heap.size ≤ gb387)); have n5_ := z11_A ((z11_29 : gb386 ≠ gb387)); have n6_ := z11_A ((z11_32 : gb387 ≠ gb386)); clear BK386 HB; revert n0_ n1_ n2_ n3_ n4_ n5_ n6_; intro BK386 HB BK387 GW387 GE387 NB386_387 NB387_386; clear hb hbox hg; have hnb28 := NB386_387.out; have hnc28 := NB387_386.out; have hcz29_0 : w27.cell? ⟨gb386, 0, none⟩ = some (.slice A0_0 l0_0.length c0_0) := bcz BK386.out 0 rfl; have hcz29_1 : w27.cell? ⟨gb386, 1, none⟩ = some (.int .i64 a0_1) := bcz BK386.out 1 rfl; have hcz29_2 : w27.cell? ⟨gb386, 2, none⟩ = some (.int .i64 a0_2) := bcz BK386.out 2 rfl; have hcz29_3 : w27.cell? ⟨gb386, 3, none⟩ = some (.int .i64 a0_3) := bcz BK386.out 3 rfl; obtain ⟨hfz29_0, hfz29_1, hfz29_2, hfz29_3⟩ := F4z (blk_frozen BK386.out)) | ((with_reducible refine gate_callee (f := 88) rfl ?_); refine goesL_ (some 10) rfl rfl Try.func88 z11_21 rfl #[.agg #[.slice A0_0 l0_0.length c0_0, .int .i64 a0_1, .int .i64 a0_2, .int .i64 a0_3], .int .i64 a2] rfl z11_2 ?_; (with_reducible refine (impl_isSale.calls k _ _ l0_0 a0_1 a0_2 a0_3 a2 false _ ?side1 ?side2 A4.out).mono ?_); (case side1 => have zh := (Kd.C_below HR0_0.out HB.out); exact z11_C); (case side2 => exact HC0_0.out); rintro e w30 ⟨rfl, hb⟩; refine ⟨_, rfl, ?_⟩; have n0_ := z11_A (blk_below (g := gb386) (o := .cells #[.slice A0_0 l0_0.length c0_0, .int .i64 a0_1, .int .i64 a0_2, .int .i64 a0_3] 30 (0, 0)) z11_3 hb); have n1_ := z11_A (blk_below (g := gb387) (o := .cells #[.int .i64 a1_0, .int .i64 a1_1, .int .i64 a1_2] 32 (0, 0)) z11_20 hb); have n2_ := z11_A (below_step z11_4 hb); clear BK386 BK387 HB; revert n0_ n1_ n2_; intro BK386 BK387 HB; (try clear hb); (try clear hb2); (try clear hk); (try clear hi)))
    go_ret2
    exact ⟨z11_5, z11_4⟩

/-! ### spec_MakerProfit: function 49 -/
def spec_MakerProfit.f (k : Nat) (l0_0 : List Int) (a0_1 : Int) (a0_2 : Int) (a0_3 : Int) (a1_0 : Int) (a1_1 : Int) (a1_2 : Int) (a2 : Int) : Option (Int × Bool) := (spec_l10Both.f k l0_0 a0_1 a0_2 a0_3 a1_0 a1_1 a1_2).bind fun t393 => (if t393 = true then ((spec_l10Order.f a2).bind fun t394 => (if t394 = true then ((spec_l10Maker.f k l0_0 a0_1 a0_2 a0_3 a1_0 a1_1 a1_2 a2).bind fun t395 => (some (t395, true))) else (some (0, false)))) else (some (0, false)))
theorem spec_MakerProfit.mono : ∀ a0 a1 a2 a3 a4 a5 a6 a7 k, LeO (spec_MakerProfit.f k a0 a1 a2 a3 a4 a5 a6 a7) (spec_MakerProfit.f (k + 1) a0 a1 a2 a3 a4 a5 a6 a7) := by
  intro a0 a1 a2 a3 a4 a5 a6 a7 k
  unfold spec_MakerProfit.f
  repeat' first
      | (with_reducible exact spec_l10Both.mono _ _ _ _ _ _ _ _)
      | (with_reducible exact spec_l10Maker.mono _ _ _ _ _ _ _ _ _)
      | (with_reducible exact LeO.refl _)
      | (with_reducible exact LeO.none _)
      | (with_reducible refine LeO.ite ?_ ?_)
      | (with_reducible refine LeO.bind ?_ (fun _ => ?_))
      | exact spec_l10Both.mono _ _ _ _ _ _ _ _
      | exact spec_l10Maker.mono _ _ _ _ _ _ _ _ _
      | exact LeO.none _
      | refine LeO.ite ?_ ?_
      | refine LeO.bind ?_ (fun _ => ?_)
set_option maxHeartbeats 8000000 in
set_option maxRecDepth 100000 in
theorem spec_MakerProfit.calls (k : Nat) (A0_0 : Option Addr) (c0_0 : Nat) (l0_0 : List Int) (a0_1 : Int) (a0_2 : Int) (a0_3 : Int) (a1_0 : Int) (a1_1 : Int) (a1_2 : Int) (a2 : Int) (r1 : Int) (r2 : Bool) (w : World) (hr0_0 : Kd.C (Kd.int .i64) w A0_0 l0_0.length l0_0) (hc0_0 : l0_0.length ≤ c0_0) (h : spec_MakerProfit.f k l0_0 a0_1 a0_2 a0_3 a1_0 a1_1 a1_2 a2 = some (r1, r2)) :
    Calls Try.prog 49 #[.agg #[.slice A0_0 l0_0.length c0_0, .int .i64 a0_1, .int .i64 a0_2, .int .i64 a0_3], .agg #[.int .i64 a1_0, .int .i64 a1_1, .int .i64 a1_2], .int .i64 a2] w fun e w' => e = .returned (.tuple #[.int .i64 r1, .bool r2]) ∧ Below w.heap.size w w' := by
  have hu30 := Try.underlying30
  have hu32 := Try.underlying32
  have HR0_0 := z11_A hr0_0
  have HC0_0 := z11_A hc0_0
  clear hr0_0 hc0_0
  have HB := z11_A (Below.refl w.heap.size w)
  have H : ((spec_l10Both.f k l0_0 a0_1 a0_2 a0_3 a1_0 a1_1 a1_2).bind fun t393 => (if t393 = true then ((spec_l10Order.f a2).bind fun t394 => (if t394 = true then ((spec_l10Maker.f k l0_0 a0_1 a0_2 a0_3 a1_0 a1_1 a1_2 a2).bind fun t395 => (some (t395, true))) else (some (0, false)))) else (some (0, false)))) = some (r1, r2) := h
  clear h
  replace H := Option.bind_eq_some_iff.mp H
  obtain ⟨t393, A40, H⟩ := H
  (try dsimp only at H)
  have A4 := z11_A A40
  clear A40
  by_cases c5 : t393 = true
  · subst c5
    have H1 : ((spec_l10Order.f a2).bind fun t394 => (if t394 = true then ((spec_l10Maker.f k l0_0 a0_1 a0_2 a0_3 a1_0 a1_1 a1_2 a2).bind fun t395 => (some (t395, true))) else (some (0, false)))) = some (r1, r2) := z11_37
    clear H
    have H := H1
    clear H1
    replace H := Option.bind_eq_some_iff.mp H
    obtain ⟨t394, A60, H⟩ := H
    (try dsimp only at H)
    have A6 := z11_A A60
    clear A60
    by_cases c7 : t394 = true
    · subst c7
      have H1 : ((spec_l10Maker.f k l0_0 a0_1 a0_2 a0_3 a1_0 a1_1 a1_2 a2).bind fun t395 => (some (t395, true))) = some (r1, r2) := z11_37
      clear H
      have H := H1
      clear H1
      replace H := Option.bind_eq_some_iff.mp H
      obtain ⟨t395, A80, H⟩ := H
      (try dsimp only at H)
      have A8 := z11_A A80
      clear A80
      simp only [Option.some.injEq, Prod.mk.injEq] at H
      obtain ⟨rfl, rfl⟩ := H
      go_enter Try.func49, Try.ntmps49
      go_wp2_with (first | ((with_reducible refine gate_dst (N := 3) rfl ?_); refine box_event ?hg (N := 3) ?hd (cs := #[.slice A0_0 l0_0.length c0_0, .int .i64 a0_1, .int .i64 a0_2, .int .i64 a0_3]) (t := 30) ?hr ?_; (case hd => rfl); (case hg => rfl); (case hr => first | (go_simp; done) | (go_simp; rfl)); intro gb391 hg w9 hbox hb; have n0_ := z11_A (below_step z11_1 hb); have n1_ := z11_A (hbox); have n2_ := z11_A ((z11_14 : w.heap.size ≤ gb391)); have n3_ := z11_A ((z11_14 : w.heap.size ≤ gb391)); clear HB; revert n0_ n1_ n2_ n3_; intro HB BK391 GW391 GE391; clear hb hbox hg) | ((with_reducible refine gate_dst (N := 4) rfl ?_); refine box_event ?hg (N := 4) ?hd (cs := #[.int .i64 a1_0, .int .i64 a1_1, .int .i64 a1_2]) (t := 32) ?hr ?_; (case hd => rfl); (case hg => rfl); (case hr => first | (go_simp; done) | (go_simp; rfl)); intro gb392 hg w10 hbox hb; have n0_ := z11_A (blk_below (g := gb391) (o := .cells #[.slice A0_0 l0_0.length c0_0, .int .i64 a0_1, .int .i64 a0_2, .int .i64 a0_3] 30 (0, 0)) z11_6 hb); have n1_ := z11_A (below_step z11_10 hb); have n2_ := z11_A (hbox); have n3_ := z11_A ((z11_43 : w.heap.size ≤ gb392)); have n4_ := z11_A ((z11_43 : w.heap.size ≤ gb392)); have n5_ := z11_A ((z11_28 : gb391 ≠ gb392)); have n6_ := z11_A ((z11_31 : gb392 ≠ gb391)); clear BK391 HB; revert n0_ n1_ n2_ n3_ n4_ n5_ n6_; intro BK391 HB BK392 GW392 GE392 NB391_392 NB392_391; clear hb hbox hg; have hnb11 := NB391_392.out; have hnc11 := NB392_391.out; have hcz12_0 : w10.cell? ⟨gb391, 0, none⟩ = some (.slice A0_0 l0_0.length c0_0) := bcz BK391.out 0 rfl; have hcz12_1 : w10.cell? ⟨gb391, 1, none⟩ = some (.int .i64 a0_1) := bcz BK391.out 1 rfl; have hcz12_2 : w10.cell? ⟨gb391, 2, none⟩ = some (.int .i64 a0_2) := bcz BK391.out 2 rfl; have hcz12_3 : w10.cell? ⟨gb391, 3, none⟩ = some (.int .i64 a0_3) := bcz BK391.out 3 rfl; obtain ⟨hfz12_0, hfz12_1, hfz12_2, hfz12_3⟩ := F4z (blk_frozen BK391.out); have hcz13_0 : w10.cell? ⟨gb392, 0, none⟩ = some (.int .i64 a1_0) := bcz BK392.out 0 rfl; have hcz13_1 : w10.cell? ⟨gb392, 1, none⟩ = some (.int .i64 a1_1) := bcz BK392.out 1 rfl; have hcz13_2 : w10.cell? ⟨gb392, 2, none⟩ = some (.int .i64 a1_2) := bcz BK392.out 2 rfl; obtain ⟨hfz13_0, hfz13_1, hfz13_2⟩ := F3z (blk_frozen BK392.out)) | ((with_reducible refine gate_callee (f := 61) rfl ?_); refine goesL_ (some 10) rfl rfl Try.func61 z11_21 rfl #[.agg #[.slice A0_0 l0_0.length c0_0, .int .i64 a0_1, .int .i64 a0_2, .int .i64 a0_3], .agg #[.int .i64 a1_0, .int .i64 a1_1, .int .i64 a1_2]] rfl z11_2 ?_; (with_reducible refine (spec_l10Both.calls k _ _ l0_0 a0_1 a0_2 a0_3 a1_0 a1_1 a1_2 true _ ?side1 ?side2 A4.out).mono ?_); (case side1 => have zh := (Kd.C_below HR0_0.out HB.out); exact z11_C); (case side2 => exact HC0_0.out); rintro e w14 ⟨rfl, hb⟩; refine ⟨_, rfl, ?_⟩; have n0_ := z11_A (blk_below (g := gb391) (o := .cells #[.slice A0_0 l0_0.length c0_0, .int .i64 a0_1, .int .i64 a0_2, .int .i64 a0_3] 30 (0, 0)) z11_6 hb); have n1_ := z11_A (blk_below (g := gb392) (o := .cells #[.int .i64 a1_0, .int .i64 a1_1, .int .i64 a1_2] 32 (0, 0)) z11_24 hb); have n2_ := z11_A (below_step z11_8 hb); clear BK391 BK392 HB; revert n0_ n1_ n2_; intro BK391 BK392 HB; (try clear hb); (try clear hb2); (try clear hk); (try clear hi)) | (go_at_call 92; (with_reducible refine (spec_l10Order.calls a2 true _ A6.out).mono ?_); rintro e w' ⟨rfl, ⟨nd, rfl⟩⟩; have hcz15_0 : w14.cell? ⟨gb391, 0, none⟩ = some (.slice A0_0 l0_0.length c0_0) := bcz BK391.out 0 rfl; have hcz15_1 : w14.cell? ⟨gb391, 1, none⟩ = some (.int .i64 a0_1) := bcz BK391.out 1 rfl; have hcz15_2 : w14.cell? ⟨gb391, 2, none⟩ = some (.int .i64 a0_2) := bcz BK391.out 2 rfl; have hcz15_3 : w14.cell? ⟨gb391, 3, none⟩ = some (.int .i64 a0_3) := bcz BK391.out 3 rfl; obtain ⟨hfz15_0, hfz15_1, hfz15_2, hfz15_3⟩ := F4z (blk_frozen BK391.out); have hcz16_0 : w14.cell? ⟨gb392, 0, none⟩ = some (.int .i64 a1_0) := bcz BK392.out 0 rfl; have hcz16_1 : w14.cell? ⟨gb392, 1, none⟩ = some (.int .i64 a1_1) := bcz BK392.out 1 rfl; have hcz16_2 : w14.cell? ⟨gb392, 2, none⟩ = some (.int .i64 a1_2) := bcz BK392.out 2 rfl; obtain ⟨hfz16_0, hfz16_1, hfz16_2⟩ := F3z (blk_frozen BK392.out)) | ((with_reducible refine gate_callee (f := 95) rfl ?_); refine goesL_ (some 20) rfl rfl Try.func95 z11_21 rfl #[.agg #[.slice A0_0 l0_0.length c0_0, .int .i64 a0_1, .int .i64 a0_2, .int .i64 a0_3], .agg #[.int .i64 a1_0, .int .i64 a1_1, .int .i64 a1_2], .int .i64 a2] rfl z11_2 ?_; (with_reducible refine (spec_l10Maker.calls k _ _ l0_0 a0_1 a0_2 a0_3 a1_0 a1_1 a1_2 a2 t395 _ ?side1 ?side2 A8.out).mono ?_); (case side1 => repeat (first | exact (Kd.C_below HR0_0.out z11_8) | (with_reducible refine Kd.C_alloc ?_ _) | (with_reducible refine Kd.C_drewN ?_ _) | (with_reducible refine Kd.C_drew ?_))); (case side2 => exact HC0_0.out); rintro e w17 ⟨rfl, hb⟩; refine ⟨_, rfl, ?_⟩; have n0_ := z11_A (blk_below (g := gb391) (o := .cells #[.slice A0_0 l0_0.length c0_0, .int .i64 a0_1, .int .i64 a0_2, .int .i64 a0_3] 30 (0, 0)) z11_6 hb); have n1_ := z11_A (blk_below (g := gb392) (o := .cells #[.int .i64 a1_0, .int .i64 a1_1, .int .i64 a1_2] 32 (0, 0)) z11_24 hb); have n2_ := z11_A (below_step z11_8 hb); clear BK391 BK392 HB; revert n0_ n1_ n2_; intro BK391 BK392 HB; (try clear hb); (try clear hb2); (try clear hk); (try clear hi)))
      go_ret2
      exact ⟨z11_5, z11_8⟩
    · replace c7 := Bool.eq_false_iff.mpr c7
      subst c7
      have H1 : (some (0, false)) = some (r1, r2) := z11_22
      clear H
      have H := H1
      clear H1
      simp only [Option.some.injEq, Prod.mk.injEq] at H
      obtain ⟨rfl, rfl⟩ := H
      go_enter Try.func49, Try.ntmps49
      go_wp2_with (first | ((with_reducible refine gate_dst (N := 3) rfl ?_); refine box_event ?hg (N := 3) ?hd (cs := #[.slice A0_0 l0_0.length c0_0, .int .i64 a0_1, .int .i64 a0_2, .int .i64 a0_3]) (t := 30) ?hr ?_; (case hd => rfl); (case hg => rfl); (case hr => first | (go_simp; done) | (go_simp; rfl)); intro gb391 hg w18 hbox hb; have n0_ := z11_A (below_step z11_1 hb); have n1_ := z11_A (hbox); have n2_ := z11_A ((z11_14 : w.heap.size ≤ gb391)); have n3_ := z11_A ((z11_14 : w.heap.size ≤ gb391)); clear HB; revert n0_ n1_ n2_ n3_; intro HB BK391 GW391 GE391; clear hb hbox hg) | ((with_reducible refine gate_dst (N := 4) rfl ?_); refine box_event ?hg (N := 4) ?hd (cs := #[.int .i64 a1_0, .int .i64 a1_1, .int .i64 a1_2]) (t := 32) ?hr ?_; (case hd => rfl); (case hg => rfl); (case hr => first | (go_simp; done) | (go_simp; rfl)); intro gb392 hg w19 hbox hb; have n0_ := z11_A (blk_below (g := gb391) (o := .cells #[.slice A0_0 l0_0.length c0_0, .int .i64 a0_1, .int .i64 a0_2, .int .i64 a0_3] 30 (0, 0)) z11_6 hb); have n1_ := z11_A (below_step z11_10 hb); have n2_ := z11_A (hbox); have n3_ := z11_A ((z11_43 : w.heap.size ≤ gb392)); have n4_ := z11_A ((z11_43 : w.heap.size ≤ gb392)); have n5_ := z11_A ((z11_28 : gb391 ≠ gb392)); have n6_ := z11_A ((z11_31 : gb392 ≠ gb391)); clear BK391 HB; revert n0_ n1_ n2_ n3_ n4_ n5_ n6_; intro BK391 HB BK392 GW392 GE392 NB391_392 NB392_391; clear hb hbox hg; have hnb20 := NB391_392.out; have hnc20 := NB392_391.out; have hcz21_0 : w19.cell? ⟨gb391, 0, none⟩ = some (.slice A0_0 l0_0.length c0_0) := bcz BK391.out 0 rfl; have hcz21_1 : w19.cell? ⟨gb391, 1, none⟩ = some (.int .i64 a0_1) := bcz BK391.out 1 rfl; have hcz21_2 : w19.cell? ⟨gb391, 2, none⟩ = some (.int .i64 a0_2) := bcz BK391.out 2 rfl; have hcz21_3 : w19.cell? ⟨gb391, 3, none⟩ = some (.int .i64 a0_3) := bcz BK391.out 3 rfl; obtain ⟨hfz21_0, hfz21_1, hfz21_2, hfz21_3⟩ := F4z (blk_frozen BK391.out); have hcz22_0 : w19.cell? ⟨gb392, 0, none⟩ = some (.int .i64 a1_0) := bcz BK392.out 0 rfl; have hcz22_1 : w19.cell? ⟨gb392, 1, none⟩ = some (.int .i64 a1_1) := bcz BK392.out 1 rfl; have hcz22_2 : w19.cell? ⟨gb392, 2, none⟩ = some (.int .i64 a1_2) := bcz BK392.out 2 rfl; obtain ⟨hfz22_0, hfz22_1, hfz22_2⟩ := F3z (blk_frozen BK392.out)) | ((with_reducible refine gate_callee (f := 61) rfl ?_); refine goesL_ (some 10) rfl rfl Try.func61 z11_21 rfl #[.agg #[.slice A0_0 l0_0.length c0_0, .int .i64 a0_1, .int .i64 a0_2, .int .i64 a0_3], .agg #[.int .i64 a1_0, .int .i64 a1_1, .int .i64 a1_2]] rfl z11_2 ?_; (with_reducible refine (spec_l10Both.calls k _ _ l0_0 a0_1 a0_2 a0_3 a1_0 a1_1 a1_2 true _ ?side1 ?side2 A4.out).mono ?_); (case side1 => have zh := (Kd.C_below HR0_0.out HB.out); exact z11_C); (case side2 => exact HC0_0.out); rintro e w23 ⟨rfl, hb⟩; refine ⟨_, rfl, ?_⟩; have n0_ := z11_A (blk_below (g := gb391) (o := .cells #[.slice A0_0 l0_0.length c0_0, .int .i64 a0_1, .int .i64 a0_2, .int .i64 a0_3] 30 (0, 0)) z11_6 hb); have n1_ := z11_A (blk_below (g := gb392) (o := .cells #[.int .i64 a1_0, .int .i64 a1_1, .int .i64 a1_2] 32 (0, 0)) z11_24 hb); have n2_ := z11_A (below_step z11_8 hb); clear BK391 BK392 HB; revert n0_ n1_ n2_; intro BK391 BK392 HB; (try clear hb); (try clear hb2); (try clear hk); (try clear hi)) | (go_at_call 92; (with_reducible refine (spec_l10Order.calls a2 false _ A6.out).mono ?_); rintro e w' ⟨rfl, ⟨nd, rfl⟩⟩))
      go_ret2
      exact ⟨z11_5, z11_8⟩
  · replace c5 := Bool.eq_false_iff.mpr c5
    subst c5
    have H1 : (some (0, false)) = some (r1, r2) := z11_22
    clear H
    have H := H1
    clear H1
    simp only [Option.some.injEq, Prod.mk.injEq] at H
    obtain ⟨rfl, rfl⟩ := H
    go_enter Try.func49, Try.ntmps49
    go_wp2_with (first | ((with_reducible refine gate_dst (N := 3) rfl ?_); refine box_event ?hg (N := 3) ?hd (cs := #[.slice A0_0 l0_0.length c0_0, .int .i64 a0_1, .int .i64 a0_2, .int .i64 a0_3]) (t := 30) ?hr ?_; (case hd => rfl); (case hg => rfl); (case hr => first | (go_simp; done) | (go_simp; rfl)); intro gb391 hg w24 hbox hb; have n0_ := z11_A (below_step z11_1 hb); have n1_ := z11_A (hbox); have n2_ := z11_A ((z11_14 : w.heap.size ≤ gb391)); have n3_ := z11_A ((z11_14 : w.heap.size ≤ gb391)); clear HB; revert n0_ n1_ n2_ n3_; intro HB BK391 GW391 GE391; clear hb hbox hg) | ((with_reducible refine gate_dst (N := 4) rfl ?_); refine box_event ?hg (N := 4) ?hd (cs := #[.int .i64 a1_0, .int .i64 a1_1, .int .i64 a1_2]) (t := 32) ?hr ?_; (case hd => rfl); (case hg => rfl); (case hr => first | (go_simp; done) | (go_simp; rfl)); intro gb392 hg w25 hbox hb; have n0_ := z11_A (blk_below (g := gb391) (o := .cells #[.slice A0_0 l0_0.length c0_0, .int .i64 a0_1, .int .i64 a0_2, .int .i64 a0_3] 30 (0, 0)) z11_6 hb); have n1_ := z11_A (below_step z11_10 hb); have n2_ := z11_A (hbox); have n3_ := z11_A ((z11_43 : w.heap.size ≤ gb392)); have n4_ := z11_A ((z11_43 : w.heap.size ≤ gb392)); have n5_ := z11_A ((z11_28 : gb391 ≠ gb392)); have n6_ := z11_A ((z11_31 : gb392 ≠ gb391)); clear BK391 HB; revert n0_ n1_ n2_ n3_ n4_ n5_ n6_; intro BK391 HB BK392 GW392 GE392 NB391_392 NB392_391; clear hb hbox hg; have hnb26 := NB391_392.out; have hnc26 := NB392_391.out; have hcz27_0 : w25.cell? ⟨gb391, 0, none⟩ = some (.slice A0_0 l0_0.length c0_0) := bcz BK391.out 0 rfl; have hcz27_1 : w25.cell? ⟨gb391, 1, none⟩ = some (.int .i64 a0_1) := bcz BK391.out 1 rfl; have hcz27_2 : w25.cell? ⟨gb391, 2, none⟩ = some (.int .i64 a0_2) := bcz BK391.out 2 rfl; have hcz27_3 : w25.cell? ⟨gb391, 3, none⟩ = some (.int .i64 a0_3) := bcz BK391.out 3 rfl; obtain ⟨hfz27_0, hfz27_1, hfz27_2, hfz27_3⟩ := F4z (blk_frozen BK391.out); have hcz28_0 : w25.cell? ⟨gb392, 0, none⟩ = some (.int .i64 a1_0) := bcz BK392.out 0 rfl; have hcz28_1 : w25.cell? ⟨gb392, 1, none⟩ = some (.int .i64 a1_1) := bcz BK392.out 1 rfl; have hcz28_2 : w25.cell? ⟨gb392, 2, none⟩ = some (.int .i64 a1_2) := bcz BK392.out 2 rfl; obtain ⟨hfz28_0, hfz28_1, hfz28_2⟩ := F3z (blk_frozen BK392.out)) | ((with_reducible refine gate_callee (f := 61) rfl ?_); refine goesL_ (some 10) rfl rfl Try.func61 z11_21 rfl #[.agg #[.slice A0_0 l0_0.length c0_0, .int .i64 a0_1, .int .i64 a0_2, .int .i64 a0_3], .agg #[.int .i64 a1_0, .int .i64 a1_1, .int .i64 a1_2]] rfl z11_2 ?_; (with_reducible refine (spec_l10Both.calls k _ _ l0_0 a0_1 a0_2 a0_3 a1_0 a1_1 a1_2 false _ ?side1 ?side2 A4.out).mono ?_); (case side1 => have zh := (Kd.C_below HR0_0.out HB.out); exact z11_C); (case side2 => exact HC0_0.out); rintro e w29 ⟨rfl, hb⟩; refine ⟨_, rfl, ?_⟩; have n0_ := z11_A (blk_below (g := gb391) (o := .cells #[.slice A0_0 l0_0.length c0_0, .int .i64 a0_1, .int .i64 a0_2, .int .i64 a0_3] 30 (0, 0)) z11_6 hb); have n1_ := z11_A (blk_below (g := gb392) (o := .cells #[.int .i64 a1_0, .int .i64 a1_1, .int .i64 a1_2] 32 (0, 0)) z11_24 hb); have n2_ := z11_A (below_step z11_8 hb); clear BK391 BK392 HB; revert n0_ n1_ n2_; intro BK391 BK392 HB; (try clear hb); (try clear hb2); (try clear hk); (try clear hi)))
    go_ret2
    exact ⟨z11_5, z11_8⟩

/-! ### spec_l10Joint: function 96 -/
def spec_l10Joint.f (k : Nat) (l0_0 : List Int) (a0_1 : Int) (a0_2 : Int) (a0_3 : Int) (a1 : Int) : Option (Int) := (spec_l10Sales.f k l0_0 a0_1 a0_2 a0_3 a1).bind fun t397 => ((spec_l2Sum.f k l0_0).bind fun t398 => (some (wrap64 (100 * (wrap64 ((wrap64 ((wrap64 (a0_1 * t397)) + (wrap64 (a0_3 * (wrap64 ((wrap64 (t398 * a1)) - t397)))))) - (wrap64 (a0_2 * (wrap64 (t398 * a1))))))))))
theorem spec_l10Joint.mono : ∀ a0 a1 a2 a3 a4 k, LeO (spec_l10Joint.f k a0 a1 a2 a3 a4) (spec_l10Joint.f (k + 1) a0 a1 a2 a3 a4) := by
  intro a0 a1 a2 a3 a4 k
  unfold spec_l10Joint.f
  repeat' first
      | (with_reducible exact spec_l10Sales.mono _ _ _ _ _ _)
      | (with_reducible exact spec_l2Sum.mono _ _)
      | (with_reducible exact LeO.refl _)
      | (with_reducible exact LeO.none _)
      | (with_reducible refine LeO.ite ?_ ?_)
      | (with_reducible refine LeO.bind ?_ (fun _ => ?_))
      | exact spec_l10Sales.mono _ _ _ _ _ _
      | exact spec_l2Sum.mono _ _
      | exact LeO.none _
      | refine LeO.ite ?_ ?_
      | refine LeO.bind ?_ (fun _ => ?_)
def spec_l10Joint.T1 : Bool × List (List Nat × List Nat) := (true, [([], []), ([], []), ([0, 1], [0, 1]), ([], []), ([3], [3]), ([4, 2], [4]), ([], []), ([5, 6], [5, 6]), ([2, 5, 0, 1, 2], [2]), ([7, 8, 0, 1, 2, 3, 4, 5, 6, 7, 8], [7])])
def spec_l10Joint.B1 : List Nat := [0, 0, 3, 0, 8, 31, 0, 127, 63, 511]
theorem spec_l10Joint.tab1 : rtab .any (opsOf Try.f96 1) = spec_l10Joint.T1 := z11_21
theorem spec_l10Joint.bits1 : waitsOk spec_l10Joint.T1.2 spec_l10Joint.B1 = true := z11_21
set_option maxHeartbeats 8000000 in
set_option maxRecDepth 100000 in
theorem spec_l10Joint.calls (k : Nat) (A0_0 : Option Addr) (c0_0 : Nat) (l0_0 : List Int) (a0_1 : Int) (a0_2 : Int) (a0_3 : Int) (a1 : Int) (r : Int) (w : World) (hr0_0 : Kd.C (Kd.int .i64) w A0_0 l0_0.length l0_0) (hc0_0 : l0_0.length ≤ c0_0) (h : spec_l10Joint.f k l0_0 a0_1 a0_2 a0_3 a1 = some r) :
    Calls Try.prog 96 #[.agg #[.slice A0_0 l0_0.length c0_0, .int .i64 a0_1, .int .i64 a0_2, .int .i64 a0_3], .int .i64 a1] w fun e w' => e = .returned (.int .i64 r) ∧ Below w.heap.size w w' := by
  have hu30 := Try.underlying30
  have HR0_0 := z11_A hr0_0
  have HC0_0 := z11_A hc0_0
  clear hr0_0 hc0_0
  have HB := z11_A (Below.refl w.heap.size w)
  have H : ((spec_l10Sales.f k l0_0 a0_1 a0_2 a0_3 a1).bind fun t397 => ((spec_l2Sum.f k l0_0).bind fun t398 => (some (wrap64 (100 * (wrap64 ((wrap64 ((wrap64 (a0_1 * t397)) + (wrap64 (a0_3 * (wrap64 ((wrap64 (t398 * a1)) - t397)))))) - (wrap64 (a0_2 * (wrap64 (t398 * a1))))))))))) = some r := h
  clear h
  replace H := Option.bind_eq_some_iff.mp H
  obtain ⟨t397, A30, H⟩ := H
  (try dsimp only at H)
  have A3 := z11_A A30
  clear A30
  replace H := Option.bind_eq_some_iff.mp H
  obtain ⟨t398, A40, H⟩ := H
  (try dsimp only at H)
  have A4 := z11_A A40
  clear A40
  obtain rfl := Option.some.inj H
  go_enter Try.func96, Try.ntmps96
  try go_wp2_with (first | ((with_reducible refine gate_dst (N := 2) rfl ?_); refine box_event ?hg (N := 2) ?hd (cs := #[.slice A0_0 l0_0.length c0_0, .int .i64 a0_1, .int .i64 a0_2, .int .i64 a0_3]) (t := 30) ?hr ?_; (case hd => rfl); (case hg => rfl); (case hr => first | (go_simp; done) | (go_simp; rfl)); intro gb396 hg w5 hbox hb; have n0_ := z11_A (below_step z11_1 hb); have n1_ := z11_A (hbox); have n2_ := z11_A ((z11_14 : w.heap.size ≤ gb396)); have n3_ := z11_A ((z11_14 : w.heap.size ≤ gb396)); clear HB; revert n0_ n1_ n2_ n3_; intro HB BK396 GW396 GE396; clear hb hbox hg))
  have n0_ := z11_A (blk_drew BK396.out)
  have n1_ := z11_A (below_drew1 HB.out)
  clear BK396
  clear HB
  have BK396 := n0_
  have HB := n1_
  clear n0_ n1_
  refine start_ (n := 10) (S := fun w' => w'.cell? ⟨gb396, 0, none⟩ = some (.slice A0_0 l0_0.length c0_0) ∧ w'.cell? ⟨gb396, 1, none⟩ = some (.int .i64 a0_1) ∧ w'.cell? ⟨gb396, 2, none⟩ = some (.int .i64 a0_2) ∧ w'.cell? ⟨gb396, 3, none⟩ = some (.int .i64 a0_3)) (ds := []) #[false, false, false, false, false, false, false, false, false, false] z11_21 rfl rfl ⟨bcz BK396.out 0 rfl, bcz BK396.out 1 rfl, bcz BK396.out 2 rfl, bcz BK396.out 3 rfl⟩ (fun hHeld => ?_); refine with_tabW spec_l10Joint.tab1 spec_l10Joint.bits1 (fun HT_ HW_ => ?_)
  generalize w5.drew = w6 at BK396 HB hHeld ⊢
  refine pure_ (i := 1) (N := some 8) (v := ?_) (a' := ?_) #[false, true, false, false, false, false, false, false, false, false] rfl rfl (any_of HT_.out z11_21) (fun _ _ _ h => h) (Or.inl ⟨by rfl, ?_⟩) ?_ ?_
  rotate_left
  · intro w'
    go_simp
    with_reducible rfl
  rotate_left
  · simp only [Act.put, List.setIfInBounds_toArray, List.set_cons_zero, List.set_cons_succ, i64_w, i32_w]
    rfl
  refine pure_ (i := 3) (N := some 10) (v := ?_) (a' := ?_) #[false, true, false, true, false, false, false, false, false, false] rfl rfl (any_of HT_.out z11_21) (fun _ _ _ h => h) (Or.inl ⟨by rfl, ?_⟩) ?_ ?_
  rotate_left
  · intro w'
    go_simp
    with_reducible rfl
  rotate_left
  · simp only [Act.put, List.setIfInBounds_toArray, List.set_cons_zero, List.set_cons_succ, i64_w, i32_w]
    rfl
  refine pure_ (i := 6) (N := some 13) (v := ?_) (a' := ?_) #[false, true, false, true, false, false, true, false, false, false] rfl rfl (any_of HT_.out z11_21) (fun _ _ _ h => h) (Or.inl ⟨by rfl, ?_⟩) ?_ ?_
  rotate_left
  · intro w'
    go_simp
    with_reducible rfl
  rotate_left
  · simp only [Act.put, List.setIfInBounds_toArray, List.set_cons_zero, List.set_cons_succ, i64_w, i32_w]
    rfl
  refine take_ (i := 0) (N := some 7) (v := ?_) (a' := ?_) #[true, true, false, true, false, false, true, false, false, false] rfl rfl (take_ofW HT_.out HW_.out z11_21) (fun _ _ _ h => h) (Or.inl ⟨by rfl, ?_⟩) hHeld ?_ ?_
  rotate_left
  · rintro w' ⟨s0, s1, s2, s3⟩
    go_simp
    with_reducible rfl
  rotate_left
  · simp only [Act.put, List.setIfInBounds_toArray, List.set_cons_zero, List.set_cons_succ, i64_w, i32_w]
    rfl
  refine take_ (i := 4) (N := some 11) (v := ?_) (a' := ?_) #[true, true, false, true, true, false, true, false, false, false] rfl rfl (take_ofW HT_.out HW_.out z11_21) (fun _ _ _ h => h) (Or.inl ⟨by rfl, ?_⟩) hHeld ?_ ?_
  rotate_left
  · rintro w' ⟨s0, s1, s2, s3⟩
    go_simp
    with_reducible rfl
  rotate_left
  · simp only [Act.put, List.setIfInBounds_toArray, List.set_cons_zero, List.set_cons_succ, i64_w, i32_w]
    rfl
  refine one_ (i := 2) (N := some 9) #[true, true, true, true, true, false, true, false, false, false] rfl rfl (one_of HT_.out z11_21) (by decide) (fun K hK => ?_)
  refine goes_ Try.func98 z11_21 rfl #[.agg #[.slice A0_0 l0_0.length c0_0, .int .i64 a0_1, .int .i64 a0_2, .int .i64 a0_3], .int .i64 a1] (by rfl) rfl rfl z11_2 ?_
  with_reducible refine (spec_l10Sales.calls k _ _ l0_0 a0_1 a0_2 a0_3 a1 t397 _ ?side1 ?side2 A3.out).mono ?_
  (case side1 => have zh := (Kd.C_below HR0_0.out HB.out); exact z11_C)
  (case side2 => exact HC0_0.out)
  rintro e w7 ⟨rfl, hb⟩
  refine ⟨_, rfl, ?_⟩
  have n0_ := z11_A (blk_below (g := gb396) (o := .cells #[.slice A0_0 l0_0.length c0_0, .int .i64 a0_1, .int .i64 a0_2, .int .i64 a0_3] 30 (0, 0)) (by (with_reducible repeat (first | refine blk_drewN ?_ _ | refine blk_drew ?_ | refine blk_alloc ?_ _)); exact BK396.out) hb)
  have n1_ := z11_A (below_step z11_40 hb)
  clear BK396
  clear HB
  have BK396 := n0_
  have HB := n1_
  clear n0_ n1_
  (try clear hb)
  (try clear hb2)
  (try clear hk)
  (try clear hi)
  refine hK.out _ _ ⟨bcz BK396.out 0 rfl, bcz BK396.out 1 rfl, bcz BK396.out 2 rfl, bcz BK396.out 3 rfl⟩ (fun hHeld => ?_)
  clear hK K
  refine norm_ (a' := ?_) ?_ ?_
  rotate_left
  · show Act.put _ (some 9) _ = _
    simp only [Act.put, List.setIfInBounds_toArray, List.set_cons_zero, List.set_cons_succ, i64_w, i32_w]
    rfl
  refine one_ (i := 5) (N := some 12) #[true, true, true, true, true, true, true, false, false, false] rfl rfl (one_of HT_.out z11_21) (by decide) (fun K hK => ?_)
  refine goes_ Try.func101 z11_21 rfl #[.slice A0_0 l0_0.length c0_0] (by rfl) rfl rfl z11_2 ?_
  with_reducible refine (spec_l2Sum.calls k _ _ l0_0 t398 _ ?side1 ?side2 A4.out).mono ?_
  (case side1 => have zh := (Kd.C_below HR0_0.out HB.out); exact z11_C)
  (case side2 => exact HC0_0.out)
  rintro e w' ⟨rfl, ⟨nd, rfl⟩⟩
  refine ⟨_, rfl, ?_⟩
  refine hK.out _ _ ⟨bcz BK396.out 0 rfl, bcz BK396.out 1 rfl, bcz BK396.out 2 rfl, bcz BK396.out 3 rfl⟩ (fun hHeld => ?_)
  clear hK K
  refine norm_ (a' := ?_) ?_ ?_
  rotate_left
  · show Act.put _ (some 12) _ = _
    simp only [Act.put, List.setIfInBounds_toArray, List.set_cons_zero, List.set_cons_succ, i64_w, i32_w]
    rfl
  refine pure_ (i := 7) (N := some 14) (v := ?_) (a' := ?_) #[true, true, true, true, true, true, true, true, false, false] rfl rfl (any_of HT_.out z11_21) (fun _ _ _ h => h) (Or.inl ⟨by rfl, ?_⟩) ?_ ?_
  rotate_left
  · intro w'
    go_simp
    with_reducible rfl
  rotate_left
  · simp only [Act.put, List.setIfInBounds_toArray, List.set_cons_zero, List.set_cons_succ, i64_w, i32_w]
    rfl
  refine pure_ (i := 8) (N := some 5) (v := ?_) (a' := ?_) #[true, true, true, true, true, true, true, true, true, false] rfl rfl (any_of HT_.out z11_21) (fun _ _ _ h => h) (Or.inl ⟨by rfl, ?_⟩) ?_ ?_
  rotate_left
  · intro w'
    go_simp
    with_reducible rfl
  rotate_left
  · simp only [Act.put, List.setIfInBounds_toArray, List.set_cons_zero, List.set_cons_succ, i64_w, i32_w]
    rfl
  refine pure_ (i := 9) (N := some 6) (v := ?_) (a' := ?_) #[true, true, true, true, true, true, true, true, true, true] rfl rfl (any_of HT_.out z11_21) (fun _ _ _ h => h) (Or.inl ⟨by rfl, ?_⟩) ?_ ?_
  rotate_left
  · intro w'
    go_simp
    with_reducible rfl
  rotate_left
  · simp only [Act.put, List.setIfInBounds_toArray, List.set_cons_zero, List.set_cons_succ, i64_w, i32_w]
    rfl
  refine done_ (done_of HT_.out z11_21) ?_
  have hcz8_0 : w7.cell? ⟨gb396, 0, none⟩ = some (.slice A0_0 l0_0.length c0_0) := bcz BK396.out 0 rfl
  have hcz8_1 : w7.cell? ⟨gb396, 1, none⟩ = some (.int .i64 a0_1) := bcz BK396.out 1 rfl
  have hcz8_2 : w7.cell? ⟨gb396, 2, none⟩ = some (.int .i64 a0_2) := bcz BK396.out 2 rfl
  have hcz8_3 : w7.cell? ⟨gb396, 3, none⟩ = some (.int .i64 a0_3) := bcz BK396.out 3 rfl
  obtain ⟨hfz8_0, hfz8_1, hfz8_2, hfz8_3⟩ := F4z (blk_frozen BK396.out)
  try go_wp2
  go_ret
  exact ⟨z11_5, z11_40⟩

end Go.Proofs.Ytiniocecpgjikaa.PFnProfits
