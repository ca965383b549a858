-- A text of this session (its program hook.py, over the kit's print.py): not a print of print.sh
-- THIN: one blank for two
import Derived.Test.YtiniocecpgjikaaPFnContractsx0
import Derived.Test.YtiniocecpgjikaaPFnContractsx2
import Derived.Test.YtiniocecpgjikaaPFnContractsx4
import Derived.Test.YtiniocecpgjikaaPFnContractsx6
namespace Go.Proofs.Ytiniocecpgjikaa.PFnContracts
open Go.RowKit Go.Proofs.YtiniocecpgjikaaW.PrintWords Go.Proofs.YtiniocecpgjikaaW.PrintLast Go.Proofs.YtiniocecpgjikaaW.PrintMore
attribute [local go_sem] max2_int min2_int max_two min_two max_three min_three max_four min_four   -- for this text's walks alone
set_option linter.unusedVariables false
set_option linter.unusedSimpArgs false

-- SQUEEZED
theorem z7_A {p : Prop} (h : p) : Aside0 p := Aside0.mk h
theorem z7_C {p : Prop} (h : p := by repeat (first | exact zh | (with_reducible refine Kd.C_alloc ?_ _) | (with_reducible refine Kd.C_drewN ?_ _) | (with_reducible refine Kd.C_drew ?_))) : p := h
theorem z7_1 {p : Prop} (h : p := by repeat (first | (with_reducible first | exact HB.out | apply below_alloc | apply pw_below_drewN | apply below_drew1) | exact HB.out)) : p := h
theorem z7_2 {p : Prop} (h : p := by repeat (first | (with_reducible first | exact HB.out | apply below_alloc | apply pw_below_drewN | apply below_drew1 | refine below_set ?_ GE194.out) | exact HB.out)) : p := h
theorem z7_3 {p : Prop} (h : p := by (try simp only [List.map_toArray, List.map_cons, List.map_nil]); first | done | rfl | (simp only [List.length_drop, List.length_take]; rfl)) : p := h
theorem z7_4 {p : Prop} (h : p := by repeat (first | (with_reducible first | exact HB.out | apply below_alloc | apply pw_below_drewN | apply below_drew1 | refine below_set ?_ GE208.out) | exact HB.out)) : p := h
theorem z7_5 {p : Prop} (h : p := by (with_reducible repeat (first | refine blk_drewN ?_ _ | refine blk_drew ?_ | refine blk_alloc ?_ _)); exact BK194.out) : p := h
theorem z7_6 {p : Prop} (h : p := by first | rfl | (simp [errW_none, errW_some] <;> rfl) | (simp [*, errW_none, errW_some] <;> rfl)) : p := h
theorem z7_7 {p : Prop} (h : p := by repeat (first | (with_reducible first | exact HB.out | apply below_alloc | apply pw_below_drewN | apply below_drew1 | refine below_set ?_ GE194.out | refine below_set ?_ GE199.out) | exact HB.out)) : p := h
theorem z7_8 {p : Prop} (h : p := by (with_reducible repeat (first | refine blk_drewN ?_ _ | refine blk_drew ?_ | refine blk_alloc ?_ _)); exact BK208.out) : p := h
theorem z7_9 {p : Prop} (h : p := by (with_reducible repeat (first | refine blk_drewN ?_ _ | refine blk_drew ?_ | refine blk_alloc ?_ _)); exact BK188.out) : p := h
theorem z7_10 {p : Prop} (h : p := by (with_reducible repeat (first | refine blk_drewN ?_ _ | refine blk_drew ?_ | refine blk_alloc ?_ _)); exact BK184.out) : p := h
theorem z7_11 {p : Prop} (h : p := by (with_reducible repeat (first | refine blk_drewN ?_ _ | refine blk_drew ?_ | refine blk_alloc ?_ _)); exact BK180.out) : p := h
theorem z7_12 {p : Prop} (h : p := by (with_reducible repeat (first | apply Kd.R_alloc | apply Kd.R_drewN | apply Kd.R_drew)); exact HO_4.out) : p := h
theorem z7_13 {p : Prop} (h : p := by rw [hg]; exact (below_size z7_1)) : p := h
theorem z7_14 {p : Prop} (h : p := by repeat (first | (with_reducible first | exact HB.out | apply below_alloc | apply pw_below_drewN | apply below_drew1 | refine below_set ?_ GE206.out) | exact HB.out)) : p := h
theorem z7_15 {p : Prop} (h : p := by repeat (first | (with_reducible first | exact HB.out | apply below_alloc | apply pw_below_drewN | apply below_drew1 | refine below_set ?_ GE204.out) | exact HB.out)) : p := h
theorem z7_16 {p : Prop} (h : p := by repeat (first | (with_reducible first | exact HB.out | apply below_alloc | apply pw_below_drewN | apply below_drew1 | refine below_set ?_ GE192.out) | exact HB.out)) : p := h
theorem z7_17 {p : Prop} (h : p := by repeat (first | (with_reducible first | exact HB.out | apply below_alloc | apply pw_below_drewN | apply below_drew1 | refine below_set ?_ GE188.out) | exact HB.out)) : p := h
theorem z7_18 {p : Prop} (h : p := by repeat (first | (with_reducible first | exact HB.out | apply below_alloc | apply pw_below_drewN | apply below_drew1 | refine below_set ?_ GE184.out) | exact HB.out)) : p := h
theorem z7_19 {p : Prop} (h : p := by repeat (first | (with_reducible first | exact HB.out | apply below_alloc | apply pw_below_drewN | apply below_drew1 | refine below_set ?_ GE180.out) | exact HB.out)) : p := h
theorem z7_20 {p : Prop} (h : p := by repeat (first | (with_reducible first | exact HB.out | apply below_alloc | apply pw_below_drewN | apply below_drew1 | refine below_set ?_ GE188.out | refine below_set ?_ GE189.out) | exact HB.out)) : p := h
theorem z7_21 {p : Prop} (h : p := by repeat (first | (with_reducible first | exact HB.out | apply below_alloc | apply pw_below_drewN | apply below_drew1 | refine below_set ?_ GE184.out | refine below_set ?_ GE185.out) | exact HB.out)) : p := h
theorem z7_22 {p : Prop} (h : p := by repeat (first | (with_reducible first | exact HB.out | apply below_alloc | apply pw_below_drewN | apply below_drew1 | refine below_set ?_ GE180.out | refine below_set ?_ GE181.out) | exact HB.out)) : p := h
theorem z7_23 {p : Prop} (h : p := by (with_reducible repeat (first | refine blk_drewN ?_ _ | refine blk_drew ?_ | refine blk_alloc ?_ _)); refine blk_put (cs := #[.int .i64 x6_2, .int .i64 x5_1, .int .i64 0]) ?_ 2 _ rfl; (with_reducible repeat (first | refine blk_drewN ?_ _ | refine blk_drew ?_ | refine blk_alloc ?_ _)); refine blk_put (cs := #[.int .i64 x6_2, .int .i64 0, .int .i64 0]) ?_ 1 _ rfl; (with_reducible repeat (first | refine blk_drewN ?_ _ | refine blk_drew ?_ | refine blk_alloc ?_ _)); refine blk_put (cs := #[.int .i64 0, .int .i64 0, .int .i64 0]) ?_ 0 _ rfl; (with_reducible repeat (first | refine blk_drewN ?_ _ | refine blk_drew ?_ | refine blk_alloc ?_ _)); exact BK199.out) : p := h
theorem z7_24 {p : Prop} (h : p := by (with_reducible repeat (first | refine blk_drewN ?_ _ | refine blk_drew ?_ | refine blk_alloc ?_ _)); exact BK204.out) : p := h
theorem z7_25 {p : Prop} (h : p := by (with_reducible repeat (first | refine blk_drewN ?_ _ | refine blk_drew ?_ | refine blk_alloc ?_ _)); exact BK192.out) : p := h
theorem z7_26 {p : Prop} (h : p := by (with_reducible repeat (first | refine blk_drewN ?_ _ | refine blk_drew ?_ | refine blk_alloc ?_ _)); refine blk_far ?_ NB194_199.out _; (with_reducible repeat (first | refine blk_drewN ?_ _ | refine blk_drew ?_ | refine blk_alloc ?_ _)); refine blk_far ?_ NB194_199.out _; (with_reducible repeat (first | refine blk_drewN ?_ _ | refine blk_drew ?_ | refine blk_alloc ?_ _)); refine blk_far ?_ NB194_199.out _; (with_reducible repeat (first | refine blk_drewN ?_ _ | refine blk_drew ?_ | refine blk_alloc ?_ _)); exact BK194.out) : p := h
theorem z7_27 {p : Prop} (h : p := by first | rfl | (simp; done) | (simp [*]; done)) : p := h
theorem z7_28 {p : Prop} (h : p := by rw [if_neg (show ¬ (false = true) by decide)] at H; exact H) : p := h
theorem z7_29 {p : Prop} (h : p := by (with_reducible repeat (first | apply Kd.R_alloc | apply Kd.R_drewN | apply Kd.R_drew)); exact (Kd.R_mono (Kd.R_far (p := ⟨gb199, 2, none⟩) (Kd.R_far (p := ⟨gb199, 1, none⟩) (Kd.R_far (p := ⟨gb199, 0, none⟩) (Kd.R_mono HO_4.out (fun k_ hk => (⟨hk, hk.2⟩ : _ ∧ k_ ≠ gb199))) (fun _ hk => hk.2) (.int .i64 x6_2)) (fun _ hk => hk.2) (.int .i64 x5_1)) (fun _ hk => hk.2) (.int .i64 100)) (fun _ h_ => h_.1))) : p := h
theorem z7_30 {p : Prop} (h : p := by (with_reducible repeat (first | refine blk_drewN ?_ _ | refine blk_drew ?_ | refine blk_alloc ?_ _)); exact BK206.out) : p := h
theorem z7_31 {p : Prop} (h : p := by (with_reducible repeat (first | apply Kd.R_alloc | apply Kd.R_drewN | apply Kd.R_drew)); exact HO197.out) : p := h
theorem z7_32 {p : Prop} (h : p := by (with_reducible repeat (first | refine blk_drewN ?_ _ | refine blk_drew ?_ | refine blk_alloc ?_ _)); exact BK189.out) : p := h
theorem z7_33 {p : Prop} (h : p := by (with_reducible repeat (first | refine blk_drewN ?_ _ | refine blk_drew ?_ | refine blk_alloc ?_ _)); exact BK185.out) : p := h
theorem z7_34 {p : Prop} (h : p := by (with_reducible repeat (first | refine blk_drewN ?_ _ | refine blk_drew ?_ | refine blk_alloc ?_ _)); exact BK181.out) : p := h
theorem z7_35 {p : Prop} (h : p := by rw [if_pos rfl] at H; exact H) : p := h
theorem z7_36 {p : Prop} (h : p := by kernel_rfl) : p := h
theorem z7_37 {p : Prop} (h : p := by repeat (first | (with_reducible first | exact HB.out | apply below_alloc | apply pw_below_drewN | apply below_drew1 | refine below_set ?_ GE204.out | refine below_set ?_ GE205.out) | exact HB.out)) : p := h
theorem z7_38 {p : Prop} (h : p := by repeat (first | (with_reducible first | exact HB.out | apply below_alloc | apply pw_below_drewN | apply below_drew1 | refine below_set ?_ GE192.out | refine below_set ?_ GE193.out) | exact HB.out)) : p := h
theorem z7_39 {p : Prop} (h : p := by rw [hg]; exact Nat.ne_of_lt (blk_lt (g := gb204) (o := .cells #[.slice A0_0 l0_0.length c0_0, .int .i64 a0_1, .int .i64 a0_2, .int .i64 a0_3] 30 (0, 0)) z7_24)) : p := h
theorem z7_40 {p : Prop} (h : p := by rw [hg]; exact Nat.ne_of_lt (blk_lt (g := gb192) (o := .cells #[.slice A0_0 l0_0.length c0_0, .int .i64 a0_1, .int .i64 a0_2, .int .i64 a0_3] 30 (0, 0)) z7_25)) : p := h
theorem z7_41 {p : Prop} (h : p := by rw [hg]; exact Nat.ne_of_lt (blk_lt (g := gb184) (o := .cells #[.slice A0_0 l0_0.length c0_0, .int .i64 a0_1, .int .i64 a0_2, .int .i64 a0_3] 30 (0, 0)) z7_10)) : p := h
theorem z7_42 {p : Prop} (h : p := by rw [hg]; exact Nat.ne_of_lt (blk_lt (g := gb180) (o := .cells #[.slice A0_0 l0_0.length c0_0, .int .i64 a0_1, .int .i64 a0_2, .int .i64 a0_3] 30 (0, 0)) z7_11)) : p := h
theorem z7_43 {p : Prop} (h : p := by rw [hg]; exact Nat.ne_of_gt (blk_lt (g := gb204) (o := .cells #[.slice A0_0 l0_0.length c0_0, .int .i64 a0_1, .int .i64 a0_2, .int .i64 a0_3] 30 (0, 0)) z7_24)) : p := h
theorem z7_44 {p : Prop} (h : p := by rw [hg]; exact Nat.ne_of_gt (blk_lt (g := gb192) (o := .cells #[.slice A0_0 l0_0.length c0_0, .int .i64 a0_1, .int .i64 a0_2, .int .i64 a0_3] 30 (0, 0)) z7_25)) : p := h
theorem z7_45 {p : Prop} (h : p := by rw [hg]; exact Nat.ne_of_gt (blk_lt (g := gb184) (o := .cells #[.slice A0_0 l0_0.length c0_0, .int .i64 a0_1, .int .i64 a0_2, .int .i64 a0_3] 30 (0, 0)) z7_10)) : p := h
theorem z7_46 {p : Prop} (h : p := by rw [hg]; exact Nat.ne_of_gt (blk_lt (g := gb180) (o := .cells #[.slice A0_0 l0_0.length c0_0, .int .i64 a0_1, .int .i64 a0_2, .int .i64 a0_3] 30 (0, 0)) z7_11)) : p := h
theorem z7_47 {p : Prop} (h : p := by rw [hg]; exact Nat.ne_of_lt (blk_lt (g := gb194) (o := .cells #[.slice A0_0 l0_0.length c0_0, .int .i64 a0_1, .int .i64 a0_2, .int .i64 a0_3] 30 (0, 0)) z7_5)) : p := h
theorem z7_48 {p : Prop} (h : p := by rw [hg]; exact Nat.ne_of_lt (blk_lt (g := gb188) (o := .cells #[.slice A0_0 l0_0.length c0_0, .int .i64 a0_1, .int .i64 a0_2, .int .i64 a0_3] 30 (0, 0)) z7_9)) : p := h
theorem z7_49 {p : Prop} (h : p := by rw [hg]; exact Nat.ne_of_gt (blk_lt (g := gb194) (o := .cells #[.slice A0_0 l0_0.length c0_0, .int .i64 a0_1, .int .i64 a0_2, .int .i64 a0_3] 30 (0, 0)) z7_5)) : p := h
theorem z7_50 {p : Prop} (h : p := by rw [hg]; exact Nat.ne_of_gt (blk_lt (g := gb188) (o := .cells #[.slice A0_0 l0_0.length c0_0, .int .i64 a0_1, .int .i64 a0_2, .int .i64 a0_3] 30 (0, 0)) z7_9)) : p := h
theorem z7_51 {p : Prop} (h : p := by (with_reducible repeat (first | refine blk_drewN ?_ _ | refine blk_drew ?_ | refine blk_alloc ?_ _)); exact BK199.out) : p := h
theorem z7_52 {p : Prop} (h : p := by rw [hg]; exact (below_size z7_19)) : p := h
theorem z7_53 {p : Prop} (h : p := by rw [hg]; exact (below_size z7_18)) : p := h
theorem z7_54 {p : Prop} (h : p := by rw [hg]; exact (below_size z7_17)) : p := h
theorem z7_55 {p : Prop} (h : p := by rw [hg]; exact (below_size z7_16)) : p := h
theorem z7_56 {p : Prop} (h : p := by rw [hg]; exact (below_size z7_15)) : p := h
theorem z7_57 {p : Prop} (h : p := by rw [hg]; exact (below_size z7_2)) : p := h

/-! ### impl_IsCoordinated: function 14 -/
def impl_IsCoordinated.f (k : Nat) (l0_0 : List Int) (a0_1 : Int) (a0_2 : Int) (a0_3 : Int) (a1_0 : Int) (a1_1 : Int) (a1_2 : Int) : Option (Bool × Bool) := (impl_isDeal.f k l0_0 a0_1 a0_2 a0_3 a1_0 a1_1 a1_2).bind fun t182 => (if t182 = true then ((impl_Market_loss.f k l0_0 a0_1 a0_2 a0_3 a1_0 a1_1 a1_2).bind fun t183 => (some ((t183 == 0), true))) else (some (false, false)))
theorem impl_IsCoordinated.mono : ∀ a0 a1 a2 a3 a4 a5 a6 k, LeO (impl_IsCoordinated.f k a0 a1 a2 a3 a4 a5 a6) (impl_IsCoordinated.f (k + 1) a0 a1 a2 a3 a4 a5 a6) := by
 intro a0 a1 a2 a3 a4 a5 a6 k
 unfold impl_IsCoordinated.f
 repeat' first
   | (with_reducible exact impl_Market_loss.mono _ _ _ _ _ _ _ _)
   | (with_reducible exact impl_isDeal.mono _ _ _ _ _ _ _ _)
   | (with_reducible exact LeO.refl _)
   | (with_reducible exact LeO.none _)
   | (with_reducible refine LeO.ite ?_ ?_)
   | (with_reducible refine LeO.bind ?_ (fun _ => ?_))
   | exact impl_Market_loss.mono _ _ _ _ _ _ _ _
   | exact impl_isDeal.mono _ _ _ _ _ _ _ _
   | exact LeO.none _
   | refine LeO.ite ?_ ?_
   | refine LeO.bind ?_ (fun _ => ?_)
set_option maxHeartbeats 8000000 in
set_option maxRecDepth 100000 in
theorem impl_IsCoordinated.calls (k : Nat) (A0_0 : Option Addr) (c0_0 : Nat) (l0_0 : List Int) (a0_1 : Int) (a0_2 : Int) (a0_3 : Int) (a1_0 : Int) (a1_1 : Int) (a1_2 : Int) (r1 : Bool) (r2 : Bool) (w : World) (hr0_0 : Kd.C (Kd.int .i64) w A0_0 l0_0.length l0_0) (hc0_0 : l0_0.length ≤ c0_0) (h : impl_IsCoordinated.f k l0_0 a0_1 a0_2 a0_3 a1_0 a1_1 a1_2 = some (r1, r2)) :
  Calls Try.prog 14 #[.agg #[.slice A0_0 l0_0.length c0_0, .int .i64 a0_1, .int .i64 a0_2, .int .i64 a0_3], .agg #[.int .i64 a1_0, .int .i64 a1_1, .int .i64 a1_2]] w fun e w' => e = .returned (.tuple #[.bool r1, .bool r2]) ∧ Below w.heap.size w w' := by
 have hu30 := Try.underlying30
 have hu32 := Try.underlying32
 have HR0_0 := z7_A hr0_0
 have HC0_0 := z7_A hc0_0
 clear hr0_0 hc0_0
 have HB := z7_A (Below.refl w.heap.size w)
 have H : ((impl_isDeal.f k l0_0 a0_1 a0_2 a0_3 a1_0 a1_1 a1_2).bind fun t182 => (if t182 = true then ((impl_Market_loss.f k l0_0 a0_1 a0_2 a0_3 a1_0 a1_1 a1_2).bind fun t183 => (some ((t183 == 0), true))) else (some (false, false)))) = some (r1, r2) := h
 clear h
 replace H := Option.bind_eq_some_iff.mp H
 obtain ⟨t182, A30, H⟩ := H
 (try dsimp only at H)
 have A3 := z7_A A30
 clear A30
 by_cases c4 : t182 = true
 ·subst c4
  have H1 : ((impl_Market_loss.f k l0_0 a0_1 a0_2 a0_3 a1_0 a1_1 a1_2).bind fun t183 => (some ((t183 == 0), true))) = some (r1, r2) := z7_35
  clear H
  have H := H1
  clear H1
  replace H := Option.bind_eq_some_iff.mp H
  obtain ⟨t183, A50, H⟩ := H
  (try dsimp only at H)
  have A5 := z7_A A50
  clear A50
  simp only [Option.some.injEq, Prod.mk.injEq] at H
  obtain ⟨rfl, rfl⟩ := H
  go_enter Try.func14, Try.ntmps14
  go_wp2_with (first | ((with_reducible refine gate_dst (N := 2) rfl ?_); refine box_event ?hg (N := 2) ?hd (cs := #[.slice A0_0 l0_0.length c0_0, .int .i64 a0_1, .int .i64 a0_2, .int .i64 a0_3]) (t := 30) ?hr ?_; (case hd => rfl); (case hg => rfl); (case hr => first | (go_simp; done) | (go_simp; rfl)); intro gb180 hg w6 hbox hb; have n0_ := z7_A (below_step z7_1 hb); have n1_ := z7_A (hbox); have n2_ := z7_A ((z7_13 : w.heap.size ≤ gb180)); have n3_ := z7_A ((z7_13 : w.heap.size ≤ gb180)); clear HB; revert n0_ n1_ n2_ n3_; intro HB BK180 GW180 GE180; clear hb hbox hg) | ((with_reducible refine gate_dst (N := 3) rfl ?_); refine box_event ?hg (N := 3) ?hd (cs := #[.int .i64 a1_0, .int .i64 a1_1, .int .i64 a1_2]) (t := 32) ?hr ?_; (case hd => rfl); (case hg => rfl); (case hr => first | (go_simp; done) | (go_simp; rfl)); intro gb181 hg w7 hbox hb; have n0_ := z7_A (blk_below (g := gb180) (o := .cells #[.slice A0_0 l0_0.length c0_0, .int .i64 a0_1, .int .i64 a0_2, .int .i64 a0_3] 30 (0, 0)) z7_11 hb); have n1_ := z7_A (below_step z7_19 hb); have n2_ := z7_A (hbox); have n3_ := z7_A ((z7_52 : w.heap.size ≤ gb181)); have n4_ := z7_A ((z7_52 : w.heap.size ≤ gb181)); have n5_ := z7_A ((z7_42 : gb180 ≠ gb181)); have n6_ := z7_A ((z7_46 : gb181 ≠ gb180)); clear BK180 HB; revert n0_ n1_ n2_ n3_ n4_ n5_ n6_; intro BK180 HB BK181 GW181 GE181 NB180_181 NB181_180; clear hb hbox hg; have hnb8 := NB180_181.out; have hnc8 := NB181_180.out; have hcz9_0 : w7.cell? ⟨gb180, 0, none⟩ = some (.slice A0_0 l0_0.length c0_0) := (blk_cell BK180.out 0).trans rfl; have hcz9_1 : w7.cell? ⟨gb180, 1, none⟩ = some (.int .i64 a0_1) := (blk_cell BK180.out 1).trans rfl; have hcz9_2 : w7.cell? ⟨gb180, 2, none⟩ = some (.int .i64 a0_2) := (blk_cell BK180.out 2).trans rfl; have hcz9_3 : w7.cell? ⟨gb180, 3, none⟩ = some (.int .i64 a0_3) := (blk_cell BK180.out 3).trans rfl; have hfz9_0 := blk_frozen BK180.out 0; have hfz9_1 := blk_frozen BK180.out 1; have hfz9_2 := blk_frozen BK180.out 2; have hfz9_3 := blk_frozen BK180.out 3; have hcz10_0 : w7.cell? ⟨gb181, 0, none⟩ = some (.int .i64 a1_0) := (blk_cell BK181.out 0).trans rfl; have hcz10_1 : w7.cell? ⟨gb181, 1, none⟩ = some (.int .i64 a1_1) := (blk_cell BK181.out 1).trans rfl; have hcz10_2 : w7.cell? ⟨gb181, 2, none⟩ = some (.int .i64 a1_2) := (blk_cell BK181.out 2).trans rfl; have hfz10_0 := blk_frozen BK181.out 0; have hfz10_1 := blk_frozen BK181.out 1; have hfz10_2 := blk_frozen BK181.out 2) | ((with_reducible refine gate_callee (f := 64) rfl ?_); refine goesL_ (some 8) rfl rfl Try.func64 z7_36 rfl #[.agg #[.slice A0_0 l0_0.length c0_0, .int .i64 a0_1, .int .i64 a0_2, .int .i64 a0_3], .agg #[.int .i64 a1_0, .int .i64 a1_1, .int .i64 a1_2]] rfl z7_3 ?_; (with_reducible refine (impl_isDeal.calls k _ _ l0_0 a0_1 a0_2 a0_3 a1_0 a1_1 a1_2 true _ ?side1 ?side2 A3.out).mono ?_); (case side1 => have zh := (Kd.C_below HR0_0.out HB.out); exact z7_C); (case side2 => exact HC0_0.out); rintro e w11 ⟨rfl, hb⟩; refine ⟨_, rfl, ?_⟩; have n0_ := z7_A (blk_below (g := gb180) (o := .cells #[.slice A0_0 l0_0.length c0_0, .int .i64 a0_1, .int .i64 a0_2, .int .i64 a0_3] 30 (0, 0)) z7_11 hb); have n1_ := z7_A (blk_below (g := gb181) (o := .cells #[.int .i64 a1_0, .int .i64 a1_1, .int .i64 a1_2] 32 (0, 0)) z7_34 hb); have n2_ := z7_A (below_step z7_22 hb); clear BK180 BK181 HB; revert n0_ n1_ n2_; intro BK180 BK181 HB; (try clear hb); (try clear hb2); (try clear hk); (try clear hi); have hcz12_0 : w11.cell? ⟨gb180, 0, none⟩ = some (.slice A0_0 l0_0.length c0_0) := (blk_cell BK180.out 0).trans rfl; have hcz12_1 : w11.cell? ⟨gb180, 1, none⟩ = some (.int .i64 a0_1) := (blk_cell BK180.out 1).trans rfl; have hcz12_2 : w11.cell? ⟨gb180, 2, none⟩ = some (.int .i64 a0_2) := (blk_cell BK180.out 2).trans rfl; have hcz12_3 : w11.cell? ⟨gb180, 3, none⟩ = some (.int .i64 a0_3) := (blk_cell BK180.out 3).trans rfl; have hfz12_0 := blk_frozen BK180.out 0; have hfz12_1 := blk_frozen BK180.out 1; have hfz12_2 := blk_frozen BK180.out 2; have hfz12_3 := blk_frozen BK180.out 3; have hcz13_0 : w11.cell? ⟨gb181, 0, none⟩ = some (.int .i64 a1_0) := (blk_cell BK181.out 0).trans rfl; have hcz13_1 : w11.cell? ⟨gb181, 1, none⟩ = some (.int .i64 a1_1) := (blk_cell BK181.out 1).trans rfl; have hcz13_2 : w11.cell? ⟨gb181, 2, none⟩ = some (.int .i64 a1_2) := (blk_cell BK181.out 2).trans rfl; have hfz13_0 := blk_frozen BK181.out 0; have hfz13_1 := blk_frozen BK181.out 1; have hfz13_2 := blk_frozen BK181.out 2) | ((with_reducible refine gate_callee (f := 65) rfl ?_); refine goesL_ (some 12) rfl rfl Try.func65 z7_36 rfl #[.agg #[.slice A0_0 l0_0.length c0_0, .int .i64 a0_1, .int .i64 a0_2, .int .i64 a0_3], .agg #[.int .i64 a1_0, .int .i64 a1_1, .int .i64 a1_2]] rfl z7_3 ?_; (with_reducible refine (impl_Market_loss.calls k _ _ l0_0 a0_1 a0_2 a0_3 a1_0 a1_1 a1_2 t183 _ ?side1 ?side2 A5.out).mono ?_); (case side1 => have zh := (Kd.C_below HR0_0.out HB.out); exact z7_C); (case side2 => exact HC0_0.out); rintro e w14 ⟨rfl, hb⟩; refine ⟨_, rfl, ?_⟩; have n0_ := z7_A (blk_below (g := gb180) (o := .cells #[.slice A0_0 l0_0.length c0_0, .int .i64 a0_1, .int .i64 a0_2, .int .i64 a0_3] 30 (0, 0)) z7_11 hb); have n1_ := z7_A (blk_below (g := gb181) (o := .cells #[.int .i64 a1_0, .int .i64 a1_1, .int .i64 a1_2] 32 (0, 0)) z7_34 hb); have n2_ := z7_A (below_step z7_22 hb); clear BK180 BK181 HB; revert n0_ n1_ n2_; intro BK180 BK181 HB; (try clear hb); (try clear hb2); (try clear hk); (try clear hi)))
  go_ret2
  exact ⟨z7_6, z7_22⟩
 ·replace c4 := Bool.eq_false_iff.mpr c4
  subst c4
  have H1 : (some (false, false)) = some (r1, r2) := z7_28
  clear H
  have H := H1
  clear H1
  simp only [Option.some.injEq, Prod.mk.injEq] at H
  obtain ⟨rfl, rfl⟩ := H
  go_enter Try.func14, Try.ntmps14
  go_wp2_with (first | ((with_reducible refine gate_dst (N := 2) rfl ?_); refine box_event ?hg (N := 2) ?hd (cs := #[.slice A0_0 l0_0.length c0_0, .int .i64 a0_1, .int .i64 a0_2, .int .i64 a0_3]) (t := 30) ?hr ?_; (case hd => rfl); (case hg => rfl); (case hr => first | (go_simp; done) | (go_simp; rfl)); intro gb180 hg w15 hbox hb; have n0_ := z7_A (below_step z7_1 hb); have n1_ := z7_A (hbox); have n2_ := z7_A ((z7_13 : w.heap.size ≤ gb180)); have n3_ := z7_A ((z7_13 : w.heap.size ≤ gb180)); clear HB; revert n0_ n1_ n2_ n3_; intro HB BK180 GW180 GE180; clear hb hbox hg) | ((with_reducible refine gate_dst (N := 3) rfl ?_); refine box_event ?hg (N := 3) ?hd (cs := #[.int .i64 a1_0, .int .i64 a1_1, .int .i64 a1_2]) (t := 32) ?hr ?_; (case hd => rfl); (case hg => rfl); (case hr => first | (go_simp; done) | (go_simp; rfl)); intro gb181 hg w16 hbox hb; have n0_ := z7_A (blk_below (g := gb180) (o := .cells #[.slice A0_0 l0_0.length c0_0, .int .i64 a0_1, .int .i64 a0_2, .int .i64 a0_3] 30 (0, 0)) z7_11 hb); have n1_ := z7_A (below_step z7_19 hb); have n2_ := z7_A (hbox); have n3_ := z7_A ((z7_52 : w.heap.size ≤ gb181)); have n4_ := z7_A ((z7_52 : w.heap.size ≤ gb181)); have n5_ := z7_A ((z7_42 : gb180 ≠ gb181)); have n6_ := z7_A ((z7_46 : gb181 ≠ gb180)); clear BK180 HB; revert n0_ n1_ n2_ n3_ n4_ n5_ n6_; intro BK180 HB BK181 GW181 GE181 NB180_181 NB181_180; clear hb hbox hg; have hnb17 := NB180_181.out; have hnc17 := NB181_180.out; have hcz18_0 : w16.cell? ⟨gb180, 0, none⟩ = some (.slice A0_0 l0_0.length c0_0) := (blk_cell BK180.out 0).trans rfl; have hcz18_1 : w16.cell? ⟨gb180, 1, none⟩ = some (.int .i64 a0_1) := (blk_cell BK180.out 1).trans rfl; have hcz18_2 : w16.cell? ⟨gb180, 2, none⟩ = some (.int .i64 a0_2) := (blk_cell BK180.out 2).trans rfl; have hcz18_3 : w16.cell? ⟨gb180, 3, none⟩ = some (.int .i64 a0_3) := (blk_cell BK180.out 3).trans rfl; have hfz18_0 := blk_frozen BK180.out 0; have hfz18_1 := blk_frozen BK180.out 1; have hfz18_2 := blk_frozen BK180.out 2; have hfz18_3 := blk_frozen BK180.out 3; have hcz19_0 : w16.cell? ⟨gb181, 0, none⟩ = some (.int .i64 a1_0) := (blk_cell BK181.out 0).trans rfl; have hcz19_1 : w16.cell? ⟨gb181, 1, none⟩ = some (.int .i64 a1_1) := (blk_cell BK181.out 1).trans rfl; have hcz19_2 : w16.cell? ⟨gb181, 2, none⟩ = some (.int .i64 a1_2) := (blk_cell BK181.out 2).trans rfl; have hfz19_0 := blk_frozen BK181.out 0; have hfz19_1 := blk_frozen BK181.out 1; have hfz19_2 := blk_frozen BK181.out 2) | ((with_reducible refine gate_callee (f := 64) rfl ?_); refine goesL_ (some 8) rfl rfl Try.func64 z7_36 rfl #[.agg #[.slice A0_0 l0_0.length c0_0, .int .i64 a0_1, .int .i64 a0_2, .int .i64 a0_3], .agg #[.int .i64 a1_0, .int .i64 a1_1, .int .i64 a1_2]] rfl z7_3 ?_; (with_reducible refine (impl_isDeal.calls k _ _ l0_0 a0_1 a0_2 a0_3 a1_0 a1_1 a1_2 false _ ?side1 ?side2 A3.out).mono ?_); (case side1 => have zh := (Kd.C_below HR0_0.out HB.out); exact z7_C); (case side2 => exact HC0_0.out); rintro e w20 ⟨rfl, hb⟩; refine ⟨_, rfl, ?_⟩; have n0_ := z7_A (blk_below (g := gb180) (o := .cells #[.slice A0_0 l0_0.length c0_0, .int .i64 a0_1, .int .i64 a0_2, .int .i64 a0_3] 30 (0, 0)) z7_11 hb); have n1_ := z7_A (blk_below (g := gb181) (o := .cells #[.int .i64 a1_0, .int .i64 a1_1, .int .i64 a1_2] 32 (0, 0)) z7_34 hb); have n2_ := z7_A (below_step z7_22 hb); clear BK180 BK181 HB; revert n0_ n1_ n2_; intro BK180 BK181 HB; (try clear hb); (try clear hb2); (try clear hk); (try clear hi)))
  go_ret2
  exact ⟨z7_6, z7_22⟩

/-! ### spec_ProfitLoss: function 16 -/
def spec_ProfitLoss.f (k : Nat) (l0_0 : List Int) (a0_1 : Int) (a0_2 : Int) (a0_3 : Int) (a1_0 : Int) (a1_1 : Int) (a1_2 : Int) : Option (Int × Bool) := (spec_l10Both.f k l0_0 a0_1 a0_2 a0_3 a1_0 a1_1 a1_2).bind fun t186 => (if t186 = true then ((spec_l10Loss.f k l0_0 a0_1 a0_2 a0_3 a1_0 a1_1 a1_2).bind fun t187 => (some (t187, true))) else (some (0, false)))
theorem spec_ProfitLoss.mono : ∀ a0 a1 a2 a3 a4 a5 a6 k, LeO (spec_ProfitLoss.f k a0 a1 a2 a3 a4 a5 a6) (spec_ProfitLoss.f (k + 1) a0 a1 a2 a3 a4 a5 a6) := by
 intro a0 a1 a2 a3 a4 a5 a6 k
 unfold spec_ProfitLoss.f
 repeat' first
   | (with_reducible exact spec_l10Both.mono _ _ _ _ _ _ _ _)
   | (with_reducible exact spec_l10Loss.mono _ _ _ _ _ _ _ _)
   | (with_reducible exact LeO.refl _)
   | (with_reducible exact LeO.none _)
   | (with_reducible refine LeO.ite ?_ ?_)
   | (with_reducible refine LeO.bind ?_ (fun _ => ?_))
   | exact spec_l10Both.mono _ _ _ _ _ _ _ _
   | exact spec_l10Loss.mono _ _ _ _ _ _ _ _
   | exact LeO.none _
   | refine LeO.ite ?_ ?_
   | refine LeO.bind ?_ (fun _ => ?_)
set_option maxHeartbeats 8000000 in
set_option maxRecDepth 100000 in
theorem spec_ProfitLoss.calls (k : Nat) (A0_0 : Option Addr) (c0_0 : Nat) (l0_0 : List Int) (a0_1 : Int) (a0_2 : Int) (a0_3 : Int) (a1_0 : Int) (a1_1 : Int) (a1_2 : Int) (r1 : Int) (r2 : Bool) (w : World) (hr0_0 : Kd.C (Kd.int .i64) w A0_0 l0_0.length l0_0) (hc0_0 : l0_0.length ≤ c0_0) (h : spec_ProfitLoss.f k l0_0 a0_1 a0_2 a0_3 a1_0 a1_1 a1_2 = some (r1, r2)) :
  Calls Try.prog 16 #[.agg #[.slice A0_0 l0_0.length c0_0, .int .i64 a0_1, .int .i64 a0_2, .int .i64 a0_3], .agg #[.int .i64 a1_0, .int .i64 a1_1, .int .i64 a1_2]] w fun e w' => e = .returned (.tuple #[.int .i64 r1, .bool r2]) ∧ Below w.heap.size w w' := by
 have hu30 := Try.underlying30
 have hu32 := Try.underlying32
 have HR0_0 := z7_A hr0_0
 have HC0_0 := z7_A hc0_0
 clear hr0_0 hc0_0
 have HB := z7_A (Below.refl w.heap.size w)
 have H : ((spec_l10Both.f k l0_0 a0_1 a0_2 a0_3 a1_0 a1_1 a1_2).bind fun t186 => (if t186 = true then ((spec_l10Loss.f k l0_0 a0_1 a0_2 a0_3 a1_0 a1_1 a1_2).bind fun t187 => (some (t187, true))) else (some (0, false)))) = some (r1, r2) := h
 clear h
 replace H := Option.bind_eq_some_iff.mp H
 obtain ⟨t186, A30, H⟩ := H
 (try dsimp only at H)
 have A3 := z7_A A30
 clear A30
 by_cases c4 : t186 = true
 ·subst c4
  have H1 : ((spec_l10Loss.f k l0_0 a0_1 a0_2 a0_3 a1_0 a1_1 a1_2).bind fun t187 => (some (t187, true))) = some (r1, r2) := z7_35
  clear H
  have H := H1
  clear H1
  replace H := Option.bind_eq_some_iff.mp H
  obtain ⟨t187, A50, H⟩ := H
  (try dsimp only at H)
  have A5 := z7_A A50
  clear A50
  simp only [Option.some.injEq, Prod.mk.injEq] at H
  obtain ⟨rfl, rfl⟩ := H
  go_enter Try.func16, Try.ntmps16
  go_wp2_with (first | ((with_reducible refine gate_dst (N := 2) rfl ?_); refine box_event ?hg (N := 2) ?hd (cs := #[.slice A0_0 l0_0.length c0_0, .int .i64 a0_1, .int .i64 a0_2, .int .i64 a0_3]) (t := 30) ?hr ?_; (case hd => rfl); (case hg => rfl); (case hr => first | (go_simp; done) | (go_simp; rfl)); intro gb184 hg w6 hbox hb; have n0_ := z7_A (below_step z7_1 hb); have n1_ := z7_A (hbox); have n2_ := z7_A ((z7_13 : w.heap.size ≤ gb184)); have n3_ := z7_A ((z7_13 : w.heap.size ≤ gb184)); clear HB; revert n0_ n1_ n2_ n3_; intro HB BK184 GW184 GE184; clear hb hbox hg) | ((with_reducible refine gate_dst (N := 3) rfl ?_); refine box_event ?hg (N := 3) ?hd (cs := #[.int .i64 a1_0, .int .i64 a1_1, .int .i64 a1_2]) (t := 32) ?hr ?_; (case hd => rfl); (case hg => rfl); (case hr => first | (go_simp; done) | (go_simp; rfl)); intro gb185 hg w7 hbox hb; have n0_ := z7_A (blk_below (g := gb184) (o := .cells #[.slice A0_0 l0_0.length c0_0, .int .i64 a0_1, .int .i64 a0_2, .int .i64 a0_3] 30 (0, 0)) z7_10 hb); have n1_ := z7_A (below_step z7_18 hb); have n2_ := z7_A (hbox); have n3_ := z7_A ((z7_53 : w.heap.size ≤ gb185)); have n4_ := z7_A ((z7_53 : w.heap.size ≤ gb185)); have n5_ := z7_A ((z7_41 : gb184 ≠ gb185)); have n6_ := z7_A ((z7_45 : gb185 ≠ gb184)); clear BK184 HB; revert n0_ n1_ n2_ n3_ n4_ n5_ n6_; intro BK184 HB BK185 GW185 GE185 NB184_185 NB185_184; clear hb hbox hg; have hnb8 := NB184_185.out; have hnc8 := NB185_184.out; have hcz9_0 : w7.cell? ⟨gb184, 0, none⟩ = some (.slice A0_0 l0_0.length c0_0) := (blk_cell BK184.out 0).trans rfl; have hcz9_1 : w7.cell? ⟨gb184, 1, none⟩ = some (.int .i64 a0_1) := (blk_cell BK184.out 1).trans rfl; have hcz9_2 : w7.cell? ⟨gb184, 2, none⟩ = some (.int .i64 a0_2) := (blk_cell BK184.out 2).trans rfl; have hcz9_3 : w7.cell? ⟨gb184, 3, none⟩ = some (.int .i64 a0_3) := (blk_cell BK184.out 3).trans rfl; have hfz9_0 := blk_frozen BK184.out 0; have hfz9_1 := blk_frozen BK184.out 1; have hfz9_2 := blk_frozen BK184.out 2; have hfz9_3 := blk_frozen BK184.out 3; have hcz10_0 : w7.cell? ⟨gb185, 0, none⟩ = some (.int .i64 a1_0) := (blk_cell BK185.out 0).trans rfl; have hcz10_1 : w7.cell? ⟨gb185, 1, none⟩ = some (.int .i64 a1_1) := (blk_cell BK185.out 1).trans rfl; have hcz10_2 : w7.cell? ⟨gb185, 2, none⟩ = some (.int .i64 a1_2) := (blk_cell BK185.out 2).trans rfl; have hfz10_0 := blk_frozen BK185.out 0; have hfz10_1 := blk_frozen BK185.out 1; have hfz10_2 := blk_frozen BK185.out 2) | ((with_reducible refine gate_callee (f := 61) rfl ?_); refine goesL_ (some 8) rfl rfl Try.func61 z7_36 rfl #[.agg #[.slice A0_0 l0_0.length c0_0, .int .i64 a0_1, .int .i64 a0_2, .int .i64 a0_3], .agg #[.int .i64 a1_0, .int .i64 a1_1, .int .i64 a1_2]] rfl z7_3 ?_; (with_reducible refine (spec_l10Both.calls k _ _ l0_0 a0_1 a0_2 a0_3 a1_0 a1_1 a1_2 true _ ?side1 ?side2 A3.out).mono ?_); (case side1 => have zh := (Kd.C_below HR0_0.out HB.out); exact z7_C); (case side2 => exact HC0_0.out); rintro e w11 ⟨rfl, hb⟩; refine ⟨_, rfl, ?_⟩; have n0_ := z7_A (blk_below (g := gb184) (o := .cells #[.slice A0_0 l0_0.length c0_0, .int .i64 a0_1, .int .i64 a0_2, .int .i64 a0_3] 30 (0, 0)) z7_10 hb); have n1_ := z7_A (blk_below (g := gb185) (o := .cells #[.int .i64 a1_0, .int .i64 a1_1, .int .i64 a1_2] 32 (0, 0)) z7_33 hb); have n2_ := z7_A (below_step z7_21 hb); clear BK184 BK185 HB; revert n0_ n1_ n2_; intro BK184 BK185 HB; (try clear hb); (try clear hb2); (try clear hk); (try clear hi); have hcz12_0 : w11.cell? ⟨gb184, 0, none⟩ = some (.slice A0_0 l0_0.length c0_0) := (blk_cell BK184.out 0).trans rfl; have hcz12_1 : w11.cell? ⟨gb184, 1, none⟩ = some (.int .i64 a0_1) := (blk_cell BK184.out 1).trans rfl; have hcz12_2 : w11.cell? ⟨gb184, 2, none⟩ = some (.int .i64 a0_2) := (blk_cell BK184.out 2).trans rfl; have hcz12_3 : w11.cell? ⟨gb184, 3, none⟩ = some (.int .i64 a0_3) := (blk_cell BK184.out 3).trans rfl; have hfz12_0 := blk_frozen BK184.out 0; have hfz12_1 := blk_frozen BK184.out 1; have hfz12_2 := blk_frozen BK184.out 2; have hfz12_3 := blk_frozen BK184.out 3; have hcz13_0 : w11.cell? ⟨gb185, 0, none⟩ = some (.int .i64 a1_0) := (blk_cell BK185.out 0).trans rfl; have hcz13_1 : w11.cell? ⟨gb185, 1, none⟩ = some (.int .i64 a1_1) := (blk_cell BK185.out 1).trans rfl; have hcz13_2 : w11.cell? ⟨gb185, 2, none⟩ = some (.int .i64 a1_2) := (blk_cell BK185.out 2).trans rfl; have hfz13_0 := blk_frozen BK185.out 0; have hfz13_1 := blk_frozen BK185.out 1; have hfz13_2 := blk_frozen BK185.out 2) | ((with_reducible refine gate_callee (f := 62) rfl ?_); refine goesL_ (some 12) rfl rfl Try.func62 z7_36 rfl #[.agg #[.slice A0_0 l0_0.length c0_0, .int .i64 a0_1, .int .i64 a0_2, .int .i64 a0_3], .agg #[.int .i64 a1_0, .int .i64 a1_1, .int .i64 a1_2]] rfl z7_3 ?_; (with_reducible refine (spec_l10Loss.calls k _ _ l0_0 a0_1 a0_2 a0_3 a1_0 a1_1 a1_2 t187 _ ?side1 ?side2 A5.out).mono ?_); (case side1 => have zh := (Kd.C_below HR0_0.out HB.out); exact z7_C); (case side2 => exact HC0_0.out); rintro e w14 ⟨rfl, hb⟩; refine ⟨_, rfl, ?_⟩; have n0_ := z7_A (blk_below (g := gb184) (o := .cells #[.slice A0_0 l0_0.length c0_0, .int .i64 a0_1, .int .i64 a0_2, .int .i64 a0_3] 30 (0, 0)) z7_10 hb); have n1_ := z7_A (blk_below (g := gb185) (o := .cells #[.int .i64 a1_0, .int .i64 a1_1, .int .i64 a1_2] 32 (0, 0)) z7_33 hb); have n2_ := z7_A (below_step z7_21 hb); clear BK184 BK185 HB; revert n0_ n1_ n2_; intro BK184 BK185 HB; (try clear hb); (try clear hb2); (try clear hk); (try clear hi)))
  go_ret2
  exact ⟨z7_6, z7_21⟩
 ·replace c4 := Bool.eq_false_iff.mpr c4
  subst c4
  have H1 : (some (0, false)) = some (r1, r2) := z7_28
  clear H
  have H := H1
  clear H1
  simp only [Option.some.injEq, Prod.mk.injEq] at H
  obtain ⟨rfl, rfl⟩ := H
  go_enter Try.func16, Try.ntmps16
  go_wp2_with (first | ((with_reducible refine gate_dst (N := 2) rfl ?_); refine box_event ?hg (N := 2) ?hd (cs := #[.slice A0_0 l0_0.length c0_0, .int .i64 a0_1, .int .i64 a0_2, .int .i64 a0_3]) (t := 30) ?hr ?_; (case hd => rfl); (case hg => rfl); (case hr => first | (go_simp; done) | (go_simp; rfl)); intro gb184 hg w15 hbox hb; have n0_ := z7_A (below_step z7_1 hb); have n1_ := z7_A (hbox); have n2_ := z7_A ((z7_13 : w.heap.size ≤ gb184)); have n3_ := z7_A ((z7_13 : w.heap.size ≤ gb184)); clear HB; revert n0_ n1_ n2_ n3_; intro HB BK184 GW184 GE184; clear hb hbox hg) | ((with_reducible refine gate_dst (N := 3) rfl ?_); refine box_event ?hg (N := 3) ?hd (cs := #[.int .i64 a1_0, .int .i64 a1_1, .int .i64 a1_2]) (t := 32) ?hr ?_; (case hd => rfl); (case hg => rfl); (case hr => first | (go_simp; done) | (go_simp; rfl)); intro gb185 hg w16 hbox hb; have n0_ := z7_A (blk_below (g := gb184) (o := .cells #[.slice A0_0 l0_0.length c0_0, .int .i64 a0_1, .int .i64 a0_2, .int .i64 a0_3] 30 (0, 0)) z7_10 hb); have n1_ := z7_A (below_step z7_18 hb); have n2_ := z7_A (hbox); have n3_ := z7_A ((z7_53 : w.heap.size ≤ gb185)); have n4_ := z7_A ((z7_53 : w.heap.size ≤ gb185)); have n5_ := z7_A ((z7_41 : gb184 ≠ gb185)); have n6_ := z7_A ((z7_45 : gb185 ≠ gb184)); clear BK184 HB; revert n0_ n1_ n2_ n3_ n4_ n5_ n6_; intro BK184 HB BK185 GW185 GE185 NB184_185 NB185_184; clear hb hbox hg; have hnb17 := NB184_185.out; have hnc17 := NB185_184.out; have hcz18_0 : w16.cell? ⟨gb184, 0, none⟩ = some (.slice A0_0 l0_0.length c0_0) := (blk_cell BK184.out 0).trans rfl; have hcz18_1 : w16.cell? ⟨gb184, 1, none⟩ = some (.int .i64 a0_1) := (blk_cell BK184.out 1).trans rfl; have hcz18_2 : w16.cell? ⟨gb184, 2, none⟩ = some (.int .i64 a0_2) := (blk_cell BK184.out 2).trans rfl; have hcz18_3 : w16.cell? ⟨gb184, 3, none⟩ = some (.int .i64 a0_3) := (blk_cell BK184.out 3).trans rfl; have hfz18_0 := blk_frozen BK184.out 0; have hfz18_1 := blk_frozen BK184.out 1; have hfz18_2 := blk_frozen BK184.out 2; have hfz18_3 := blk_frozen BK184.out 3; have hcz19_0 : w16.cell? ⟨gb185, 0, none⟩ = some (.int .i64 a1_0) := (blk_cell BK185.out 0).trans rfl; have hcz19_1 : w16.cell? ⟨gb185, 1, none⟩ = some (.int .i64 a1_1) := (blk_cell BK185.out 1).trans rfl; have hcz19_2 : w16.cell? ⟨gb185, 2, none⟩ = some (.int .i64 a1_2) := (blk_cell BK185.out 2).trans rfl; have hfz19_0 := blk_frozen BK185.out 0; have hfz19_1 := blk_frozen BK185.out 1; have hfz19_2 := blk_frozen BK185.out 2) | ((with_reducible refine gate_callee (f := 61) rfl ?_); refine goesL_ (some 8) rfl rfl Try.func61 z7_36 rfl #[.agg #[.slice A0_0 l0_0.length c0_0, .int .i64 a0_1, .int .i64 a0_2, .int .i64 a0_3], .agg #[.int .i64 a1_0, .int .i64 a1_1, .int .i64 a1_2]] rfl z7_3 ?_; (with_reducible refine (spec_l10Both.calls k _ _ l0_0 a0_1 a0_2 a0_3 a1_0 a1_1 a1_2 false _ ?side1 ?side2 A3.out).mono ?_); (case side1 => have zh := (Kd.C_below HR0_0.out HB.out); exact z7_C); (case side2 => exact HC0_0.out); rintro e w20 ⟨rfl, hb⟩; refine ⟨_, rfl, ?_⟩; have n0_ := z7_A (blk_below (g := gb184) (o := .cells #[.slice A0_0 l0_0.length c0_0, .int .i64 a0_1, .int .i64 a0_2, .int .i64 a0_3] 30 (0, 0)) z7_10 hb); have n1_ := z7_A (blk_below (g := gb185) (o := .cells #[.int .i64 a1_0, .int .i64 a1_1, .int .i64 a1_2] 32 (0, 0)) z7_33 hb); have n2_ := z7_A (below_step z7_21 hb); clear BK184 BK185 HB; revert n0_ n1_ n2_; intro BK184 BK185 HB; (try clear hb); (try clear hb2); (try clear hk); (try clear hi)))
  go_ret2
  exact ⟨z7_6, z7_21⟩

/-! ### impl_ProfitLoss: function 17 -/
def impl_ProfitLoss.f (k : Nat) (l0_0 : List Int) (a0_1 : Int) (a0_2 : Int) (a0_3 : Int) (a1_0 : Int) (a1_1 : Int) (a1_2 : Int) : Option (Int × Bool) := (impl_isDeal.f k l0_0 a0_1 a0_2 a0_3 a1_0 a1_1 a1_2).bind fun t190 => (if t190 = true then ((impl_Market_loss.f k l0_0 a0_1 a0_2 a0_3 a1_0 a1_1 a1_2).bind fun t191 => (some (t191, true))) else (some (0, false)))
theorem impl_ProfitLoss.mono : ∀ a0 a1 a2 a3 a4 a5 a6 k, LeO (impl_ProfitLoss.f k a0 a1 a2 a3 a4 a5 a6) (impl_ProfitLoss.f (k + 1) a0 a1 a2 a3 a4 a5 a6) := by
 intro a0 a1 a2 a3 a4 a5 a6 k
 unfold impl_ProfitLoss.f
 repeat' first
   | (with_reducible exact impl_Market_loss.mono _ _ _ _ _ _ _ _)
   | (with_reducible exact impl_isDeal.mono _ _ _ _ _ _ _ _)
   | (with_reducible exact LeO.refl _)
   | (with_reducible exact LeO.none _)
   | (with_reducible refine LeO.ite ?_ ?_)
   | (with_reducible refine LeO.bind ?_ (fun _ => ?_))
   | exact impl_Market_loss.mono _ _ _ _ _ _ _ _
   | exact impl_isDeal.mono _ _ _ _ _ _ _ _
   | exact LeO.none _
   | refine LeO.ite ?_ ?_
   | refine LeO.bind ?_ (fun _ => ?_)
set_option maxHeartbeats 8000000 in
set_option maxRecDepth 100000 in
theorem impl_ProfitLoss.calls (k : Nat) (A0_0 : Option Addr) (c0_0 : Nat) (l0_0 : List Int) (a0_1 : Int) (a0_2 : Int) (a0_3 : Int) (a1_0 : Int) (a1_1 : Int) (a1_2 : Int) (r1 : Int) (r2 : Bool) (w : World) (hr0_0 : Kd.C (Kd.int .i64) w A0_0 l0_0.length l0_0) (hc0_0 : l0_0.length ≤ c0_0) (h : impl_ProfitLoss.f k l0_0 a0_1 a0_2 a0_3 a1_0 a1_1 a1_2 = some (r1, r2)) :
  Calls Try.prog 17 #[.agg #[.slice A0_0 l0_0.length c0_0, .int .i64 a0_1, .int .i64 a0_2, .int .i64 a0_3], .agg #[.int .i64 a1_0, .int .i64 a1_1, .int .i64 a1_2]] w fun e w' => e = .returned (.tuple #[.int .i64 r1, .bool r2]) ∧ Below w.heap.size w w' := by
 have hu30 := Try.underlying30
 have hu32 := Try.underlying32
 have HR0_0 := z7_A hr0_0
 have HC0_0 := z7_A hc0_0
 clear hr0_0 hc0_0
 have HB := z7_A (Below.refl w.heap.size w)
 have H : ((impl_isDeal.f k l0_0 a0_1 a0_2 a0_3 a1_0 a1_1 a1_2).bind fun t190 => (if t190 = true then ((impl_Market_loss.f k l0_0 a0_1 a0_2 a0_3 a1_0 a1_1 a1_2).bind fun t191 => (some (t191, true))) else (some (0, false)))) = some (r1, r2) := h
 clear h
 replace H := Option.bind_eq_some_iff.mp H
 obtain ⟨t190, A30, H⟩ := H
 (try dsimp only at H)
 have A3 := z7_A A30
 clear A30
 by_cases c4 : t190 = true
 ·subst c4
  have H1 : ((impl_Market_loss.f k l0_0 a0_1 a0_2 a0_3 a1_0 a1_1 a1_2).bind fun t191 => (some (t191, true))) = some (r1, r2) := z7_35
  clear H
  have H := H1
  clear H1
  replace H := Option.bind_eq_some_iff.mp H
  obtain ⟨t191, A50, H⟩ := H
  (try dsimp only at H)
  have A5 := z7_A A50
  clear A50
  simp only [Option.some.injEq, Prod.mk.injEq] at H
  obtain ⟨rfl, rfl⟩ := H
  go_enter Try.func17, Try.ntmps17
  go_wp2_with (first | ((with_reducible refine gate_dst (N := 2) rfl ?_); refine box_event ?hg (N := 2) ?hd (cs := #[.slice A0_0 l0_0.length c0_0, .int .i64 a0_1, .int .i64 a0_2, .int .i64 a0_3]) (t := 30) ?hr ?_; (case hd => rfl); (case hg => rfl); (case hr => first | (go_simp; done) | (go_simp; rfl)); intro gb188 hg w6 hbox hb; have n0_ := z7_A (below_step z7_1 hb); have n1_ := z7_A (hbox); have n2_ := z7_A ((z7_13 : w.heap.size ≤ gb188)); have n3_ := z7_A ((z7_13 : w.heap.size ≤ gb188)); clear HB; revert n0_ n1_ n2_ n3_; intro HB BK188 GW188 GE188; clear hb hbox hg) | ((with_reducible refine gate_dst (N := 3) rfl ?_); refine box_event ?hg (N := 3) ?hd (cs := #[.int .i64 a1_0, .int .i64 a1_1, .int .i64 a1_2]) (t := 32) ?hr ?_; (case hd => rfl); (case hg => rfl); (case hr => first | (go_simp; done) | (go_simp; rfl)); intro gb189 hg w7 hbox hb; have n0_ := z7_A (blk_below (g := gb188) (o := .cells #[.slice A0_0 l0_0.length c0_0, .int .i64 a0_1, .int .i64 a0_2, .int .i64 a0_3] 30 (0, 0)) z7_9 hb); have n1_ := z7_A (below_step z7_17 hb); have n2_ := z7_A (hbox); have n3_ := z7_A ((z7_54 : w.heap.size ≤ gb189)); have n4_ := z7_A ((z7_54 : w.heap.size ≤ gb189)); have n5_ := z7_A ((z7_48 : gb188 ≠ gb189)); have n6_ := z7_A ((z7_50 : gb189 ≠ gb188)); clear BK188 HB; revert n0_ n1_ n2_ n3_ n4_ n5_ n6_; intro BK188 HB BK189 GW189 GE189 NB188_189 NB189_188; clear hb hbox hg; have hnb8 := NB188_189.out; have hnc8 := NB189_188.out; have hcz9_0 : w7.cell? ⟨gb188, 0, none⟩ = some (.slice A0_0 l0_0.length c0_0) := (blk_cell BK188.out 0).trans rfl; have hcz9_1 : w7.cell? ⟨gb188, 1, none⟩ = some (.int .i64 a0_1) := (blk_cell BK188.out 1).trans rfl; have hcz9_2 : w7.cell? ⟨gb188, 2, none⟩ = some (.int .i64 a0_2) := (blk_cell BK188.out 2).trans rfl; have hcz9_3 : w7.cell? ⟨gb188, 3, none⟩ = some (.int .i64 a0_3) := (blk_cell BK188.out 3).trans rfl; have hfz9_0 := blk_frozen BK188.out 0; have hfz9_1 := blk_frozen BK188.out 1; have hfz9_2 := blk_frozen BK188.out 2; have hfz9_3 := blk_frozen BK188.out 3; have hcz10_0 : w7.cell? ⟨gb189, 0, none⟩ = some (.int .i64 a1_0) := (blk_cell BK189.out 0).trans rfl; have hcz10_1 : w7.cell? ⟨gb189, 1, none⟩ = some (.int .i64 a1_1) := (blk_cell BK189.out 1).trans rfl; have hcz10_2 : w7.cell? ⟨gb189, 2, none⟩ = some (.int .i64 a1_2) := (blk_cell BK189.out 2).trans rfl; have hfz10_0 := blk_frozen BK189.out 0; have hfz10_1 := blk_frozen BK189.out 1; have hfz10_2 := blk_frozen BK189.out 2) | ((with_reducible refine gate_callee (f := 64) rfl ?_); refine goesL_ (some 8) rfl rfl Try.func64 z7_36 rfl #[.agg #[.slice A0_0 l0_0.length c0_0, .int .i64 a0_1, .int .i64 a0_2, .int .i64 a0_3], .agg #[.int .i64 a1_0, .int .i64 a1_1, .int .i64 a1_2]] rfl z7_3 ?_; (with_reducible refine (impl_isDeal.calls k _ _ l0_0 a0_1 a0_2 a0_3 a1_0 a1_1 a1_2 true _ ?side1 ?side2 A3.out).mono ?_); (case side1 => have zh := (Kd.C_below HR0_0.out HB.out); exact z7_C); (case side2 => exact HC0_0.out); rintro e w11 ⟨rfl, hb⟩; refine ⟨_, rfl, ?_⟩; have n0_ := z7_A (blk_below (g := gb188) (o := .cells #[.slice A0_0 l0_0.length c0_0, .int .i64 a0_1, .int .i64 a0_2, .int .i64 a0_3] 30 (0, 0)) z7_9 hb); have n1_ := z7_A (blk_below (g := gb189) (o := .cells #[.int .i64 a1_0, .int .i64 a1_1, .int .i64 a1_2] 32 (0, 0)) z7_32 hb); have n2_ := z7_A (below_step z7_20 hb); clear BK188 BK189 HB; revert n0_ n1_ n2_; intro BK188 BK189 HB; (try clear hb); (try clear hb2); (try clear hk); (try clear hi); have hcz12_0 : w11.cell? ⟨gb188, 0, none⟩ = some (.slice A0_0 l0_0.length c0_0) := (blk_cell BK188.out 0).trans rfl; have hcz12_1 : w11.cell? ⟨gb188, 1, none⟩ = some (.int .i64 a0_1) := (blk_cell BK188.out 1).trans rfl; have hcz12_2 : w11.cell? ⟨gb188, 2, none⟩ = some (.int .i64 a0_2) := (blk_cell BK188.out 2).trans rfl; have hcz12_3 : w11.cell? ⟨gb188, 3, none⟩ = some (.int .i64 a0_3) := (blk_cell BK188.out 3).trans rfl; have hfz12_0 := blk_frozen BK188.out 0; have hfz12_1 := blk_frozen BK188.out 1; have hfz12_2 := blk_frozen BK188.out 2; have hfz12_3 := blk_frozen BK188.out 3; have hcz13_0 : w11.cell? ⟨gb189, 0, none⟩ = some (.int .i64 a1_0) := (blk_cell BK189.out 0).trans rfl; have hcz13_1 : w11.cell? ⟨gb189, 1, none⟩ = some (.int .i64 a1_1) := (blk_cell BK189.out 1).trans rfl; have hcz13_2 : w11.cell? ⟨gb189, 2, none⟩ = some (.int .i64 a1_2) := (blk_cell BK189.out 2).trans rfl; have hfz13_0 := blk_frozen BK189.out 0; have hfz13_1 := blk_frozen BK189.out 1; have hfz13_2 := blk_frozen BK189.out 2) | ((with_reducible refine gate_callee (f := 65) rfl ?_); refine goesL_ (some 12) rfl rfl Try.func65 z7_36 rfl #[.agg #[.slice A0_0 l0_0.length c0_0, .int .i64 a0_1, .int .i64 a0_2, .int .i64 a0_3], .agg #[.int .i64 a1_0, .int .i64 a1_1, .int .i64 a1_2]] rfl z7_3 ?_; (with_reducible refine (impl_Market_loss.calls k _ _ l0_0 a0_1 a0_2 a0_3 a1_0 a1_1 a1_2 t191 _ ?side1 ?side2 A5.out).mono ?_); (case side1 => have zh := (Kd.C_below HR0_0.out HB.out); exact z7_C); (case side2 => exact HC0_0.out); rintro e w14 ⟨rfl, hb⟩; refine ⟨_, rfl, ?_⟩; have n0_ := z7_A (blk_below (g := gb188) (o := .cells #[.slice A0_0 l0_0.length c0_0, .int .i64 a0_1, .int .i64 a0_2, .int .i64 a0_3] 30 (0, 0)) z7_9 hb); have n1_ := z7_A (blk_below (g := gb189) (o := .cells #[.int .i64 a1_0, .int .i64 a1_1, .int .i64 a1_2] 32 (0, 0)) z7_32 hb); have n2_ := z7_A (below_step z7_20 hb); clear BK188 BK189 HB; revert n0_ n1_ n2_; intro BK188 BK189 HB; (try clear hb); (try clear hb2); (try clear hk); (try clear hi)))
  go_ret2
  exact ⟨z7_6, z7_20⟩
 ·replace c4 := Bool.eq_false_iff.mpr c4
  subst c4
  have H1 : (some (0, false)) = some (r1, r2) := z7_28
  clear H
  have H := H1
  clear H1
  simp only [Option.some.injEq, Prod.mk.injEq] at H
  obtain ⟨rfl, rfl⟩ := H
  go_enter Try.func17, Try.ntmps17
  go_wp2_with (first | ((with_reducible refine gate_dst (N := 2) rfl ?_); refine box_event ?hg (N := 2) ?hd (cs := #[.slice A0_0 l0_0.length c0_0, .int .i64 a0_1, .int .i64 a0_2, .int .i64 a0_3]) (t := 30) ?hr ?_; (case hd => rfl); (case hg => rfl); (case hr => first | (go_simp; done) | (go_simp; rfl)); intro gb188 hg w15 hbox hb; have n0_ := z7_A (below_step z7_1 hb); have n1_ := z7_A (hbox); have n2_ := z7_A ((z7_13 : w.heap.size ≤ gb188)); have n3_ := z7_A ((z7_13 : w.heap.size ≤ gb188)); clear HB; revert n0_ n1_ n2_ n3_; intro HB BK188 GW188 GE188; clear hb hbox hg) | ((with_reducible refine gate_dst (N := 3) rfl ?_); refine box_event ?hg (N := 3) ?hd (cs := #[.int .i64 a1_0, .int .i64 a1_1, .int .i64 a1_2]) (t := 32) ?hr ?_; (case hd => rfl); (case hg => rfl); (case hr => first | (go_simp; done) | (go_simp; rfl)); intro gb189 hg w16 hbox hb; have n0_ := z7_A (blk_below (g := gb188) (o := .cells #[.slice A0_0 l0_0.length c0_0, .int .i64 a0_1, .int .i64 a0_2, .int .i64 a0_3] 30 (0, 0)) z7_9 hb); have n1_ := z7_A (below_step z7_17 hb); have n2_ := z7_A (hbox); have n3_ := z7_A ((z7_54 : w.heap.size ≤ gb189)); have n4_ := z7_A ((z7_54 : w.heap.size ≤ gb189)); have n5_ := z7_A ((z7_48 : gb188 ≠ gb189)); have n6_ := z7_A ((z7_50 : gb189 ≠ gb188)); clear BK188 HB; revert n0_ n1_ n2_ n3_ n4_ n5_ n6_; intro BK188 HB BK189 GW189 GE189 NB188_189 NB189_188; clear hb hbox hg; have hnb17 := NB188_189.out; have hnc17 := NB189_188.out; have hcz18_0 : w16.cell? ⟨gb188, 0, none⟩ = some (.slice A0_0 l0_0.length c0_0) := (blk_cell BK188.out 0).trans rfl; have hcz18_1 : w16.cell? ⟨gb188, 1, none⟩ = some (.int .i64 a0_1) := (blk_cell BK188.out 1).trans rfl; have hcz18_2 : w16.cell? ⟨gb188, 2, none⟩ = some (.int .i64 a0_2) := (blk_cell BK188.out 2).trans rfl; have hcz18_3 : w16.cell? ⟨gb188, 3, none⟩ = some (.int .i64 a0_3) := (blk_cell BK188.out 3).trans rfl; have hfz18_0 := blk_frozen BK188.out 0; have hfz18_1 := blk_frozen BK188.out 1; have hfz18_2 := blk_frozen BK188.out 2; have hfz18_3 := blk_frozen BK188.out 3; have hcz19_0 : w16.cell? ⟨gb189, 0, none⟩ = some (.int .i64 a1_0) := (blk_cell BK189.out 0).trans rfl; have hcz19_1 : w16.cell? ⟨gb189, 1, none⟩ = some (.int .i64 a1_1) := (blk_cell BK189.out 1).trans rfl; have hcz19_2 : w16.cell? ⟨gb189, 2, none⟩ = some (.int .i64 a1_2) := (blk_cell BK189.out 2).trans rfl; have hfz19_0 := blk_frozen BK189.out 0; have hfz19_1 := blk_frozen BK189.out 1; have hfz19_2 := blk_frozen BK189.out 2) | ((with_reducible refine gate_callee (f := 64) rfl ?_); refine goesL_ (some 8) rfl rfl Try.func64 z7_36 rfl #[.agg #[.slice A0_0 l0_0.length c0_0, .int .i64 a0_1, .int .i64 a0_2, .int .i64 a0_3], .agg #[.int .i64 a1_0, .int .i64 a1_1, .int .i64 a1_2]] rfl z7_3 ?_; (with_reducible refine (impl_isDeal.calls k _ _ l0_0 a0_1 a0_2 a0_3 a1_0 a1_1 a1_2 false _ ?side1 ?side2 A3.out).mono ?_); (case side1 => have zh := (Kd.C_below HR0_0.out HB.out); exact z7_C); (case side2 => exact HC0_0.out); rintro e w20 ⟨rfl, hb⟩; refine ⟨_, rfl, ?_⟩; have n0_ := z7_A (blk_below (g := gb188) (o := .cells #[.slice A0_0 l0_0.length c0_0, .int .i64 a0_1, .int .i64 a0_2, .int .i64 a0_3] 30 (0, 0)) z7_9 hb); have n1_ := z7_A (blk_below (g := gb189) (o := .cells #[.int .i64 a1_0, .int .i64 a1_1, .int .i64 a1_2] 32 (0, 0)) z7_32 hb); have n2_ := z7_A (below_step z7_20 hb); clear BK188 BK189 HB; revert n0_ n1_ n2_; intro BK188 BK189 HB; (try clear hb); (try clear hb2); (try clear hk); (try clear hi)))
  go_ret2
  exact ⟨z7_6, z7_20⟩

/-! ### spec_l10Proportion: function 70 -/
def spec_l10Proportion.f (l0_0 : List Int) (a0_1 : Int) (a0_2 : Int) (a0_3 : Int) (a1_0 : Int) (a1_1 : Int) (a1_2 : Int) : Option (Bool) := if (wrap64 ((wrap64 (a1_2 * a0_1)) - (wrap64 (100 * (wrap64 (a0_3 + a1_1)))))) > 0 then (some ((wrap64 ((wrap64 ((wrap64 (a1_2 * a0_1)) - (wrap64 (100 * (wrap64 (a0_3 + a1_1)))))) * (wrap64 (a0_3 - a0_2)))) == (wrap64 ((wrap64 (100 * (wrap64 ((wrap64 (a0_3 + a1_1)) - a1_0)))) * (wrap64 (a0_1 - a0_3)))))) else (some false)
set_option maxHeartbeats 8000000 in
set_option maxRecDepth 100000 in
theorem spec_l10Proportion.calls (A0_0 : Option Addr) (c0_0 : Nat) (l0_0 : List Int) (a0_1 : Int) (a0_2 : Int) (a0_3 : Int) (a1_0 : Int) (a1_1 : Int) (a1_2 : Int) (r : Bool) (w : World) (hr0_0 : Kd.C (Kd.int .i64) w A0_0 l0_0.length l0_0) (hc0_0 : l0_0.length ≤ c0_0) (h : spec_l10Proportion.f l0_0 a0_1 a0_2 a0_3 a1_0 a1_1 a1_2 = some r) :
  Calls Try.prog 70 #[.agg #[.slice A0_0 l0_0.length c0_0, .int .i64 a0_1, .int .i64 a0_2, .int .i64 a0_3], .agg #[.int .i64 a1_0, .int .i64 a1_1, .int .i64 a1_2]] w fun e w' => e = .returned (.bool r) ∧ Below w.heap.size w w' := by
 have hu30 := Try.underlying30
 have hu32 := Try.underlying32
 have HR0_0 := z7_A hr0_0
 have HC0_0 := z7_A hc0_0
 clear hr0_0 hc0_0
 have HB := z7_A (Below.refl w.heap.size w)
 have H : (if (wrap64 ((wrap64 (a1_2 * a0_1)) - (wrap64 (100 * (wrap64 (a0_3 + a1_1)))))) > 0 then (some ((wrap64 ((wrap64 ((wrap64 (a1_2 * a0_1)) - (wrap64 (100 * (wrap64 (a0_3 + a1_1)))))) * (wrap64 (a0_3 - a0_2)))) == (wrap64 ((wrap64 (100 * (wrap64 ((wrap64 (a0_3 + a1_1)) - a1_0)))) * (wrap64 (a0_1 - a0_3)))))) else (some false)) = some r := h
 clear h
 by_cases c3 : (wrap64 ((wrap64 (a1_2 * a0_1)) - (wrap64 (100 * (wrap64 (a0_3 + a1_1)))))) > 0
 ·rw [if_pos c3] at H
  have c3b0 : decide (0 < (wrap64 ((wrap64 (a1_2 * a0_1)) - (wrap64 (100 * (wrap64 (a0_3 + a1_1))))))) = true := decide_eq_true c3
  clear c3
  obtain rfl := Option.some.inj H
  go_enter Try.func70, Try.ntmps70
  go_wp2_with (first | ((with_reducible refine gate_dst (N := 2) rfl ?_); refine box_event ?hg (N := 2) ?hd (cs := #[.slice A0_0 l0_0.length c0_0, .int .i64 a0_1, .int .i64 a0_2, .int .i64 a0_3]) (t := 30) ?hr ?_; (case hd => rfl); (case hg => rfl); (case hr => first | (go_simp; done) | (go_simp; rfl)); intro gb192 hg w4 hbox hb; have n0_ := z7_A (below_step z7_1 hb); have n1_ := z7_A (hbox); have n2_ := z7_A ((z7_13 : w.heap.size ≤ gb192)); have n3_ := z7_A ((z7_13 : w.heap.size ≤ gb192)); clear HB; revert n0_ n1_ n2_ n3_; intro HB BK192 GW192 GE192; clear hb hbox hg) | ((with_reducible refine gate_dst (N := 3) rfl ?_); refine box_event ?hg (N := 3) ?hd (cs := #[.int .i64 a1_0, .int .i64 a1_1, .int .i64 a1_2]) (t := 32) ?hr ?_; (case hd => rfl); (case hg => rfl); (case hr => first | (go_simp; done) | (go_simp; rfl)); intro gb193 hg w5 hbox hb; have n0_ := z7_A (blk_below (g := gb192) (o := .cells #[.slice A0_0 l0_0.length c0_0, .int .i64 a0_1, .int .i64 a0_2, .int .i64 a0_3] 30 (0, 0)) z7_25 hb); have n1_ := z7_A (below_step z7_16 hb); have n2_ := z7_A (hbox); have n3_ := z7_A ((z7_55 : w.heap.size ≤ gb193)); have n4_ := z7_A ((z7_55 : w.heap.size ≤ gb193)); have n5_ := z7_A ((z7_40 : gb192 ≠ gb193)); have n6_ := z7_A ((z7_44 : gb193 ≠ gb192)); clear BK192 HB; revert n0_ n1_ n2_ n3_ n4_ n5_ n6_; intro BK192 HB BK193 GW193 GE193 NB192_193 NB193_192; clear hb hbox hg; have hnb6 := NB193_192.out; have hnc6 := NB192_193.out; have hcz7_0 : w5.cell? ⟨gb193, 0, none⟩ = some (.int .i64 a1_0) := (blk_cell BK193.out 0).trans rfl; have hcz7_1 : w5.cell? ⟨gb193, 1, none⟩ = some (.int .i64 a1_1) := (blk_cell BK193.out 1).trans rfl; have hcz7_2 : w5.cell? ⟨gb193, 2, none⟩ = some (.int .i64 a1_2) := (blk_cell BK193.out 2).trans rfl; have hfz7_0 := blk_frozen BK193.out 0; have hfz7_1 := blk_frozen BK193.out 1; have hfz7_2 := blk_frozen BK193.out 2; have hcz8_0 : w5.cell? ⟨gb192, 0, none⟩ = some (.slice A0_0 l0_0.length c0_0) := (blk_cell BK192.out 0).trans rfl; have hcz8_1 : w5.cell? ⟨gb192, 1, none⟩ = some (.int .i64 a0_1) := (blk_cell BK192.out 1).trans rfl; have hcz8_2 : w5.cell? ⟨gb192, 2, none⟩ = some (.int .i64 a0_2) := (blk_cell BK192.out 2).trans rfl; have hcz8_3 : w5.cell? ⟨gb192, 3, none⟩ = some (.int .i64 a0_3) := (blk_cell BK192.out 3).trans rfl; have hfz8_0 := blk_frozen BK192.out 0; have hfz8_1 := blk_frozen BK192.out 1; have hfz8_2 := blk_frozen BK192.out 2; have hfz8_3 := blk_frozen BK192.out 3))
  go_ret
  exact ⟨z7_6, z7_38⟩
 ·rw [if_neg c3] at H
  have c3b0 : decide (0 < (wrap64 ((wrap64 (a1_2 * a0_1)) - (wrap64 (100 * (wrap64 (a0_3 + a1_1))))))) = false := decide_eq_false c3
  clear c3
  obtain rfl := Option.some.inj H
  go_enter Try.func70, Try.ntmps70
  go_wp2_with (first | ((with_reducible refine gate_dst (N := 2) rfl ?_); refine box_event ?hg (N := 2) ?hd (cs := #[.slice A0_0 l0_0.length c0_0, .int .i64 a0_1, .int .i64 a0_2, .int .i64 a0_3]) (t := 30) ?hr ?_; (case hd => rfl); (case hg => rfl); (case hr => first | (go_simp; done) | (go_simp; rfl)); intro gb192 hg w9 hbox hb; have n0_ := z7_A (below_step z7_1 hb); have n1_ := z7_A (hbox); have n2_ := z7_A ((z7_13 : w.heap.size ≤ gb192)); have n3_ := z7_A ((z7_13 : w.heap.size ≤ gb192)); clear HB; revert n0_ n1_ n2_ n3_; intro HB BK192 GW192 GE192; clear hb hbox hg) | ((with_reducible refine gate_dst (N := 3) rfl ?_); refine box_event ?hg (N := 3) ?hd (cs := #[.int .i64 a1_0, .int .i64 a1_1, .int .i64 a1_2]) (t := 32) ?hr ?_; (case hd => rfl); (case hg => rfl); (case hr => first | (go_simp; done) | (go_simp; rfl)); intro gb193 hg w10 hbox hb; have n0_ := z7_A (blk_below (g := gb192) (o := .cells #[.slice A0_0 l0_0.length c0_0, .int .i64 a0_1, .int .i64 a0_2, .int .i64 a0_3] 30 (0, 0)) z7_25 hb); have n1_ := z7_A (below_step z7_16 hb); have n2_ := z7_A (hbox); have n3_ := z7_A ((z7_55 : w.heap.size ≤ gb193)); have n4_ := z7_A ((z7_55 : w.heap.size ≤ gb193)); have n5_ := z7_A ((z7_40 : gb192 ≠ gb193)); have n6_ := z7_A ((z7_44 : gb193 ≠ gb192)); clear BK192 HB; revert n0_ n1_ n2_ n3_ n4_ n5_ n6_; intro BK192 HB BK193 GW193 GE193 NB192_193 NB193_192; clear hb hbox hg; have hnb11 := NB193_192.out; have hnc11 := NB192_193.out; have hcz12_0 : w10.cell? ⟨gb193, 0, none⟩ = some (.int .i64 a1_0) := (blk_cell BK193.out 0).trans rfl; have hcz12_1 : w10.cell? ⟨gb193, 1, none⟩ = some (.int .i64 a1_1) := (blk_cell BK193.out 1).trans rfl; have hcz12_2 : w10.cell? ⟨gb193, 2, none⟩ = some (.int .i64 a1_2) := (blk_cell BK193.out 2).trans rfl; have hfz12_0 := blk_frozen BK193.out 0; have hfz12_1 := blk_frozen BK193.out 1; have hfz12_2 := blk_frozen BK193.out 2; have hcz13_0 : w10.cell? ⟨gb192, 0, none⟩ = some (.slice A0_0 l0_0.length c0_0) := (blk_cell BK192.out 0).trans rfl; have hcz13_1 : w10.cell? ⟨gb192, 1, none⟩ = some (.int .i64 a0_1) := (blk_cell BK192.out 1).trans rfl; have hcz13_2 : w10.cell? ⟨gb192, 2, none⟩ = some (.int .i64 a0_2) := (blk_cell BK192.out 2).trans rfl; have hcz13_3 : w10.cell? ⟨gb192, 3, none⟩ = some (.int .i64 a0_3) := (blk_cell BK192.out 3).trans rfl; have hfz13_0 := blk_frozen BK192.out 0; have hfz13_1 := blk_frozen BK192.out 1; have hfz13_2 := blk_frozen BK192.out 2; have hfz13_3 := blk_frozen BK192.out 3))
  go_ret
  exact ⟨z7_6, z7_38⟩

/-! ### spec_BackContracts: function 20 -/
mutual
def spec_BackContracts.l0 : Nat → List (S32) → Int → List Int → Int → Int → Int → Option ((List (S32)) × Bool)
 | 0, _, _, _, _, _, _ => none
 | k + 1, x4, x5, x195000, x195001, x195002, x195003 => if x5 ≤ 99 then (spec_BackContracts.l1 k x4 x5 0 x195000 x195001 x195002 x195003) else (some (x4, true))
def spec_BackContracts.l1 : Nat → List (S32) → Int → Int → List Int → Int → Int → Int → Option ((List (S32)) × Bool)
 | 0, _, _, _, _, _, _, _ => none
 | k + 1, x4, x5, x6, x195000, x195001, x195002, x195003 => if x6 ≤ 99 then ((spec_l10Proportion.f x195000 x195001 x195002 x195003 x6 x5 100).bind fun t200 => (if t200 = true then (if x4.length < 5864062014805 then (spec_BackContracts.l1 k (x4 ++ [(⟨x6, x5, 100⟩ : S32)]) x5 (wrap64 (x6 + 1)) x195000 x195001 x195002 x195003) else (none)) else (spec_BackContracts.l1 k x4 x5 (wrap64 (x6 + 1)) x195000 x195001 x195002 x195003))) else (spec_BackContracts.l0 k x4 (wrap64 (x5 + 1)) x195000 x195001 x195002 x195003)
end
def spec_BackContracts.f (k : Nat) (l0_0 : List Int) (a0_1 : Int) (a0_2 : Int) (a0_3 : Int) : Option ((List (S32)) × Bool) := (some (([] : List (S32)) : List (S32))).bind fun y195 => ((spec_l10Market.f k l0_0 a0_1 a0_2 a0_3).bind fun t198 => (if t198 = true then (spec_BackContracts.l0 k y195 0 l0_0 a0_1 a0_2 a0_3) else (some (y195, false))))
theorem spec_BackContracts.mono_l : ∀ k, (∀ y0 y1 y2 y3 y4 y5, LeO (spec_BackContracts.l0 k y0 y1 y2 y3 y4 y5) (spec_BackContracts.l0 (k + 1) y0 y1 y2 y3 y4 y5)) ∧ (∀ y0 y1 y2 y3 y4 y5 y6, LeO (spec_BackContracts.l1 k y0 y1 y2 y3 y4 y5 y6) (spec_BackContracts.l1 (k + 1) y0 y1 y2 y3 y4 y5 y6))
 | 0 => ⟨fun _ _ _ _ _ _ r h => by simp [spec_BackContracts.l0] at h, fun _ _ _ _ _ _ _ r h => by simp [spec_BackContracts.l1] at h⟩
 | k + 1 => by
  obtain ⟨ih0, ih1⟩ := spec_BackContracts.mono_l k
  refine ⟨?_, ?_⟩
  ·intro y0 y1 y2 y3 y4 y5
   unfold spec_BackContracts.l0
   repeat' first
   | (with_reducible exact ih0 _ _ _ _ _ _)
   | (with_reducible exact ih1 _ _ _ _ _ _ _)
   | (with_reducible exact spec_l10Market.mono _ _ _ _ _)
   | (with_reducible exact LeO.refl _)
   | (with_reducible exact LeO.none _)
   | (with_reducible refine LeO.ite ?_ ?_)
   | (with_reducible refine LeO.bind ?_ (fun _ => ?_))
   | exact ih0 _ _ _ _ _ _
   | exact ih1 _ _ _ _ _ _ _
   | exact spec_l10Market.mono _ _ _ _ _
   | exact LeO.none _
   | refine LeO.ite ?_ ?_
   | refine LeO.bind ?_ (fun _ => ?_)
  ·intro y0 y1 y2 y3 y4 y5 y6
   unfold spec_BackContracts.l1
   repeat' first
   | (with_reducible exact ih0 _ _ _ _ _ _)
   | (with_reducible exact ih1 _ _ _ _ _ _ _)
   | (with_reducible exact spec_l10Market.mono _ _ _ _ _)
   | (with_reducible exact LeO.refl _)
   | (with_reducible exact LeO.none _)
   | (with_reducible refine LeO.ite ?_ ?_)
   | (with_reducible refine LeO.bind ?_ (fun _ => ?_))
   | exact ih0 _ _ _ _ _ _
   | exact ih1 _ _ _ _ _ _ _
   | exact spec_l10Market.mono _ _ _ _ _
   | exact LeO.none _
   | refine LeO.ite ?_ ?_
   | refine LeO.bind ?_ (fun _ => ?_)
theorem spec_BackContracts.mono : ∀ a0 a1 a2 a3 k, LeO (spec_BackContracts.f k a0 a1 a2 a3) (spec_BackContracts.f (k + 1) a0 a1 a2 a3) := by
 intro a0 a1 a2 a3 k
 obtain ⟨ih0, ih1⟩ := spec_BackContracts.mono_l k
 unfold spec_BackContracts.f
 repeat' first
   | (with_reducible exact ih0 _ _ _ _ _ _)
   | (with_reducible exact ih1 _ _ _ _ _ _ _)
   | (with_reducible exact spec_l10Market.mono _ _ _ _ _)
   | (with_reducible exact LeO.refl _)
   | (with_reducible exact LeO.none _)
   | (with_reducible refine LeO.ite ?_ ?_)
   | (with_reducible refine LeO.bind ?_ (fun _ => ?_))
   | exact ih0 _ _ _ _ _ _
   | exact ih1 _ _ _ _ _ _ _
   | exact spec_l10Market.mono _ _ _ _ _
   | exact LeO.none _
   | refine LeO.ite ?_ ?_
   | refine LeO.bind ?_ (fun _ => ?_)
set_option maxHeartbeats 8000000 in
set_option maxRecDepth 100000 in
theorem spec_BackContracts.calls (k : Nat) (A0_0 : Option Addr) (c0_0 : Nat) (l0_0 : List Int) (a0_1 : Int) (a0_2 : Int) (a0_3 : Int) (r1 : List (S32)) (r2 : Bool) (w : World) (hr0_0 : Kd.C (Kd.int .i64) w A0_0 l0_0.length l0_0) (hc0_0 : l0_0.length ≤ c0_0) (h : spec_BackContracts.f k l0_0 a0_1 a0_2 a0_3 = some (r1, r2)) :
  Calls Try.prog 20 #[.agg #[.slice A0_0 l0_0.length c0_0, .int .i64 a0_1, .int .i64 a0_2, .int .i64 a0_3]] w fun e w' => ∃ v0_ : Value, e = .returned (.tuple #[v0_, .bool r2]) ∧ Kd.R k32 32 w' w.heap.size (fun _ => True) v0_ r1 ∧ Below w.heap.size w w' := by
 have hu30 := Try.underlying30
 have hu32 := Try.underlying32
 have HR0_0 := z7_A hr0_0
 have HC0_0 := z7_A hc0_0
 clear hr0_0 hc0_0
 have HB := z7_A (Below.refl w.heap.size w)
 have H : ((some (([] : List (S32)) : List (S32))).bind fun y195 => ((spec_l10Market.f k l0_0 a0_1 a0_2 a0_3).bind fun t198 => (if t198 = true then (spec_BackContracts.l0 k y195 0 l0_0 a0_1 a0_2 a0_3) else (some (y195, false))))) = some (r1, r2) := h
 clear h
 obtain ⟨y195, hy195⟩ : ∃ y_ : List (S32), y_ = (([] : List (S32))) := ⟨_, rfl⟩
 replace H : ((spec_l10Market.f k l0_0 a0_1 a0_2 a0_3).bind fun t198 => (if t198 = true then (spec_BackContracts.l0 k y195 0 l0_0 a0_1 a0_2 a0_3) else (some (y195, false)))) = some (r1, r2) := by first | (rw [hy195]; with_reducible exact H) | (have H2_ := (Option.bind_some _ _).symm.trans H; rw [hy195]; with_reducible exact H2_) | (have H2_ := (Option.bind_some _ _).symm.trans H; with_reducible exact H2_) | with_reducible exact H | (rw [hy195]; exact H) | exact H
 have Ny195 := z7_A hy195
 clear hy195
 replace H := Option.bind_eq_some_iff.mp H
 obtain ⟨t198, A20, H⟩ := H
 (try dsimp only at H)
 have A2 := z7_A A20
 clear A20
 by_cases c3 : t198 = true
 ·subst c3
  have H1 : (spec_BackContracts.l0 k y195 0 l0_0 a0_1 a0_2 a0_3) = some (r1, r2) := z7_35
  clear H
  have H := H1
  clear H1
  have H' := z7_A H
  clear H
  go_enter Try.func20, Try.ntmps20
  go_wp2_with (first | ((with_reducible refine gate_dst (N := 1) rfl ?_); refine box_event ?hg (N := 1) ?hd (cs := #[.slice A0_0 l0_0.length c0_0, .int .i64 a0_1, .int .i64 a0_2, .int .i64 a0_3]) (t := 30) ?hr ?_; (case hd => rfl); (case hg => rfl); (case hr => first | (go_simp; done) | (go_simp; rfl)); intro gb194 hg w4 hbox hb; have n0_ := z7_A (below_step z7_1 hb); have n1_ := z7_A (hbox); have n2_ := z7_A ((z7_13 : w.heap.size ≤ gb194)); have n3_ := z7_A ((z7_13 : w.heap.size ≤ gb194)); clear HB; revert n0_ n1_ n2_ n3_; intro HB BK194 GW194 GE194; clear hb hbox hg) | ((with_reducible refine gate_dst (N := 8) rfl ?_); refine Kd.R_lit k32 _ 32 ?hg (N := 8) ?hd (xs := ([] : List (S32))) (inner := []) (ok := fun _ => True) (okp := fun _ => True) ?hr ?hp (fun _ hk => hk) trivial (Below.refl _ _) (Nat.le_refl _) (by simp) ?_; (case hd => rfl); (case hg => rfl); (case hr => first | (go_simp; done) | (go_simp; rfl)); (case hp => exact (Reps.none _ _)); intro v196 w5 ho6 hb hg_ hnew_; clear hg_ hnew_; (first | rw [← Ny195.out] at ho6 | (simp only [Int.reduceToNat] at ho6; rw [← Ny195.out] at ho6)); have n0_ := z7_A (Kd.R_lower ho6 (below_size z7_2)); have n1_ := z7_A (blk_below (g := gb194) (o := .cells #[.slice A0_0 l0_0.length c0_0, .int .i64 a0_1, .int .i64 a0_2, .int .i64 a0_3] 30 (0, 0)) z7_5 hb); have n2_ := z7_A (below_step z7_2 hb); clear BK194 HB; revert n0_ n1_ n2_; intro HO197 BK194 HB; clear hb ho6; have hcz7_0 : w5.cell? ⟨gb194, 0, none⟩ = some (.slice A0_0 l0_0.length c0_0) := (blk_cell BK194.out 0).trans rfl; have hcz7_1 : w5.cell? ⟨gb194, 1, none⟩ = some (.int .i64 a0_1) := (blk_cell BK194.out 1).trans rfl; have hcz7_2 : w5.cell? ⟨gb194, 2, none⟩ = some (.int .i64 a0_2) := (blk_cell BK194.out 2).trans rfl; have hcz7_3 : w5.cell? ⟨gb194, 3, none⟩ = some (.int .i64 a0_3) := (blk_cell BK194.out 3).trans rfl; have hfz7_0 := blk_frozen BK194.out 0; have hfz7_1 := blk_frozen BK194.out 1; have hfz7_2 := blk_frozen BK194.out 2; have hfz7_3 := blk_frozen BK194.out 3) | ((with_reducible refine gate_callee (f := 67) rfl ?_); refine goesL_ (some 10) rfl rfl Try.func67 z7_36 rfl #[.agg #[.slice A0_0 l0_0.length c0_0, .int .i64 a0_1, .int .i64 a0_2, .int .i64 a0_3]] rfl z7_3 ?_; (with_reducible refine (spec_l10Market.calls k _ _ l0_0 a0_1 a0_2 a0_3 true _ ?side1 ?side2 A2.out).mono ?_); (case side1 => have zh := (Kd.C_below HR0_0.out HB.out); exact z7_C); (case side2 => exact HC0_0.out); rintro e w8 ⟨rfl, hb⟩; refine ⟨_, rfl, ?_⟩; have n0_ := z7_A (Kd.R_below z7_31 hb); have n1_ := z7_A (blk_below (g := gb194) (o := .cells #[.slice A0_0 l0_0.length c0_0, .int .i64 a0_1, .int .i64 a0_2, .int .i64 a0_3] 30 (0, 0)) z7_5 hb); have n2_ := z7_A (below_step z7_2 hb); clear HO197 BK194 HB; revert n0_ n1_ n2_; intro HO197 BK194 HB; (try clear hb); (try clear hb2); (try clear hk); (try clear hi)))
  go_loopg [4, 5] k (fun kq v4 v5 w' => ∃ (x4_1 : List (S32)) (x5_1 : Int), v5 = .int .i64 x5_1 ∧ Aside0 (spec_BackContracts.l0 kq x4_1 x5_1 l0_0 a0_1 a0_2 a0_3 = some (r1, r2)) ∧ Aside0 (kq ≤ k) ∧ Aside0 (Kd.R k32 32 w' w.heap.size (fun _ => True) v4 x4_1) ∧ Aside0 (w'.heap[gb194]? = some (.cells #[(.slice A0_0 l0_0.length c0_0), .int .i64 a0_1, .int .i64 a0_2, .int .i64 a0_3] 30 (0, 0))) ∧ Aside0 (Below w.heap.size w w'))
  case atStart => exact ⟨(y195), (0), z7_27, H', ⟨Nat.le_refl _⟩, ⟨z7_31⟩, ⟨z7_5⟩, ⟨z7_2⟩⟩
  case round =>
   clear H'
   (try clear c3); (try clear hcz7_0); (try clear hcz7_1); (try clear hcz7_2); (try clear hcz7_3); (try clear hfz7_0); (try clear hfz7_1); (try clear hfz7_2); (try clear hfz7_3)
   obtain ⟨x4_1, x5_1, rfl, HA, HK1, HO_4, BK194, HB⟩ := hrel
   cases gk with
   | zero => exact absurd HA.out (by simp [spec_BackContracts.l0])
   | succ k1 =>
    have H := HA.out
    clear HA
    simp only [spec_BackContracts.l0] at H
    by_cases c9 : x5_1 ≤ 99
    ·rw [if_pos c9] at H
     have c9b0 : decide (x5_1 ≤ 99) = true := decide_eq_true c9
     clear c9
     have H' := z7_A H
     clear H
     go_wp2
     go_loopg [4, 6] k1 (fun kq v4 v6 w' => ∃ (x4_2 : List (S32)) (x6_2 : Int), v6 = .int .i64 x6_2 ∧ Aside0 (spec_BackContracts.l1 kq x4_2 x5_1 x6_2 l0_0 a0_1 a0_2 a0_3 = some (r1, r2)) ∧ Aside0 (kq ≤ k1) ∧ Aside0 (Kd.R k32 32 w' w.heap.size (fun _ => True) v4 x4_2) ∧ Aside0 (w'.heap[gb194]? = some (.cells #[(.slice A0_0 l0_0.length c0_0), .int .i64 a0_1, .int .i64 a0_2, .int .i64 a0_3] 30 (0, 0))) ∧ Aside0 (Below w.heap.size w w'))
     case atStart => exact ⟨(x4_1), (0), z7_27, H', ⟨Nat.le_refl _⟩, ⟨z7_12⟩, ⟨z7_5⟩, ⟨z7_2⟩⟩
     case round =>
      clear H'
      (try clear c9); (try clear c9b0)
      obtain ⟨x4_2, x6_2, rfl, HA, HK2, HO_4, BK194, HB⟩ := hrel
      cases gk with
      | zero => exact absurd HA.out (by simp [spec_BackContracts.l1])
      | succ k2 =>
       have H := HA.out
       clear HA
       simp only [spec_BackContracts.l1] at H
       by_cases c10 : x6_2 ≤ 99
       ·rw [if_pos c10] at H
        have c10b0 : decide (x6_2 ≤ 99) = true := decide_eq_true c10
        clear c10
        replace H := Option.bind_eq_some_iff.mp H
        obtain ⟨t200, A110, H⟩ := H
        (try dsimp only at H)
        have A11 := z7_A A110
        clear A110
        by_cases c12 : t200 = true
        ·subst c12
         have H1 : (if x4_2.length < 5864062014805 then (spec_BackContracts.l1 k2 (x4_2 ++ [(⟨x6_2, x5_1, 100⟩ : S32)]) x5_1 (wrap64 (x6_2 + 1)) l0_0 a0_1 a0_2 a0_3) else (none)) = some (r1, r2) := z7_35
         clear H
         have H := H1
         clear H1
         by_cases c13 : x4_2.length < 5864062014805
         ·rw [if_pos c13] at H
          have LMc13 := z7_A c13
          clear c13
          obtain ⟨y201, hy201⟩ : ∃ y_ : List (S32), y_ = (x4_2 ++ [(⟨x6_2, x5_1, 100⟩ : S32)]) := ⟨_, rfl⟩
          replace H : (spec_BackContracts.l1 k2 y201 x5_1 (wrap64 (x6_2 + 1)) l0_0 a0_1 a0_2 a0_3) = some (r1, r2) := by first | (rw [hy201]; with_reducible exact H) | (have H2_ := (Option.bind_some _ _).symm.trans H; rw [hy201]; with_reducible exact H2_) | (have H2_ := (Option.bind_some _ _).symm.trans H; with_reducible exact H2_) | with_reducible exact H | (rw [hy201]; exact H) | exact H
          have Ny201 := z7_A hy201
          clear hy201
          have H' := z7_A H
          clear H
          go_wp2_with (first | ((with_reducible refine gate_dst (N := 7) rfl ?_); refine box_event ?hg (N := 7) ?hd (cs := #[.int .i64 0, .int .i64 0, .int .i64 0]) (t := 32) ?hr ?_; (case hd => rfl); (case hg => rfl); (case hr => first | (go_simp; done) | (go_simp; rfl)); intro gb199 hg w14 hbox hb; have n0_ := z7_A (Kd.R_below (Kd.R_elderB z7_12 gb199 (Nat.le_of_eq hg.symm)) hb); have n1_ := z7_A (blk_below (g := gb194) (o := .cells #[.slice A0_0 l0_0.length c0_0, .int .i64 a0_1, .int .i64 a0_2, .int .i64 a0_3] 30 (0, 0)) z7_5 hb); have n2_ := z7_A (below_step z7_2 hb); have n3_ := z7_A (hbox); have n4_ := z7_A ((z7_57 : w.heap.size ≤ gb199)); have n5_ := z7_A ((z7_57 : w.heap.size ≤ gb199)); have n6_ := z7_A ((z7_47 : gb194 ≠ gb199)); have n7_ := z7_A ((z7_49 : gb199 ≠ gb194)); clear HO_4 BK194 HB; revert n0_ n1_ n2_ n3_ n4_ n5_ n6_ n7_; intro HO_4 BK194 HB BK199 GW199 GE199 NB194_199 NB199_194; clear hb hbox hg; have hnb15 := NB199_194.out; have hnc15 := NB194_199.out; have hcz16_0 : w14.cell? ⟨gb199, 0, none⟩ = some (.int .i64 0) := (blk_cell BK199.out 0).trans rfl; have hcz16_1 : w14.cell? ⟨gb199, 1, none⟩ = some (.int .i64 0) := (blk_cell BK199.out 1).trans rfl; have hcz16_2 : w14.cell? ⟨gb199, 2, none⟩ = some (.int .i64 0) := (blk_cell BK199.out 2).trans rfl; have hfz16_0 := blk_frozen BK199.out 0; have hfz16_1 := blk_frozen BK199.out 1; have hfz16_2 := blk_frozen BK199.out 2; have hcz17_0 : w14.cell? ⟨gb194, 0, none⟩ = some (.slice A0_0 l0_0.length c0_0) := (blk_cell BK194.out 0).trans rfl; have hcz17_1 : w14.cell? ⟨gb194, 1, none⟩ = some (.int .i64 a0_1) := (blk_cell BK194.out 1).trans rfl; have hcz17_2 : w14.cell? ⟨gb194, 2, none⟩ = some (.int .i64 a0_2) := (blk_cell BK194.out 2).trans rfl; have hcz17_3 : w14.cell? ⟨gb194, 3, none⟩ = some (.int .i64 a0_3) := (blk_cell BK194.out 3).trans rfl; have hfz17_0 := blk_frozen BK194.out 0; have hfz17_1 := blk_frozen BK194.out 1; have hfz17_2 := blk_frozen BK194.out 2; have hfz17_3 := blk_frozen BK194.out 3) | ((with_reducible refine gate_callee (f := 70) rfl ?_); refine goesL_ (some 26) rfl rfl Try.func70 z7_36 rfl #[.agg #[.slice A0_0 l0_0.length c0_0, .int .i64 a0_1, .int .i64 a0_2, .int .i64 a0_3], .agg #[.int .i64 x6_2, .int .i64 x5_1, .int .i64 100]] rfl z7_3 ?_; (with_reducible refine (spec_l10Proportion.calls _ _ l0_0 a0_1 a0_2 a0_3 x6_2 x5_1 100 true _ ?side1 ?side2 A11.out).mono ?_); (case side1 => exact Kd.C_below HR0_0.out z7_7); (case side2 => exact HC0_0.out); rintro e w18 ⟨rfl, hb⟩; refine ⟨_, rfl, ?_⟩; have n0_ := z7_A (Kd.R_below z7_29 hb); have n1_ := z7_A (blk_below (g := gb194) (o := .cells #[.slice A0_0 l0_0.length c0_0, .int .i64 a0_1, .int .i64 a0_2, .int .i64 a0_3] 30 (0, 0)) z7_26 hb); have n2_ := z7_A (blk_below (g := gb199) (o := .cells #[.int .i64 x6_2, .int .i64 x5_1, .int .i64 100] 32 (0, 0)) z7_23 hb); have n3_ := z7_A (below_step z7_7 hb); clear HO_4 BK194 BK199 HB; revert n0_ n1_ n2_ n3_; intro HO_4 BK194 BK199 HB; (try clear hb); (try clear hb2); (try clear hk); (try clear hi); have hcz19_0 : w18.cell? ⟨gb199, 0, none⟩ = some (.int .i64 x6_2) := (blk_cell BK199.out 0).trans rfl; have hcz19_1 : w18.cell? ⟨gb199, 1, none⟩ = some (.int .i64 x5_1) := (blk_cell BK199.out 1).trans rfl; have hcz19_2 : w18.cell? ⟨gb199, 2, none⟩ = some (.int .i64 100) := (blk_cell BK199.out 2).trans rfl; have hfz19_0 := blk_frozen BK199.out 0; have hfz19_1 := blk_frozen BK199.out 1; have hfz19_2 := blk_frozen BK199.out 2) | ((with_reducible refine gate_builtin (b := .append) (xs := #[.tmp 27, .tmp 29]) rfl ?_); at_builtin; refine Kd.R_append k32 (w0 := w) w.heap.size rfl (.tmp 27) (.tmp 29) 40 32 (.agg #[(.int .i64 0), (.int .i64 0), (.int .i64 0)]) 24 rfl Try.underlying40 info32 rfl (by decide) (by omega) u4 x4_2 (⟨x6_2, x5_1, 100⟩ : S32) [.int .i64 x6_2, .int .i64 x5_1, .int .i64 100] (fun k_ => k_ ≠ gb199) (fun _ => False) rfl rfl ?aP (fun _ hk => hk.elim) ?aF ?aO ?aB ?aS ?aL ?_; (case aP => exact k32_mkM _ _ _ (⟨x6_2, x5_1, 100⟩ : S32)); (case aB => exact z7_7); (case aF => exact (fun k_ hk => Kd.freshB (g := gb199) (o := .cells #[.int .i64 x6_2, .int .i64 x5_1, .int .i64 100] 32 (0, 0)) z7_51 k_ hk)); (case aO => exact (by (with_reducible repeat (first | apply Kd.R_alloc | apply Kd.R_drewN | apply Kd.R_drew)); exact Kd.R_mono HO_4.out (fun _ hk => hk.2))); (case aS => exact (below_size z7_7)); (case aL => have := LMc13.out; omega); intro v202 w20 ho hb hg hat; rw [← Ny201.out] at ho; have n0_ := z7_A (blk_grown (g := gb194) (o := .cells #[.slice A0_0 l0_0.length c0_0, .int .i64 a0_1, .int .i64 a0_2, .int .i64 a0_3] 30 (0, 0)) z7_5 hg (Kd.R_ne HO_4.out BK194.out (by decide))); have n1_ := z7_A (blk_grown (g := gb199) (o := .cells #[.int .i64 x6_2, .int .i64 x5_1, .int .i64 100] 32 (0, 0)) z7_51 hg (Kd.R_away HO_4.out (fun _ hk => hk.2))); have n2_ := z7_A (hb); have n3_ := z7_A (ho); clear BK194 BK199 HB HO_4; revert n0_ n1_ n2_ n3_; intro BK194 BK199 HB HO203; clear ho hb hg hat))
          go_roundg k2
          case measure => have := HK1.out; have := HK2.out; omega
          case rel => exact ⟨(y201), (wrap64 (x6_2 + 1)), z7_27, H', ⟨by have := HK1.out; have := HK2.out; omega⟩, ⟨by (with_reducible repeat (first | apply Kd.R_alloc | apply Kd.R_drewN | apply Kd.R_drew)); exact Kd.R_mono HO203.out (fun _ hk => trivial)⟩, ⟨z7_5⟩, ⟨z7_7⟩⟩
         ·rw [if_neg c13] at H
          exact absurd H (by simp)
        ·replace c12 := Bool.eq_false_iff.mpr c12
         subst c12
         have H1 : (spec_BackContracts.l1 k2 x4_2 x5_1 (wrap64 (x6_2 + 1)) l0_0 a0_1 a0_2 a0_3) = some (r1, r2) := z7_28
         clear H
         have H := H1
         clear H1
         have H' := z7_A H
         clear H
         go_wp2_with (first | ((with_reducible refine gate_dst (N := 7) rfl ?_); refine box_event ?hg (N := 7) ?hd (cs := #[.int .i64 0, .int .i64 0, .int .i64 0]) (t := 32) ?hr ?_; (case hd => rfl); (case hg => rfl); (case hr => first | (go_simp; done) | (go_simp; rfl)); intro gb199 hg w21 hbox hb; have n0_ := z7_A (Kd.R_below (Kd.R_elderB z7_12 gb199 (Nat.le_of_eq hg.symm)) hb); have n1_ := z7_A (blk_below (g := gb194) (o := .cells #[.slice A0_0 l0_0.length c0_0, .int .i64 a0_1, .int .i64 a0_2, .int .i64 a0_3] 30 (0, 0)) z7_5 hb); have n2_ := z7_A (below_step z7_2 hb); have n3_ := z7_A (hbox); have n4_ := z7_A ((z7_57 : w.heap.size ≤ gb199)); have n5_ := z7_A ((z7_57 : w.heap.size ≤ gb199)); have n6_ := z7_A ((z7_47 : gb194 ≠ gb199)); have n7_ := z7_A ((z7_49 : gb199 ≠ gb194)); clear HO_4 BK194 HB; revert n0_ n1_ n2_ n3_ n4_ n5_ n6_ n7_; intro HO_4 BK194 HB BK199 GW199 GE199 NB194_199 NB199_194; clear hb hbox hg; have hnb22 := NB199_194.out; have hnc22 := NB194_199.out; have hcz23_0 : w21.cell? ⟨gb199, 0, none⟩ = some (.int .i64 0) := (blk_cell BK199.out 0).trans rfl; have hcz23_1 : w21.cell? ⟨gb199, 1, none⟩ = some (.int .i64 0) := (blk_cell BK199.out 1).trans rfl; have hcz23_2 : w21.cell? ⟨gb199, 2, none⟩ = some (.int .i64 0) := (blk_cell BK199.out 2).trans rfl; have hfz23_0 := blk_frozen BK199.out 0; have hfz23_1 := blk_frozen BK199.out 1; have hfz23_2 := blk_frozen BK199.out 2; have hcz24_0 : w21.cell? ⟨gb194, 0, none⟩ = some (.slice A0_0 l0_0.length c0_0) := (blk_cell BK194.out 0).trans rfl; have hcz24_1 : w21.cell? ⟨gb194, 1, none⟩ = some (.int .i64 a0_1) := (blk_cell BK194.out 1).trans rfl; have hcz24_2 : w21.cell? ⟨gb194, 2, none⟩ = some (.int .i64 a0_2) := (blk_cell BK194.out 2).trans rfl; have hcz24_3 : w21.cell? ⟨gb194, 3, none⟩ = some (.int .i64 a0_3) := (blk_cell BK194.out 3).trans rfl; have hfz24_0 := blk_frozen BK194.out 0; have hfz24_1 := blk_frozen BK194.out 1; have hfz24_2 := blk_frozen BK194.out 2; have hfz24_3 := blk_frozen BK194.out 3) | ((with_reducible refine gate_callee (f := 70) rfl ?_); refine goesL_ (some 26) rfl rfl Try.func70 z7_36 rfl #[.agg #[.slice A0_0 l0_0.length c0_0, .int .i64 a0_1, .int .i64 a0_2, .int .i64 a0_3], .agg #[.int .i64 x6_2, .int .i64 x5_1, .int .i64 100]] rfl z7_3 ?_; (with_reducible refine (spec_l10Proportion.calls _ _ l0_0 a0_1 a0_2 a0_3 x6_2 x5_1 100 false _ ?side1 ?side2 A11.out).mono ?_); (case side1 => exact Kd.C_below HR0_0.out z7_7); (case side2 => exact HC0_0.out); rintro e w25 ⟨rfl, hb⟩; refine ⟨_, rfl, ?_⟩; have n0_ := z7_A (Kd.R_below z7_29 hb); have n1_ := z7_A (blk_below (g := gb194) (o := .cells #[.slice A0_0 l0_0.length c0_0, .int .i64 a0_1, .int .i64 a0_2, .int .i64 a0_3] 30 (0, 0)) z7_26 hb); have n2_ := z7_A (blk_below (g := gb199) (o := .cells #[.int .i64 x6_2, .int .i64 x5_1, .int .i64 100] 32 (0, 0)) z7_23 hb); have n3_ := z7_A (below_step z7_7 hb); clear HO_4 BK194 BK199 HB; revert n0_ n1_ n2_ n3_; intro HO_4 BK194 BK199 HB; (try clear hb); (try clear hb2); (try clear hk); (try clear hi)))
         go_roundg k2
         case measure => have := HK1.out; have := HK2.out; omega
         case rel => exact ⟨(x4_2), (wrap64 (x6_2 + 1)), z7_27, H', ⟨by have := HK1.out; have := HK2.out; omega⟩, ⟨by (with_reducible repeat (first | apply Kd.R_alloc | apply Kd.R_drewN | apply Kd.R_drew)); exact Kd.R_mono HO_4.out (fun _ hk => trivial)⟩, ⟨z7_5⟩, ⟨z7_7⟩⟩
       ·rw [if_neg c10] at H
        have c10b0 : decide (x6_2 ≤ 99) = false := decide_eq_false c10
        clear c10
        have H' := z7_A H
        clear H
        go_wp2
        go_roundg k2
        case measure => have := HK1.out; have := HK2.out; omega
        case rel => exact ⟨(x4_2), (wrap64 (x5_1 + 1)), z7_27, H', ⟨by have := HK1.out; have := HK2.out; omega⟩, ⟨z7_12⟩, ⟨z7_5⟩, ⟨z7_2⟩⟩
    ·rw [if_neg c9] at H
     have c9b0 : decide (x5_1 ≤ 99) = false := decide_eq_false c9
     clear c9
     simp only [Option.some.injEq, Prod.mk.injEq] at H
     obtain ⟨rfl, rfl⟩ := H
     go_wp2
     go_ret2
     exact ⟨_, z7_6, z7_12, z7_2⟩
 ·replace c3 := Bool.eq_false_iff.mpr c3
  subst c3
  have H1 : (some (y195, false)) = some (r1, r2) := z7_28
  clear H
  have H := H1
  clear H1
  simp only [Option.some.injEq, Prod.mk.injEq] at H
  obtain ⟨rfl, rfl⟩ := H
  go_enter Try.func20, Try.ntmps20
  go_wp2_with (first | ((with_reducible refine gate_dst (N := 1) rfl ?_); refine box_event ?hg (N := 1) ?hd (cs := #[.slice A0_0 l0_0.length c0_0, .int .i64 a0_1, .int .i64 a0_2, .int .i64 a0_3]) (t := 30) ?hr ?_; (case hd => rfl); (case hg => rfl); (case hr => first | (go_simp; done) | (go_simp; rfl)); intro gb194 hg w26 hbox hb; have n0_ := z7_A (below_step z7_1 hb); have n1_ := z7_A (hbox); have n2_ := z7_A ((z7_13 : w.heap.size ≤ gb194)); have n3_ := z7_A ((z7_13 : w.heap.size ≤ gb194)); clear HB; revert n0_ n1_ n2_ n3_; intro HB BK194 GW194 GE194; clear hb hbox hg) | ((with_reducible refine gate_dst (N := 8) rfl ?_); refine Kd.R_lit k32 _ 32 ?hg (N := 8) ?hd (xs := ([] : List (S32))) (inner := []) (ok := fun _ => True) (okp := fun _ => True) ?hr ?hp (fun _ hk => hk) trivial (Below.refl _ _) (Nat.le_refl _) (by simp) ?_; (case hd => rfl); (case hg => rfl); (case hr => first | (go_simp; done) | (go_simp; rfl)); (case hp => exact (Reps.none _ _)); intro v196 w27 ho28 hb hg_ hnew_; clear hg_ hnew_; (first | rw [← Ny195.out] at ho28 | (simp only [Int.reduceToNat] at ho28; rw [← Ny195.out] at ho28)); have n0_ := z7_A (Kd.R_lower ho28 (below_size z7_2)); have n1_ := z7_A (blk_below (g := gb194) (o := .cells #[.slice A0_0 l0_0.length c0_0, .int .i64 a0_1, .int .i64 a0_2, .int .i64 a0_3] 30 (0, 0)) z7_5 hb); have n2_ := z7_A (below_step z7_2 hb); clear BK194 HB; revert n0_ n1_ n2_; intro HO197 BK194 HB; clear hb ho28; have hcz29_0 : w27.cell? ⟨gb194, 0, none⟩ = some (.slice A0_0 l0_0.length c0_0) := (blk_cell BK194.out 0).trans rfl; have hcz29_1 : w27.cell? ⟨gb194, 1, none⟩ = some (.int .i64 a0_1) := (blk_cell BK194.out 1).trans rfl; have hcz29_2 : w27.cell? ⟨gb194, 2, none⟩ = some (.int .i64 a0_2) := (blk_cell BK194.out 2).trans rfl; have hcz29_3 : w27.cell? ⟨gb194, 3, none⟩ = some (.int .i64 a0_3) := (blk_cell BK194.out 3).trans rfl; have hfz29_0 := blk_frozen BK194.out 0; have hfz29_1 := blk_frozen BK194.out 1; have hfz29_2 := blk_frozen BK194.out 2; have hfz29_3 := blk_frozen BK194.out 3) | ((with_reducible refine gate_callee (f := 67) rfl ?_); refine goesL_ (some 10) rfl rfl Try.func67 z7_36 rfl #[.agg #[.slice A0_0 l0_0.length c0_0, .int .i64 a0_1, .int .i64 a0_2, .int .i64 a0_3]] rfl z7_3 ?_; (with_reducible refine (spec_l10Market.calls k _ _ l0_0 a0_1 a0_2 a0_3 false _ ?side1 ?side2 A2.out).mono ?_); (case side1 => have zh := (Kd.C_below HR0_0.out HB.out); exact z7_C); (case side2 => exact HC0_0.out); rintro e w30 ⟨rfl, hb⟩; refine ⟨_, rfl, ?_⟩; have n0_ := z7_A (Kd.R_below z7_31 hb); have n1_ := z7_A (blk_below (g := gb194) (o := .cells #[.slice A0_0 l0_0.length c0_0, .int .i64 a0_1, .int .i64 a0_2, .int .i64 a0_3] 30 (0, 0)) z7_5 hb); have n2_ := z7_A (below_step z7_2 hb); clear HO197 BK194 HB; revert n0_ n1_ n2_; intro HO197 BK194 HB; (try clear hb); (try clear hb2); (try clear hk); (try clear hi)))
  go_ret2
  exact ⟨_, z7_6, z7_31, z7_2⟩

/-! ### impl_Market_proportion: function 76 -/
def impl_Market_proportion.f (l0_0 : List Int) (a0_1 : Int) (a0_2 : Int) (a0_3 : Int) (a1_0 : Int) (a1_1 : Int) (a1_2 : Int) : Option (Bool) := if (wrap64 ((wrap64 (a1_2 * a0_1)) - (wrap64 (100 * (wrap64 (a0_3 + a1_1)))))) > 0 then (some ((wrap64 ((wrap64 ((wrap64 (a1_2 * a0_1)) - (wrap64 (100 * (wrap64 (a0_3 + a1_1)))))) * (wrap64 (a0_3 - a0_2)))) == (wrap64 ((wrap64 (100 * (wrap64 ((wrap64 (a0_3 + a1_1)) - a1_0)))) * (wrap64 (a0_1 - a0_3)))))) else (some false)
set_option maxHeartbeats 8000000 in
set_option maxRecDepth 100000 in
theorem impl_Market_proportion.calls (A0_0 : Option Addr) (c0_0 : Nat) (l0_0 : List Int) (a0_1 : Int) (a0_2 : Int) (a0_3 : Int) (a1_0 : Int) (a1_1 : Int) (a1_2 : Int) (r : Bool) (w : World) (hr0_0 : Kd.C (Kd.int .i64) w A0_0 l0_0.length l0_0) (hc0_0 : l0_0.length ≤ c0_0) (h : impl_Market_proportion.f l0_0 a0_1 a0_2 a0_3 a1_0 a1_1 a1_2 = some r) :
  Calls Try.prog 76 #[.agg #[.slice A0_0 l0_0.length c0_0, .int .i64 a0_1, .int .i64 a0_2, .int .i64 a0_3], .agg #[.int .i64 a1_0, .int .i64 a1_1, .int .i64 a1_2]] w fun e w' => e = .returned (.bool r) ∧ Below w.heap.size w w' := by
 have hu30 := Try.underlying30
 have hu32 := Try.underlying32
 have HR0_0 := z7_A hr0_0
 have HC0_0 := z7_A hc0_0
 clear hr0_0 hc0_0
 have HB := z7_A (Below.refl w.heap.size w)
 have H : (if (wrap64 ((wrap64 (a1_2 * a0_1)) - (wrap64 (100 * (wrap64 (a0_3 + a1_1)))))) > 0 then (some ((wrap64 ((wrap64 ((wrap64 (a1_2 * a0_1)) - (wrap64 (100 * (wrap64 (a0_3 + a1_1)))))) * (wrap64 (a0_3 - a0_2)))) == (wrap64 ((wrap64 (100 * (wrap64 ((wrap64 (a0_3 + a1_1)) - a1_0)))) * (wrap64 (a0_1 - a0_3)))))) else (some false)) = some r := h
 clear h
 by_cases c3 : (wrap64 ((wrap64 (a1_2 * a0_1)) - (wrap64 (100 * (wrap64 (a0_3 + a1_1)))))) > 0
 ·rw [if_pos c3] at H
  have c3b0 : decide (0 < (wrap64 ((wrap64 (a1_2 * a0_1)) - (wrap64 (100 * (wrap64 (a0_3 + a1_1))))))) = true := decide_eq_true c3
  clear c3
  obtain rfl := Option.some.inj H
  go_enter Try.func76, Try.ntmps76
  go_wp2_with (first | ((with_reducible refine gate_dst (N := 2) rfl ?_); refine box_event ?hg (N := 2) ?hd (cs := #[.slice A0_0 l0_0.length c0_0, .int .i64 a0_1, .int .i64 a0_2, .int .i64 a0_3]) (t := 30) ?hr ?_; (case hd => rfl); (case hg => rfl); (case hr => first | (go_simp; done) | (go_simp; rfl)); intro gb204 hg w4 hbox hb; have n0_ := z7_A (below_step z7_1 hb); have n1_ := z7_A (hbox); have n2_ := z7_A ((z7_13 : w.heap.size ≤ gb204)); have n3_ := z7_A ((z7_13 : w.heap.size ≤ gb204)); clear HB; revert n0_ n1_ n2_ n3_; intro HB BK204 GW204 GE204; clear hb hbox hg) | ((with_reducible refine gate_dst (N := 3) rfl ?_); refine box_event ?hg (N := 3) ?hd (cs := #[.int .i64 a1_0, .int .i64 a1_1, .int .i64 a1_2]) (t := 32) ?hr ?_; (case hd => rfl); (case hg => rfl); (case hr => first | (go_simp; done) | (go_simp; rfl)); intro gb205 hg w5 hbox hb; have n0_ := z7_A (blk_below (g := gb204) (o := .cells #[.slice A0_0 l0_0.length c0_0, .int .i64 a0_1, .int .i64 a0_2, .int .i64 a0_3] 30 (0, 0)) z7_24 hb); have n1_ := z7_A (below_step z7_15 hb); have n2_ := z7_A (hbox); have n3_ := z7_A ((z7_56 : w.heap.size ≤ gb205)); have n4_ := z7_A ((z7_56 : w.heap.size ≤ gb205)); have n5_ := z7_A ((z7_39 : gb204 ≠ gb205)); have n6_ := z7_A ((z7_43 : gb205 ≠ gb204)); clear BK204 HB; revert n0_ n1_ n2_ n3_ n4_ n5_ n6_; intro BK204 HB BK205 GW205 GE205 NB204_205 NB205_204; clear hb hbox hg; have hnb6 := NB205_204.out; have hnc6 := NB204_205.out; have hcz7_0 : w5.cell? ⟨gb205, 0, none⟩ = some (.int .i64 a1_0) := (blk_cell BK205.out 0).trans rfl; have hcz7_1 : w5.cell? ⟨gb205, 1, none⟩ = some (.int .i64 a1_1) := (blk_cell BK205.out 1).trans rfl; have hcz7_2 : w5.cell? ⟨gb205, 2, none⟩ = some (.int .i64 a1_2) := (blk_cell BK205.out 2).trans rfl; have hfz7_0 := blk_frozen BK205.out 0; have hfz7_1 := blk_frozen BK205.out 1; have hfz7_2 := blk_frozen BK205.out 2; have hcz8_0 : w5.cell? ⟨gb204, 0, none⟩ = some (.slice A0_0 l0_0.length c0_0) := (blk_cell BK204.out 0).trans rfl; have hcz8_1 : w5.cell? ⟨gb204, 1, none⟩ = some (.int .i64 a0_1) := (blk_cell BK204.out 1).trans rfl; have hcz8_2 : w5.cell? ⟨gb204, 2, none⟩ = some (.int .i64 a0_2) := (blk_cell BK204.out 2).trans rfl; have hcz8_3 : w5.cell? ⟨gb204, 3, none⟩ = some (.int .i64 a0_3) := (blk_cell BK204.out 3).trans rfl; have hfz8_0 := blk_frozen BK204.out 0; have hfz8_1 := blk_frozen BK204.out 1; have hfz8_2 := blk_frozen BK204.out 2; have hfz8_3 := blk_frozen BK204.out 3))
  go_ret
  exact ⟨z7_6, z7_37⟩
 ·rw [if_neg c3] at H
  have c3b0 : decide (0 < (wrap64 ((wrap64 (a1_2 * a0_1)) - (wrap64 (100 * (wrap64 (a0_3 + a1_1))))))) = false := decide_eq_false c3
  clear c3
  obtain rfl := Option.some.inj H
  go_enter Try.func76, Try.ntmps76
  go_wp2_with (first | ((with_reducible refine gate_dst (N := 2) rfl ?_); refine box_event ?hg (N := 2) ?hd (cs := #[.slice A0_0 l0_0.length c0_0, .int .i64 a0_1, .int .i64 a0_2, .int .i64 a0_3]) (t := 30) ?hr ?_; (case hd => rfl); (case hg => rfl); (case hr => first | (go_simp; done) | (go_simp; rfl)); intro gb204 hg w9 hbox hb; have n0_ := z7_A (below_step z7_1 hb); have n1_ := z7_A (hbox); have n2_ := z7_A ((z7_13 : w.heap.size ≤ gb204)); have n3_ := z7_A ((z7_13 : w.heap.size ≤ gb204)); clear HB; revert n0_ n1_ n2_ n3_; intro HB BK204 GW204 GE204; clear hb hbox hg) | ((with_reducible refine gate_dst (N := 3) rfl ?_); refine box_event ?hg (N := 3) ?hd (cs := #[.int .i64 a1_0, .int .i64 a1_1, .int .i64 a1_2]) (t := 32) ?hr ?_; (case hd => rfl); (case hg => rfl); (case hr => first | (go_simp; done) | (go_simp; rfl)); intro gb205 hg w10 hbox hb; have n0_ := z7_A (blk_below (g := gb204) (o := .cells #[.slice A0_0 l0_0.length c0_0, .int .i64 a0_1, .int .i64 a0_2, .int .i64 a0_3] 30 (0, 0)) z7_24 hb); have n1_ := z7_A (below_step z7_15 hb); have n2_ := z7_A (hbox); have n3_ := z7_A ((z7_56 : w.heap.size ≤ gb205)); have n4_ := z7_A ((z7_56 : w.heap.size ≤ gb205)); have n5_ := z7_A ((z7_39 : gb204 ≠ gb205)); have n6_ := z7_A ((z7_43 : gb205 ≠ gb204)); clear BK204 HB; revert n0_ n1_ n2_ n3_ n4_ n5_ n6_; intro BK204 HB BK205 GW205 GE205 NB204_205 NB205_204; clear hb hbox hg; have hnb11 := NB205_204.out; have hnc11 := NB204_205.out; have hcz12_0 : w10.cell? ⟨gb205, 0, none⟩ = some (.int .i64 a1_0) := (blk_cell BK205.out 0).trans rfl; have hcz12_1 : w10.cell? ⟨gb205, 1, none⟩ = some (.int .i64 a1_1) := (blk_cell BK205.out 1).trans rfl; have hcz12_2 : w10.cell? ⟨gb205, 2, none⟩ = some (.int .i64 a1_2) := (blk_cell BK205.out 2).trans rfl; have hfz12_0 := blk_frozen BK205.out 0; have hfz12_1 := blk_frozen BK205.out 1; have hfz12_2 := blk_frozen BK205.out 2; have hcz13_0 : w10.cell? ⟨gb204, 0, none⟩ = some (.slice A0_0 l0_0.length c0_0) := (blk_cell BK204.out 0).trans rfl; have hcz13_1 : w10.cell? ⟨gb204, 1, none⟩ = some (.int .i64 a0_1) := (blk_cell BK204.out 1).trans rfl; have hcz13_2 : w10.cell? ⟨gb204, 2, none⟩ = some (.int .i64 a0_2) := (blk_cell BK204.out 2).trans rfl; have hcz13_3 : w10.cell? ⟨gb204, 3, none⟩ = some (.int .i64 a0_3) := (blk_cell BK204.out 3).trans rfl; have hfz13_0 := blk_frozen BK204.out 0; have hfz13_1 := blk_frozen BK204.out 1; have hfz13_2 := blk_frozen BK204.out 2; have hfz13_3 := blk_frozen BK204.out 3))
  go_ret
  exact ⟨z7_6, z7_37⟩

/-! ### impl_Market_payFor: function 71 -/
def impl_Market_payFor.l0 : Nat → Int → Int → Int → List Int → Int → Int → Int → Option (Int × Bool)
 | 0, _, _, _, _, _, _, _ => none
 | k + 1, x1, x2, x9, x207000, x207001, x207002, x207003 => if x9 < 100 then ((impl_Market_proportion.f x207000 x207001 x207002 x207003 x9 x1 x2).bind fun t207 => (if t207 = true then (some (x9, true)) else (impl_Market_payFor.l0 k x1 x2 (wrap64 (x9 + 1)) x207000 x207001 x207002 x207003))) else (some (0, false))
def impl_Market_payFor.f (k : Nat) (l0_0 : List Int) (a0_1 : Int) (a0_2 : Int) (a0_3 : Int) (a1 : Int) (a2 : Int) : Option (Int × Bool) := impl_Market_payFor.l0 k a1 a2 0 l0_0 a0_1 a0_2 a0_3
theorem impl_Market_payFor.mono_l : ∀ k, (∀ y0 y1 y2 y3 y4 y5 y6, LeO (impl_Market_payFor.l0 k y0 y1 y2 y3 y4 y5 y6) (impl_Market_payFor.l0 (k + 1) y0 y1 y2 y3 y4 y5 y6))
 | 0 => fun _ _ _ _ _ _ _ r h => by simp [impl_Market_payFor.l0] at h
 | k + 1 => by
  have ih0 := impl_Market_payFor.mono_l k
  ·intro y0 y1 y2 y3 y4 y5 y6
   unfold impl_Market_payFor.l0
   repeat' first
   | (with_reducible exact ih0 _ _ _ _ _ _ _)
   | (with_reducible exact LeO.refl _)
   | (with_reducible exact LeO.none _)
   | (with_reducible refine LeO.ite ?_ ?_)
   | (with_reducible refine LeO.bind ?_ (fun _ => ?_))
   | exact ih0 _ _ _ _ _ _ _
   | exact LeO.none _
   | refine LeO.ite ?_ ?_
   | refine LeO.bind ?_ (fun _ => ?_)
theorem impl_Market_payFor.mono : ∀ a0 a1 a2 a3 a4 a5 k, LeO (impl_Market_payFor.f k a0 a1 a2 a3 a4 a5) (impl_Market_payFor.f (k + 1) a0 a1 a2 a3 a4 a5) := by
 intro a0 a1 a2 a3 a4 a5 k
 have ih0 := impl_Market_payFor.mono_l k
 unfold impl_Market_payFor.f
 repeat' first
   | (with_reducible exact ih0 _ _ _ _ _ _ _)
   | (with_reducible exact LeO.refl _)
   | (with_reducible exact LeO.none _)
   | (with_reducible refine LeO.ite ?_ ?_)
   | (with_reducible refine LeO.bind ?_ (fun _ => ?_))
   | exact ih0 _ _ _ _ _ _ _
   | exact LeO.none _
   | refine LeO.ite ?_ ?_
   | refine LeO.bind ?_ (fun _ => ?_)
set_option maxHeartbeats 8000000 in
set_option maxRecDepth 100000 in
theorem impl_Market_payFor.calls (k : Nat) (A0_0 : Option Addr) (c0_0 : Nat) (l0_0 : List Int) (a0_1 : Int) (a0_2 : Int) (a0_3 : Int) (a1 : Int) (a2 : Int) (r1 : Int) (r2 : Bool) (w : World) (hr0_0 : Kd.C (Kd.int .i64) w A0_0 l0_0.length l0_0) (hc0_0 : l0_0.length ≤ c0_0) (h : impl_Market_payFor.f k l0_0 a0_1 a0_2 a0_3 a1 a2 = some (r1, r2)) :
  Calls Try.prog 71 #[.agg #[.slice A0_0 l0_0.length c0_0, .int .i64 a0_1, .int .i64 a0_2, .int .i64 a0_3], .int .i64 a1, .int .i64 a2] w fun e w' => e = .returned (.tuple #[.int .i64 r1, .bool r2]) ∧ Below w.heap.size w w' := by
 have hu30 := Try.underlying30
 have hu32 := Try.underlying32
 have HR0_0 := z7_A hr0_0
 have HC0_0 := z7_A hc0_0
 clear hr0_0 hc0_0
 have HB := z7_A (Below.refl w.heap.size w)
 have H : (impl_Market_payFor.l0 k a1 a2 0 l0_0 a0_1 a0_2 a0_3) = some (r1, r2) := h
 clear h
 have H' := z7_A H
 clear H
 go_enter Try.func71, Try.ntmps71
 go_wp2_with (first | ((with_reducible refine gate_dst (N := 3) rfl ?_); refine box_event ?hg (N := 3) ?hd (cs := #[.slice A0_0 l0_0.length c0_0, .int .i64 a0_1, .int .i64 a0_2, .int .i64 a0_3]) (t := 30) ?hr ?_; (case hd => rfl); (case hg => rfl); (case hr => first | (go_simp; done) | (go_simp; rfl)); intro gb206 hg w4 hbox hb; have n0_ := z7_A (below_step z7_1 hb); have n1_ := z7_A (hbox); have n2_ := z7_A ((z7_13 : w.heap.size ≤ gb206)); have n3_ := z7_A ((z7_13 : w.heap.size ≤ gb206)); clear HB; revert n0_ n1_ n2_ n3_; intro HB BK206 GW206 GE206; clear hb hbox hg))
 go_loopg [9] k (fun kq v9 w' => ∃ (x9_1 : Int), v9 = .int .i64 x9_1 ∧ Aside0 (impl_Market_payFor.l0 kq a1 a2 x9_1 l0_0 a0_1 a0_2 a0_3 = some (r1, r2)) ∧ Aside0 (kq ≤ k) ∧ Aside0 (w'.heap[gb206]? = some (.cells #[(.slice A0_0 l0_0.length c0_0), .int .i64 a0_1, .int .i64 a0_2, .int .i64 a0_3] 30 (0, 0))) ∧ Aside0 (Below w.heap.size w w'))
 case atStart => exact ⟨(0), z7_27, H', ⟨Nat.le_refl _⟩, ⟨z7_30⟩, ⟨z7_14⟩⟩
 case round =>
  clear H'
  try clear p2
  obtain ⟨x9_1, rfl, HA, HK1, BK206, HB⟩ := hrel
  cases gk with
  | zero => exact absurd HA.out (by simp [impl_Market_payFor.l0])
  | succ k1 =>
   have H := HA.out
   clear HA
   simp only [impl_Market_payFor.l0] at H
   by_cases c5 : x9_1 < 100
   ·rw [if_pos c5] at H
    have c5b0 : decide (x9_1 < 100) = true := decide_eq_true c5
    clear c5
    replace H := Option.bind_eq_some_iff.mp H
    obtain ⟨t207, A60, H⟩ := H
    (try dsimp only at H)
    have A6 := z7_A A60
    clear A60
    by_cases c7 : t207 = true
    ·subst c7
     have H1 : (some (x9_1, true)) = some (r1, r2) := z7_35
     clear H
     have H := H1
     clear H1
     simp only [Option.some.injEq, Prod.mk.injEq] at H
     obtain ⟨rfl, rfl⟩ := H
     have hcz8_0 : wr.cell? ⟨gb206, 0, none⟩ = some (.slice A0_0 l0_0.length c0_0) := (blk_cell BK206.out 0).trans rfl
     have hcz8_1 : wr.cell? ⟨gb206, 1, none⟩ = some (.int .i64 a0_1) := (blk_cell BK206.out 1).trans rfl
     have hcz8_2 : wr.cell? ⟨gb206, 2, none⟩ = some (.int .i64 a0_2) := (blk_cell BK206.out 2).trans rfl
     have hcz8_3 : wr.cell? ⟨gb206, 3, none⟩ = some (.int .i64 a0_3) := (blk_cell BK206.out 3).trans rfl
     have hfz8_0 := blk_frozen BK206.out 0
     have hfz8_1 := blk_frozen BK206.out 1
     have hfz8_2 := blk_frozen BK206.out 2
     have hfz8_3 := blk_frozen BK206.out 3
     go_wp2_with (first | ((with_reducible refine gate_callee (f := 76) rfl ?_); refine goesL_ (some 17) rfl rfl Try.func76 z7_36 rfl #[.agg #[.slice A0_0 l0_0.length c0_0, .int .i64 a0_1, .int .i64 a0_2, .int .i64 a0_3], .agg #[.int .i64 x9_1, .int .i64 a1, .int .i64 a2]] rfl z7_3 ?_; (with_reducible refine (impl_Market_proportion.calls _ _ l0_0 a0_1 a0_2 a0_3 x9_1 a1 a2 true _ ?side1 ?side2 A6.out).mono ?_); (case side1 => have zh := (Kd.C_below HR0_0.out HB.out); exact z7_C); (case side2 => exact HC0_0.out); rintro e w9 ⟨rfl, hb⟩; refine ⟨_, rfl, ?_⟩; have n0_ := z7_A (blk_below (g := gb206) (o := .cells #[.slice A0_0 l0_0.length c0_0, .int .i64 a0_1, .int .i64 a0_2, .int .i64 a0_3] 30 (0, 0)) z7_30 hb); have n1_ := z7_A (below_step z7_14 hb); clear BK206 HB; revert n0_ n1_; intro BK206 HB; (try clear hb); (try clear hb2); (try clear hk); (try clear hi)))
     go_ret2
     exact ⟨z7_6, z7_14⟩
    ·replace c7 := Bool.eq_false_iff.mpr c7
     subst c7
     have H1 : (impl_Market_payFor.l0 k1 a1 a2 (wrap64 (x9_1 + 1)) l0_0 a0_1 a0_2 a0_3) = some (r1, r2) := z7_28
     clear H
     have H := H1
     clear H1
     have H' := z7_A H
     clear H
     have hcz10_0 : wr.cell? ⟨gb206, 0, none⟩ = some (.slice A0_0 l0_0.length c0_0) := (blk_cell BK206.out 0).trans rfl
     have hcz10_1 : wr.cell? ⟨gb206, 1, none⟩ = some (.int .i64 a0_1) := (blk_cell BK206.out 1).trans rfl
     have hcz10_2 : wr.cell? ⟨gb206, 2, none⟩ = some (.int .i64 a0_2) := (blk_cell BK206.out 2).trans rfl
     have hcz10_3 : wr.cell? ⟨gb206, 3, none⟩ = some (.int .i64 a0_3) := (blk_cell BK206.out 3).trans rfl
     have hfz10_0 := blk_frozen BK206.out 0
     have hfz10_1 := blk_frozen BK206.out 1
     have hfz10_2 := blk_frozen BK206.out 2
     have hfz10_3 := blk_frozen BK206.out 3
     go_wp2_with (first | ((with_reducible refine gate_callee (f := 76) rfl ?_); refine goesL_ (some 17) rfl rfl Try.func76 z7_36 rfl #[.agg #[.slice A0_0 l0_0.length c0_0, .int .i64 a0_1, .int .i64 a0_2, .int .i64 a0_3], .agg #[.int .i64 x9_1, .int .i64 a1, .int .i64 a2]] rfl z7_3 ?_; (with_reducible refine (impl_Market_proportion.calls _ _ l0_0 a0_1 a0_2 a0_3 x9_1 a1 a2 false _ ?side1 ?side2 A6.out).mono ?_); (case side1 => have zh := (Kd.C_below HR0_0.out HB.out); exact z7_C); (case side2 => exact HC0_0.out); rintro e w11 ⟨rfl, hb⟩; refine ⟨_, rfl, ?_⟩; have n0_ := z7_A (blk_below (g := gb206) (o := .cells #[.slice A0_0 l0_0.length c0_0, .int .i64 a0_1, .int .i64 a0_2, .int .i64 a0_3] 30 (0, 0)) z7_30 hb); have n1_ := z7_A (below_step z7_14 hb); clear BK206 HB; revert n0_ n1_; intro BK206 HB; (try clear hb); (try clear hb2); (try clear hk); (try clear hi)))
     go_roundg k1
     case measure => have := HK1.out; omega
     case rel => exact ⟨(wrap64 (x9_1 + 1)), z7_27, H', ⟨by have := HK1.out; omega⟩, ⟨z7_30⟩, ⟨z7_14⟩⟩
   ·rw [if_neg c5] at H
    have c5b0 : decide (x9_1 < 100) = false := decide_eq_false c5
    clear c5
    simp only [Option.some.injEq, Prod.mk.injEq] at H
    obtain ⟨rfl, rfl⟩ := H
    go_wp2
    go_ret2
    exact ⟨z7_6, z7_14⟩

/-! ### impl_BackContracts: function 21 -/
def impl_BackContracts.l0 : Nat → List (S32) → Int → List Int → Int → Int → Int → Option ((List (S32)) × Bool)
 | 0, _, _, _, _, _, _ => none
 | k + 1, x4, x12, x209000, x209001, x209002, x209003 => if x12 < 100 then ((impl_Market_payFor.f k x209000 x209001 x209002 x209003 x12 100).bind fun bt213 => (if bt213.2 = true then (if x4.length < 5864062014805 then (impl_BackContracts.l0 k (x4 ++ [(⟨bt213.1, x12, 100⟩ : S32)]) (wrap64 (x12 + 1)) x209000 x209001 x209002 x209003) else (none)) else (impl_BackContracts.l0 k x4 (wrap64 (x12 + 1)) x209000 x209001 x209002 x209003))) else (some (x4, true))
def impl_BackContracts.f (k : Nat) (l0_0 : List Int) (a0_1 : Int) (a0_2 : Int) (a0_3 : Int) : Option ((List (S32)) × Bool) := (impl_IsMarket.f k l0_0 a0_1 a0_2 a0_3).bind fun t209 => (if t209 = true then (impl_BackContracts.l0 k (([] : List (S32))) 0 l0_0 a0_1 a0_2 a0_3) else (some (([] : List (S32)), false)))
theorem impl_BackContracts.mono_l : ∀ k, (∀ y0 y1 y2 y3 y4 y5, LeO (impl_BackContracts.l0 k y0 y1 y2 y3 y4 y5) (impl_BackContracts.l0 (k + 1) y0 y1 y2 y3 y4 y5))
 | 0 => fun _ _ _ _ _ _ r h => by simp [impl_BackContracts.l0] at h
 | k + 1 => by
  have ih0 := impl_BackContracts.mono_l k
  ·intro y0 y1 y2 y3 y4 y5
   unfold impl_BackContracts.l0
   repeat' first
   | (with_reducible exact ih0 _ _ _ _ _ _)
   | (with_reducible exact impl_IsMarket.mono _ _ _ _ _)
   | (with_reducible exact impl_Market_payFor.mono _ _ _ _ _ _ _)
   | (with_reducible exact LeO.refl _)
   | (with_reducible exact LeO.none _)
   | (with_reducible refine LeO.ite ?_ ?_)
   | (with_reducible refine LeO.bind ?_ (fun _ => ?_))
   | exact ih0 _ _ _ _ _ _
   | exact impl_IsMarket.mono _ _ _ _ _
   | exact impl_Market_payFor.mono _ _ _ _ _ _ _
   | exact LeO.none _
   | refine LeO.ite ?_ ?_
   | refine LeO.bind ?_ (fun _ => ?_)
theorem impl_BackContracts.mono : ∀ a0 a1 a2 a3 k, LeO (impl_BackContracts.f k a0 a1 a2 a3) (impl_BackContracts.f (k + 1) a0 a1 a2 a3) := by
 intro a0 a1 a2 a3 k
 have ih0 := impl_BackContracts.mono_l k
 unfold impl_BackContracts.f
 repeat' first
   | (with_reducible exact ih0 _ _ _ _ _ _)
   | (with_reducible exact impl_IsMarket.mono _ _ _ _ _)
   | (with_reducible exact impl_Market_payFor.mono _ _ _ _ _ _ _)
   | (with_reducible exact LeO.refl _)
   | (with_reducible exact LeO.none _)
   | (with_reducible refine LeO.ite ?_ ?_)
   | (with_reducible refine LeO.bind ?_ (fun _ => ?_))
   | exact ih0 _ _ _ _ _ _
   | exact impl_IsMarket.mono _ _ _ _ _
   | exact impl_Market_payFor.mono _ _ _ _ _ _ _
   | exact LeO.none _
   | refine LeO.ite ?_ ?_
   | refine LeO.bind ?_ (fun _ => ?_)
set_option maxHeartbeats 8000000 in
set_option maxRecDepth 100000 in
theorem impl_BackContracts.calls (k : Nat) (A0_0 : Option Addr) (c0_0 : Nat) (l0_0 : List Int) (a0_1 : Int) (a0_2 : Int) (a0_3 : Int) (r1 : List (S32)) (r2 : Bool) (w : World) (hr0_0 : Kd.C (Kd.int .i64) w A0_0 l0_0.length l0_0) (hc0_0 : l0_0.length ≤ c0_0) (h : impl_BackContracts.f k l0_0 a0_1 a0_2 a0_3 = some (r1, r2)) :
  Calls Try.prog 21 #[.agg #[.slice A0_0 l0_0.length c0_0, .int .i64 a0_1, .int .i64 a0_2, .int .i64 a0_3]] w fun e w' => ∃ v0_ : Value, e = .returned (.tuple #[v0_, .bool r2]) ∧ Kd.R k32 32 w' w.heap.size (fun _ => True) v0_ r1 ∧ Below w.heap.size w w' := by
 have hu30 := Try.underlying30
 have hu32 := Try.underlying32
 have HR0_0 := z7_A hr0_0
 have HC0_0 := z7_A hc0_0
 clear hr0_0 hc0_0
 have HB := z7_A (Below.refl w.heap.size w)
 have H : ((impl_IsMarket.f k l0_0 a0_1 a0_2 a0_3).bind fun t209 => (if t209 = true then (impl_BackContracts.l0 k (([] : List (S32))) 0 l0_0 a0_1 a0_2 a0_3) else (some (([] : List (S32)), false)))) = some (r1, r2) := h
 clear h
 replace H := Option.bind_eq_some_iff.mp H
 obtain ⟨t209, A20, H⟩ := H
 (try dsimp only at H)
 have A2 := z7_A A20
 clear A20
 by_cases c3 : t209 = true
 ·subst c3
  have H1 : (impl_BackContracts.l0 k (([] : List (S32))) 0 l0_0 a0_1 a0_2 a0_3) = some (r1, r2) := z7_35
  clear H
  have H := H1
  clear H1
  obtain ⟨y210, hy210⟩ : ∃ y_ : List (S32), y_ = (([] : List (S32))) := ⟨_, rfl⟩
  replace H : (impl_BackContracts.l0 k y210 0 l0_0 a0_1 a0_2 a0_3) = some (r1, r2) := by first | (rw [hy210]; with_reducible exact H) | (have H2_ := (Option.bind_some _ _).symm.trans H; rw [hy210]; with_reducible exact H2_) | (have H2_ := (Option.bind_some _ _).symm.trans H; with_reducible exact H2_) | with_reducible exact H | (rw [hy210]; exact H) | exact H
  have Ny210 := z7_A hy210
  clear hy210
  have H' := z7_A H
  clear H
  go_enter Try.func21, Try.ntmps21
  go_wp2_with (first | ((with_reducible refine gate_dst (N := 1) rfl ?_); refine box_event ?hg (N := 1) ?hd (cs := #[.slice A0_0 l0_0.length c0_0, .int .i64 a0_1, .int .i64 a0_2, .int .i64 a0_3]) (t := 30) ?hr ?_; (case hd => rfl); (case hg => rfl); (case hr => first | (go_simp; done) | (go_simp; rfl)); intro gb208 hg w4 hbox hb; have n0_ := z7_A (below_step z7_1 hb); have n1_ := z7_A (hbox); have n2_ := z7_A ((z7_13 : w.heap.size ≤ gb208)); have n3_ := z7_A ((z7_13 : w.heap.size ≤ gb208)); clear HB; revert n0_ n1_ n2_ n3_; intro HB BK208 GW208 GE208; clear hb hbox hg; have hcz5_0 : w4.cell? ⟨gb208, 0, none⟩ = some (.slice A0_0 l0_0.length c0_0) := (blk_cell BK208.out 0).trans rfl; have hcz5_1 : w4.cell? ⟨gb208, 1, none⟩ = some (.int .i64 a0_1) := (blk_cell BK208.out 1).trans rfl; have hcz5_2 : w4.cell? ⟨gb208, 2, none⟩ = some (.int .i64 a0_2) := (blk_cell BK208.out 2).trans rfl; have hcz5_3 : w4.cell? ⟨gb208, 3, none⟩ = some (.int .i64 a0_3) := (blk_cell BK208.out 3).trans rfl; have hfz5_0 := blk_frozen BK208.out 0; have hfz5_1 := blk_frozen BK208.out 1; have hfz5_2 := blk_frozen BK208.out 2; have hfz5_3 := blk_frozen BK208.out 3) | ((with_reducible refine gate_callee (f := 42) rfl ?_); refine goesL_ (some 9) rfl rfl Try.func42 z7_36 rfl #[.agg #[.slice A0_0 l0_0.length c0_0, .int .i64 a0_1, .int .i64 a0_2, .int .i64 a0_3]] rfl z7_3 ?_; (with_reducible refine (impl_IsMarket.calls k _ _ l0_0 a0_1 a0_2 a0_3 true _ ?side1 ?side2 A2.out).mono ?_); (case side1 => have zh := (Kd.C_below HR0_0.out HB.out); exact z7_C); (case side2 => exact HC0_0.out); rintro e w6 ⟨rfl, hb⟩; refine ⟨_, rfl, ?_⟩; have n0_ := z7_A (blk_below (g := gb208) (o := .cells #[.slice A0_0 l0_0.length c0_0, .int .i64 a0_1, .int .i64 a0_2, .int .i64 a0_3] 30 (0, 0)) z7_8 hb); have n1_ := z7_A (below_step z7_4 hb); clear BK208 HB; revert n0_ n1_; intro BK208 HB; (try clear hb); (try clear hb2); (try clear hk); (try clear hi)) | ((with_reducible refine gate_dst (N := 11) rfl ?_); refine Kd.R_lit k32 _ 32 ?hg (N := 11) ?hd (xs := ([] : List (S32))) (inner := []) (ok := fun _ => True) (okp := fun _ => True) ?hr ?hp (fun _ hk => hk) trivial (Below.refl _ _) (Nat.le_refl _) (by simp) ?_; (case hd => rfl); (case hg => rfl); (case hr => first | (go_simp; done) | (go_simp; rfl)); (case hp => exact (Reps.none _ _)); intro v211 w7 ho8 hb hg_ hnew_; clear hg_ hnew_; (first | rw [← Ny210.out] at ho8 | (simp only [Int.reduceToNat] at ho8; rw [← Ny210.out] at ho8)); have n0_ := z7_A (Kd.R_lower ho8 (below_size z7_4)); have n1_ := z7_A (blk_below (g := gb208) (o := .cells #[.slice A0_0 l0_0.length c0_0, .int .i64 a0_1, .int .i64 a0_2, .int .i64 a0_3] 30 (0, 0)) z7_8 hb); have n2_ := z7_A (below_step z7_4 hb); clear BK208 HB; revert n0_ n1_ n2_; intro HO212 BK208 HB; clear hb ho8))
  go_loopg [4, 12] k (fun kq v4 v12 w' => ∃ (x4_1 : List (S32)) (x12_1 : Int), v12 = .int .i64 x12_1 ∧ Aside0 (impl_BackContracts.l0 kq x4_1 x12_1 l0_0 a0_1 a0_2 a0_3 = some (r1, r2)) ∧ Aside0 (kq ≤ k) ∧ Aside0 (Kd.R k32 32 w' w.heap.size (fun _ => True) v4 x4_1) ∧ Aside0 (w'.heap[gb208]? = some (.cells #[(.slice A0_0 l0_0.length c0_0), .int .i64 a0_1, .int .i64 a0_2, .int .i64 a0_3] 30 (0, 0))) ∧ Aside0 (Below w.heap.size w w'))
  case atStart => exact ⟨(y210), (0), z7_27, H', ⟨Nat.le_refl _⟩, ⟨by (with_reducible repeat (first | apply Kd.R_alloc | apply Kd.R_drewN | apply Kd.R_drew)); exact HO212.out⟩, ⟨z7_8⟩, ⟨z7_4⟩⟩
  case round =>
   clear H'
   (try clear c3); (try clear hcz5_0); (try clear hcz5_1); (try clear hcz5_2); (try clear hcz5_3); (try clear hfz5_0); (try clear hfz5_1); (try clear hfz5_2); (try clear hfz5_3)
   obtain ⟨x4_1, x12_1, rfl, HA, HK1, HO_4, BK208, HB⟩ := hrel
   cases gk with
   | zero => exact absurd HA.out (by simp [impl_BackContracts.l0])
   | succ k1 =>
    have H := HA.out
    clear HA
    simp only [impl_BackContracts.l0] at H
    by_cases c9 : x12_1 < 100
    ·rw [if_pos c9] at H
     have c9b0 : decide (x12_1 < 100) = true := decide_eq_true c9
     clear c9
     replace H := Option.bind_eq_some_iff.mp H
     obtain ⟨⟨t213, t214⟩, A100, H⟩ := H
     (try dsimp only at H)
     have A10 := z7_A A100
     clear A100
     by_cases c11 : t214 = true
     ·subst c11
      have H1 : (if x4_1.length < 5864062014805 then (impl_BackContracts.l0 k1 (x4_1 ++ [(⟨t213, x12_1, 100⟩ : S32)]) (wrap64 (x12_1 + 1)) l0_0 a0_1 a0_2 a0_3) else (none)) = some (r1, r2) := z7_35
      clear H
      have H := H1
      clear H1
      by_cases c12 : x4_1.length < 5864062014805
      ·rw [if_pos c12] at H
       have LMc12 := z7_A c12
       clear c12
       obtain ⟨y215, hy215⟩ : ∃ y_ : List (S32), y_ = (x4_1 ++ [(⟨t213, x12_1, 100⟩ : S32)]) := ⟨_, rfl⟩
       replace H : (impl_BackContracts.l0 k1 y215 (wrap64 (x12_1 + 1)) l0_0 a0_1 a0_2 a0_3) = some (r1, r2) := by first | (rw [hy215]; with_reducible exact H) | (have H2_ := (Option.bind_some _ _).symm.trans H; rw [hy215]; with_reducible exact H2_) | (have H2_ := (Option.bind_some _ _).symm.trans H; with_reducible exact H2_) | with_reducible exact H | (rw [hy215]; exact H) | exact H
       have Ny215 := z7_A hy215
       clear hy215
       have H' := z7_A H
       clear H
       have hcz13_0 : wr.cell? ⟨gb208, 0, none⟩ = some (.slice A0_0 l0_0.length c0_0) := (blk_cell BK208.out 0).trans rfl
       have hcz13_1 : wr.cell? ⟨gb208, 1, none⟩ = some (.int .i64 a0_1) := (blk_cell BK208.out 1).trans rfl
       have hcz13_2 : wr.cell? ⟨gb208, 2, none⟩ = some (.int .i64 a0_2) := (blk_cell BK208.out 2).trans rfl
       have hcz13_3 : wr.cell? ⟨gb208, 3, none⟩ = some (.int .i64 a0_3) := (blk_cell BK208.out 3).trans rfl
       have hfz13_0 := blk_frozen BK208.out 0
       have hfz13_1 := blk_frozen BK208.out 1
       have hfz13_2 := blk_frozen BK208.out 2
       have hfz13_3 := blk_frozen BK208.out 3
       go_wp2_with (first | ((with_reducible refine gate_callee (f := 71) rfl ?_); refine goesL_ (some 18) rfl rfl Try.func71 z7_36 rfl #[.agg #[.slice A0_0 l0_0.length c0_0, .int .i64 a0_1, .int .i64 a0_2, .int .i64 a0_3], .int .i64 x12_1, .int .i64 100] rfl z7_3 ?_; (with_reducible refine (impl_Market_payFor.calls k1 _ _ l0_0 a0_1 a0_2 a0_3 x12_1 100 t213 true _ ?side1 ?side2 A10.out).mono ?_); (case side1 => have zh := (Kd.C_below HR0_0.out HB.out); exact z7_C); (case side2 => exact HC0_0.out); rintro e w14 ⟨rfl, hb⟩; refine ⟨_, rfl, ?_⟩; have n0_ := z7_A (Kd.R_below z7_12 hb); have n1_ := z7_A (blk_below (g := gb208) (o := .cells #[.slice A0_0 l0_0.length c0_0, .int .i64 a0_1, .int .i64 a0_2, .int .i64 a0_3] 30 (0, 0)) z7_8 hb); have n2_ := z7_A (below_step z7_4 hb); clear HO_4 BK208 HB; revert n0_ n1_ n2_; intro HO_4 BK208 HB; (try clear hb); (try clear hb2); (try clear hk); (try clear hi)) | ((with_reducible refine gate_builtin (b := .append) (xs := #[.tmp 22, .tmp 26]) rfl ?_); at_builtin; refine Kd.R_append k32 (w0 := w) w.heap.size rfl (.tmp 22) (.tmp 26) 40 32 (.agg #[(.int .i64 0), (.int .i64 0), (.int .i64 0)]) 24 rfl Try.underlying40 info32 rfl (by decide) (by omega) u4 x4_1 (⟨t213, x12_1, 100⟩ : S32) [.int .i64 t213, .int .i64 x12_1, .int .i64 100] (fun _ => True) (fun _ => False) rfl rfl ?aP (fun _ hk => hk.elim) ?aF ?aO ?aB ?aS ?aL ?_; (case aP => exact k32_mkM _ _ _ (⟨t213, x12_1, 100⟩ : S32)); (case aB => exact z7_4); (case aF => exact (fun _ _ => trivial)); (case aO => exact z7_12); (case aS => exact (below_size z7_4)); (case aL => have := LMc12.out; omega); intro v216 w15 ho hb hg hat; rw [← Ny215.out] at ho; have n0_ := z7_A (blk_grown (g := gb208) (o := .cells #[.slice A0_0 l0_0.length c0_0, .int .i64 a0_1, .int .i64 a0_2, .int .i64 a0_3] 30 (0, 0)) z7_8 hg (Kd.R_ne HO_4.out BK208.out (by decide))); have n1_ := z7_A (hb); have n2_ := z7_A (ho); clear BK208 HB HO_4; revert n0_ n1_ n2_; intro BK208 HB HO217; clear ho hb hg hat))
       go_roundg k1
       case measure => have := HK1.out; omega
       case rel => exact ⟨(y215), (wrap64 (x12_1 + 1)), z7_27, H', ⟨by have := HK1.out; omega⟩, ⟨by (with_reducible repeat (first | apply Kd.R_alloc | apply Kd.R_drewN | apply Kd.R_drew)); exact HO217.out⟩, ⟨z7_8⟩, ⟨z7_4⟩⟩
      ·rw [if_neg c12] at H
       exact absurd H (by simp)
     ·replace c11 := Bool.eq_false_iff.mpr c11
      subst c11
      have H1 : (impl_BackContracts.l0 k1 x4_1 (wrap64 (x12_1 + 1)) l0_0 a0_1 a0_2 a0_3) = some (r1, r2) := z7_28
      clear H
      have H := H1
      clear H1
      have H' := z7_A H
      clear H
      have hcz16_0 : wr.cell? ⟨gb208, 0, none⟩ = some (.slice A0_0 l0_0.length c0_0) := (blk_cell BK208.out 0).trans rfl
      have hcz16_1 : wr.cell? ⟨gb208, 1, none⟩ = some (.int .i64 a0_1) := (blk_cell BK208.out 1).trans rfl
      have hcz16_2 : wr.cell? ⟨gb208, 2, none⟩ = some (.int .i64 a0_2) := (blk_cell BK208.out 2).trans rfl
      have hcz16_3 : wr.cell? ⟨gb208, 3, none⟩ = some (.int .i64 a0_3) := (blk_cell BK208.out 3).trans rfl
      have hfz16_0 := blk_frozen BK208.out 0
      have hfz16_1 := blk_frozen BK208.out 1
      have hfz16_2 := blk_frozen BK208.out 2
      have hfz16_3 := blk_frozen BK208.out 3
      go_wp2_with (first | ((with_reducible refine gate_callee (f := 71) rfl ?_); refine goesL_ (some 18) rfl rfl Try.func71 z7_36 rfl #[.agg #[.slice A0_0 l0_0.length c0_0, .int .i64 a0_1, .int .i64 a0_2, .int .i64 a0_3], .int .i64 x12_1, .int .i64 100] rfl z7_3 ?_; (with_reducible refine (impl_Market_payFor.calls k1 _ _ l0_0 a0_1 a0_2 a0_3 x12_1 100 t213 false _ ?side1 ?side2 A10.out).mono ?_); (case side1 => have zh := (Kd.C_below HR0_0.out HB.out); exact z7_C); (case side2 => exact HC0_0.out); rintro e w17 ⟨rfl, hb⟩; refine ⟨_, rfl, ?_⟩; have n0_ := z7_A (Kd.R_below z7_12 hb); have n1_ := z7_A (blk_below (g := gb208) (o := .cells #[.slice A0_0 l0_0.length c0_0, .int .i64 a0_1, .int .i64 a0_2, .int .i64 a0_3] 30 (0, 0)) z7_8 hb); have n2_ := z7_A (below_step z7_4 hb); clear HO_4 BK208 HB; revert n0_ n1_ n2_; intro HO_4 BK208 HB; (try clear hb); (try clear hb2); (try clear hk); (try clear hi)))
      go_roundg k1
      case measure => have := HK1.out; omega
      case rel => exact ⟨(x4_1), (wrap64 (x12_1 + 1)), z7_27, H', ⟨by have := HK1.out; omega⟩, ⟨z7_12⟩, ⟨z7_8⟩, ⟨z7_4⟩⟩
    ·rw [if_neg c9] at H
     have c9b0 : decide (x12_1 < 100) = false := decide_eq_false c9
     clear c9
     simp only [Option.some.injEq, Prod.mk.injEq] at H
     obtain ⟨rfl, rfl⟩ := H
     go_wp2
     go_ret2
     exact ⟨_, z7_6, z7_12, z7_4⟩
 ·replace c3 := Bool.eq_false_iff.mpr c3
  subst c3
  have H1 : (some (([] : List (S32)), false)) = some (r1, r2) := z7_28
  clear H
  have H := H1
  clear H1
  simp only [Option.some.injEq, Prod.mk.injEq] at H
  obtain ⟨rfl, rfl⟩ := H
  go_enter Try.func21, Try.ntmps21
  go_wp2_with (first | ((with_reducible refine gate_dst (N := 1) rfl ?_); refine box_event ?hg (N := 1) ?hd (cs := #[.slice A0_0 l0_0.length c0_0, .int .i64 a0_1, .int .i64 a0_2, .int .i64 a0_3]) (t := 30) ?hr ?_; (case hd => rfl); (case hg => rfl); (case hr => first | (go_simp; done) | (go_simp; rfl)); intro gb208 hg w18 hbox hb; have n0_ := z7_A (below_step z7_1 hb); have n1_ := z7_A (hbox); have n2_ := z7_A ((z7_13 : w.heap.size ≤ gb208)); have n3_ := z7_A ((z7_13 : w.heap.size ≤ gb208)); clear HB; revert n0_ n1_ n2_ n3_; intro HB BK208 GW208 GE208; clear hb hbox hg; have hcz19_0 : w18.cell? ⟨gb208, 0, none⟩ = some (.slice A0_0 l0_0.length c0_0) := (blk_cell BK208.out 0).trans rfl; have hcz19_1 : w18.cell? ⟨gb208, 1, none⟩ = some (.int .i64 a0_1) := (blk_cell BK208.out 1).trans rfl; have hcz19_2 : w18.cell? ⟨gb208, 2, none⟩ = some (.int .i64 a0_2) := (blk_cell BK208.out 2).trans rfl; have hcz19_3 : w18.cell? ⟨gb208, 3, none⟩ = some (.int .i64 a0_3) := (blk_cell BK208.out 3).trans rfl; have hfz19_0 := blk_frozen BK208.out 0; have hfz19_1 := blk_frozen BK208.out 1; have hfz19_2 := blk_frozen BK208.out 2; have hfz19_3 := blk_frozen BK208.out 3) | ((with_reducible refine gate_callee (f := 42) rfl ?_); refine goesL_ (some 9) rfl rfl Try.func42 z7_36 rfl #[.agg #[.slice A0_0 l0_0.length c0_0, .int .i64 a0_1, .int .i64 a0_2, .int .i64 a0_3]] rfl z7_3 ?_; (with_reducible refine (impl_IsMarket.calls k _ _ l0_0 a0_1 a0_2 a0_3 false _ ?side1 ?side2 A2.out).mono ?_); (case side1 => have zh := (Kd.C_below HR0_0.out HB.out); exact z7_C); (case side2 => exact HC0_0.out); rintro e w20 ⟨rfl, hb⟩; refine ⟨_, rfl, ?_⟩; have n0_ := z7_A (blk_below (g := gb208) (o := .cells #[.slice A0_0 l0_0.length c0_0, .int .i64 a0_1, .int .i64 a0_2, .int .i64 a0_3] 30 (0, 0)) z7_8 hb); have n1_ := z7_A (below_step z7_4 hb); clear BK208 HB; revert n0_ n1_; intro BK208 HB; (try clear hb); (try clear hb2); (try clear hk); (try clear hi)))
  go_ret2
  exact ⟨_, z7_6, by first | exact Kd.R_nil _ _ _ _ _ | exact Kd.N_nil _ _ _ _ _ | exact Kd.V_nil _ _ _ _ _ | exact Kd.Q_nil _ _ _ _ _ | exact Kd.S_nil _ _ _ _ _, z7_4⟩

/-! ### laws_rBig: function 31 -/
def laws_rBig.f (l0 : List Int) : Option (Bool) := some (decide ((l0.length : Int) > 65536))
set_option maxHeartbeats 8000000 in
set_option maxRecDepth 100000 in
theorem laws_rBig.calls (A0 : Option Addr) (c0 : Nat) (l0 : List Int) (r : Bool) (w : World) (hr0 : Kd.C (Kd.int .u8) w A0 l0.length l0) (hc0 : l0.length ≤ c0) (h : laws_rBig.f l0 = some r) :
  Calls Try.prog 31 #[.slice A0 l0.length c0] w fun e w' => e = .returned (.bool r) ∧ Drawn0 w w' := by
 have HR0 := z7_A hr0
 have HC0 := z7_A hc0
 clear hr0 hc0
 have H : (some (decide ((l0.length : Int) > 65536))) = some r := h
 clear h
 obtain rfl := Option.some.inj H
 go_enter Try.func31, Try.ntmps31
 go_wp2
 go_ret
 exact ⟨z7_27, by repeat (first | exact Drawn0.refl _ | apply Drawn0.step)⟩

end Go.Proofs.Ytiniocecpgjikaa.PFnContracts
