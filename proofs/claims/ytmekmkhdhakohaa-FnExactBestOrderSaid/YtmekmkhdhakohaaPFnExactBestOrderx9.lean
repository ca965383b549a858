-- A text of this session (its program hook.py, over the kit's print.py): not a print of print.sh
-- THIN: one blank for two
import Derived.Test.YtmekmkhdhakohaaPFnExactBestOrderx0
import Derived.Test.YtmekmkhdhakohaaPFnExactBestOrderx5
import Derived.Test.YtmekmkhdhakohaaPFnExactBestOrderx7
import Derived.Test.YtmekmkhdhakohaaPFnExactBestOrderx8
namespace Go.Proofs.Ytmekmkhdhakohaa.PFnExactBestOrder
open Go.RowKit Go.Proofs.YtmekmkhdhakohaaW.PrintWords Go.Proofs.YtmekmkhdhakohaaW.PrintLast Go.Proofs.YtmekmkhdhakohaaW.PrintMore
attribute [local go_sem] max2_int min2_int max_two min_two max_three min_three max_four min_four   -- for this text's walks alone
set_option linter.unusedVariables false
set_option linter.unusedSimpArgs false

/-! ### impl_BestOrder: function 22 -/
def impl_BestOrder.j0 : Nat → Int → Int → Bool → Int → List Int → Int → Int → Int → Int → Option (Int × Bool)
 | 0, _, _, _, _, _, _, _, _, _ => none
 | k + 1, x1, x2, x18, x230000, x230001, x230002, x230003, x230004, x230005 => if x18 = true then (some (0, false)) else ((impl_Process_worths.f k x230000 x230001 x230002 x230003 x230004 x230005).bind fun t232 => (if 0 ≤ (wrap64 (x1 + 1)) then (if (wrap64 (x1 + 1)) < (t232.length : Int) then ((impl_Process_least.f k x230000 x230001 x230002 x230003 x230004 x230005 (wrap64 (x230000 - x1)) x2 ((rd_T94 t232 (wrap64 (x1 + 1))).f0) ((rd_T94 t232 (wrap64 (x1 + 1))).f1) ((rd_T94 t232 (wrap64 (x1 + 1))).f2) ((rd_T94 t232 (wrap64 (x1 + 1))).f3) ((rd_T94 t232 (wrap64 (x1 + 1))).f4) ((rd_T94 t232 (wrap64 (x1 + 1))).f5) ((rd_T94 t232 (wrap64 (x1 + 1))).f6) ((rd_T94 t232 (wrap64 (x1 + 1))).f7) ((rd_T94 t232 (wrap64 (x1 + 1))).f8) ((rd_T94 t232 (wrap64 (x1 + 1))).f9) ((rd_T94 t232 (wrap64 (x1 + 1))).f10) ((rd_T94 t232 (wrap64 (x1 + 1))).f11) ((rd_T94 t232 (wrap64 (x1 + 1))).f12) ((rd_T94 t232 (wrap64 (x1 + 1))).f13) ((rd_T94 t232 (wrap64 (x1 + 1))).f14) ((rd_T94 t232 (wrap64 (x1 + 1))).f15) ((rd_T94 t232 (wrap64 (x1 + 1))).f16) ((rd_T94 t232 (wrap64 (x1 + 1))).f17) ((rd_T94 t232 (wrap64 (x1 + 1))).f18) ((rd_T94 t232 (wrap64 (x1 + 1))).f19) ((rd_T94 t232 (wrap64 (x1 + 1))).f20)).bind fun bt236 => (some (bt236.2, true))) else (none)) else (none)))
def impl_BestOrder.f (k : Nat) (a0_0 : Int) (l0_1 : List Int) (a0_2 : Int) (a0_3 : Int) (a0_4 : Int) (a0_5 : Int) (a1 : Int) (a2 : Int) : Option (Int × Bool) := (impl_isTurn.f k a0_0 l0_1 a0_2 a0_3 a0_4 a0_5 a1).bind fun t230 => (if t230 = true then ((impl_isLevel.f a2).bind fun t231 => (impl_BestOrder.j0 k a1 a2 (!t231) a0_0 l0_1 a0_2 a0_3 a0_4 a0_5)) else (impl_BestOrder.j0 k a1 a2 true a0_0 l0_1 a0_2 a0_3 a0_4 a0_5))
theorem impl_BestOrder.mono_l : ∀ k, (∀ y0 y1 y2 y3 y4 y5 y6 y7 y8, LeO (impl_BestOrder.j0 k y0 y1 y2 y3 y4 y5 y6 y7 y8) (impl_BestOrder.j0 (k + 1) y0 y1 y2 y3 y4 y5 y6 y7 y8))
 | 0 => fun _ _ _ _ _ _ _ _ _ r h => by simp [impl_BestOrder.j0] at h
 | k + 1 => by
  have ih0 := impl_BestOrder.mono_l k
  ·intro y0 y1 y2 y3 y4 y5 y6 y7 y8
   unfold impl_BestOrder.j0
   repeat' first
   | (with_reducible exact ih0 _ _ _ _ _ _ _ _ _)
   | (with_reducible exact impl_Process_least.mono _ _ _ _ _ _ _ _ _ _ _ _ _ _ _ _ _ _ _ _ _ _ _ _ _ _ _ _ _ _)
   | (with_reducible exact impl_Process_worths.mono _ _ _ _ _ _ _)
   | (with_reducible exact impl_isTurn.mono _ _ _ _ _ _ _ _)
   | (with_reducible exact LeO.refl _)
   | (with_reducible exact LeO.none _)
   | (with_reducible refine LeO.ite ?_ ?_)
   | (with_reducible refine LeO.bind ?_ (fun _ => ?_))
   | exact ih0 _ _ _ _ _ _ _ _ _
   | exact impl_Process_least.mono _ _ _ _ _ _ _ _ _ _ _ _ _ _ _ _ _ _ _ _ _ _ _ _ _ _ _ _ _ _
   | exact impl_Process_worths.mono _ _ _ _ _ _ _
   | exact impl_isTurn.mono _ _ _ _ _ _ _ _
   | exact LeO.none _
   | refine LeO.ite ?_ ?_
   | refine LeO.bind ?_ (fun _ => ?_)
theorem impl_BestOrder.mono : ∀ a0 a1 a2 a3 a4 a5 a6 a7 k, LeO (impl_BestOrder.f k a0 a1 a2 a3 a4 a5 a6 a7) (impl_BestOrder.f (k + 1) a0 a1 a2 a3 a4 a5 a6 a7) := by
 intro a0 a1 a2 a3 a4 a5 a6 a7 k
 have ih0 := impl_BestOrder.mono_l k
 unfold impl_BestOrder.f
 repeat' first
   | (with_reducible exact ih0 _ _ _ _ _ _ _ _ _)
   | (with_reducible exact impl_Process_least.mono _ _ _ _ _ _ _ _ _ _ _ _ _ _ _ _ _ _ _ _ _ _ _ _ _ _ _ _ _ _)
   | (with_reducible exact impl_Process_worths.mono _ _ _ _ _ _ _)
   | (with_reducible exact impl_isTurn.mono _ _ _ _ _ _ _ _)
   | (with_reducible exact LeO.refl _)
   | (with_reducible exact LeO.none _)
   | (with_reducible refine LeO.ite ?_ ?_)
   | (with_reducible refine LeO.bind ?_ (fun _ => ?_))
   | exact ih0 _ _ _ _ _ _ _ _ _
   | exact impl_Process_least.mono _ _ _ _ _ _ _ _ _ _ _ _ _ _ _ _ _ _ _ _ _ _ _ _ _ _ _ _ _ _
   | exact impl_Process_worths.mono _ _ _ _ _ _ _
   | exact impl_isTurn.mono _ _ _ _ _ _ _ _
   | exact LeO.none _
   | refine LeO.ite ?_ ?_
   | refine LeO.bind ?_ (fun _ => ?_)
def impl_BestOrder.T3 : Bool × List (List Nat × List Nat) := (true, [([], []), ([], []), ([1], [1]), ([], []), ([2, 3], [2, 3]), ([], []), ([], []), ([6], [6]), ([], []), ([8], [8]), ([7, 9], [7, 9]), ([10], [10]), ([0, 4, 5, 11, 7], [0, 4, 5, 11]), ([12], [12]), ([13], [13]), ([13], [13]), ([14, 12, 0, 1, 2, 3, 4, 5, 6, 7, 8, 9, 10, 11, 12, 13, 14], [14]), ([15, 16, 0, 1, 2, 3, 4, 5, 6, 7, 8, 9, 10, 11, 12, 13, 14, 15, 16], [15])])
def impl_BestOrder.B3 : List Nat := [0, 0, 2, 0, 14, 0, 0, 64, 0, 256, 960, 1984, 4095, 8191, 16383, 16383, 32767, 131071]
theorem impl_BestOrder.tab3 : rtab .any (opsOf Try.f22 3) = impl_BestOrder.T3 := by kernel_rfl
theorem impl_BestOrder.bits3 : waitsOk impl_BestOrder.T3.2 impl_BestOrder.B3 = true := by kernel_rfl
set_option maxHeartbeats 8000000 in
set_option maxRecDepth 100000 in
theorem impl_BestOrder.calls (k : Nat) (a0_0 : Int) (A0_1 : Option Addr) (c0_1 : Nat) (l0_1 : List Int) (a0_2 : Int) (a0_3 : Int) (a0_4 : Int) (a0_5 : Int) (a1 : Int) (a2 : Int) (r1 : Int) (r2 : Bool) (w : World) (hr0_1 : Kd.C (Kd.int .i64) w A0_1 l0_1.length l0_1) (hc0_1 : l0_1.length ≤ c0_1) (h : impl_BestOrder.f k a0_0 l0_1 a0_2 a0_3 a0_4 a0_5 a1 a2 = some (r1, r2)) :
  Calls Try.prog 22 #[.agg #[.int .i64 a0_0, .slice A0_1 l0_1.length c0_1, .int .i64 a0_2, .int .i64 a0_3, .int .i64 a0_4, .int .i64 a0_5], .int .i64 a1, .int .i64 a2] w fun e w' => e = .returned (.tuple #[.int .i64 r1, .bool r2]) ∧ Below w.heap.size w w' := by
 have hu30 := Try.underlying30
 have hu94 := Try.underlying94
 have HR0_1 := Aside0.mk hr0_1
 have HC0_1 := Aside0.mk hc0_1
 clear hr0_1 hc0_1
 have HB := Aside0.mk (Below.refl w.heap.size w)
 have H : ((impl_isTurn.f k a0_0 l0_1 a0_2 a0_3 a0_4 a0_5 a1).bind fun t230 => (if t230 = true then ((impl_isLevel.f a2).bind fun t231 => (impl_BestOrder.j0 k a1 a2 (!t231) a0_0 l0_1 a0_2 a0_3 a0_4 a0_5)) else (impl_BestOrder.j0 k a1 a2 true a0_0 l0_1 a0_2 a0_3 a0_4 a0_5))) = some (r1, r2) := h
 clear h
 have HC4 := Aside0.mk H
 clear H
 go_enter Try.func22, Try.ntmps22
 go_upto_region 1 with (first | ((with_reducible refine gate_dst (N := 3) rfl ?_); refine box_event ?hg (N := 3) ?hd (cs := #[.int .i64 a0_0, .slice A0_1 l0_1.length c0_1, .int .i64 a0_2, .int .i64 a0_3, .int .i64 a0_4, .int .i64 a0_5]) (t := 30) ?hr ?_; (case hd => rfl); (case hg => rfl); (case hr => first | (go_simp; done) | (go_simp; rfl)); intro gb229 hg w5 hbox hb; have n0_ := Aside0.mk (below_step (by repeat (first | (with_reducible first | exact HB.out | apply below_alloc | apply pw_below_drewN | apply below_drew1) | exact HB.out)) hb); have n1_ := Aside0.mk (hbox); have n2_ := Aside0.mk ((by rw [hg]; exact (below_size (by repeat (first | (with_reducible first | exact HB.out | apply below_alloc | apply pw_below_drewN | apply below_drew1) | exact HB.out))) : w.heap.size ≤ gb229)); have n3_ := Aside0.mk ((by rw [hg]; exact (below_size (by repeat (first | (with_reducible first | exact HB.out | apply below_alloc | apply pw_below_drewN | apply below_drew1) | exact HB.out))) : w.heap.size ≤ gb229)); clear HB; have HB := n0_; have BK229 := n1_; have GW229 := n2_; have GE229 := n3_; clear n0_ n1_ n2_ n3_; clear hb hbox hg))
 (try simp only [Act.put, List.setIfInBounds_toArray, List.set_cons_zero, List.set_cons_succ])
 go_cut [18] (fun v18 wc => ∃ (kq : Nat) (x18_3 : Bool), v18 = .bool x18_3 ∧ Aside0 (impl_BestOrder.j0 kq a1 a2 x18_3 a0_0 l0_1 a0_2 a0_3 a0_4 a0_5 = some (r1, r2)) ∧ Aside0 (kq ≤ k) ∧ Aside0 (wc.heap[gb229]? = some (.cells #[.int .i64 a0_0, (.slice A0_1 l0_1.length c0_1), .int .i64 a0_2, .int .i64 a0_3, .int .i64 a0_4, .int .i64 a0_5] 30 (0, 0))) ∧ Aside0 (Below w.heap.size w wc))
 case first =>
  have H := HC4.out
  clear HC4
  replace H := Option.bind_eq_some_iff.mp H
  obtain ⟨t230, A60, H⟩ := H
  replace H : (if t230 = true then ((impl_isLevel.f a2).bind fun t231 => (impl_BestOrder.j0 k a1 a2 (!t231) a0_0 l0_1 a0_2 a0_3 a0_4 a0_5)) else (impl_BestOrder.j0 k a1 a2 true a0_0 l0_1 a0_2 a0_3 a0_4 a0_5)) = some (r1, r2) := H
  have A6 := Aside0.mk A60
  clear A60
  by_cases c7 : t230 = true
  ·subst c7
   have H1 : ((impl_isLevel.f a2).bind fun t231 => (impl_BestOrder.j0 k a1 a2 (!t231) a0_0 l0_1 a0_2 a0_3 a0_4 a0_5)) = some (r1, r2) := by rw [if_pos rfl] at H; exact H
   clear H
   have H := H1
   clear H1
   replace H := Option.bind_eq_some_iff.mp H
   obtain ⟨t231, A80, H⟩ := H
   replace H : (impl_BestOrder.j0 k a1 a2 (!t231) a0_0 l0_1 a0_2 a0_3 a0_4 a0_5) = some (r1, r2) := H
   have A8 := Aside0.mk A80
   clear A80
   have H' := Aside0.mk H
   clear H
   have hcz9_0 : w5.cell? ⟨gb229, 0, none⟩ = some (.int .i64 a0_0) := (blk_cell BK229.out 0).trans rfl
   have hcz9_1 : w5.cell? ⟨gb229, 1, none⟩ = some (.slice A0_1 l0_1.length c0_1) := (blk_cell BK229.out 1).trans rfl
   have hcz9_2 : w5.cell? ⟨gb229, 2, none⟩ = some (.int .i64 a0_2) := (blk_cell BK229.out 2).trans rfl
   have hcz9_3 : w5.cell? ⟨gb229, 3, none⟩ = some (.int .i64 a0_3) := (blk_cell BK229.out 3).trans rfl
   have hcz9_4 : w5.cell? ⟨gb229, 4, none⟩ = some (.int .i64 a0_4) := (blk_cell BK229.out 4).trans rfl
   have hcz9_5 : w5.cell? ⟨gb229, 5, none⟩ = some (.int .i64 a0_5) := (blk_cell BK229.out 5).trans rfl
   have hfz9_0 := blk_frozen BK229.out 0
   have hfz9_1 := blk_frozen BK229.out 1
   have hfz9_2 := blk_frozen BK229.out 2
   have hfz9_3 := blk_frozen BK229.out 3
   have hfz9_4 := blk_frozen BK229.out 4
   have hfz9_5 := blk_frozen BK229.out 5
   go_wp2_with (first | ((with_reducible refine gate_callee (f := 71) rfl ?_); refine goesL_ (some 12) rfl rfl Try.func71 (by kernel_rfl) rfl #[.agg #[.int .i64 a0_0, .slice A0_1 l0_1.length c0_1, .int .i64 a0_2, .int .i64 a0_3, .int .i64 a0_4, .int .i64 a0_5], .int .i64 a1] rfl (by (try simp only [List.map_toArray, List.map_cons, List.map_nil]); first | done | rfl | (simp only [List.length_drop, List.length_take]; rfl)) ?_; (with_reducible refine (impl_isTurn.calls k a0_0 _ _ l0_1 a0_2 a0_3 a0_4 a0_5 a1 true _ ?side1 ?side2 A6.out).mono ?_); (case side1 => repeat (first | exact (Kd.C_below HR0_1.out HB.out) | (with_reducible refine Kd.C_alloc ?_ _) | (with_reducible refine Kd.C_drewN ?_ _) | (with_reducible refine Kd.C_drew ?_))); (case side2 => exact HC0_1.out); rintro e w10 ⟨rfl, hb⟩; refine ⟨_, rfl, ?_⟩; have n0_ := Aside0.mk (blk_below (g := gb229) (o := .cells #[.int .i64 a0_0, .slice A0_1 l0_1.length c0_1, .int .i64 a0_2, .int .i64 a0_3, .int .i64 a0_4, .int .i64 a0_5] 30 (0, 0)) (by (with_reducible repeat (first | refine blk_drewN ?_ _ | refine blk_drew ?_ | refine blk_alloc ?_ _)); exact BK229.out) hb); have n1_ := Aside0.mk (below_step (by repeat (first | (with_reducible first | exact HB.out | apply below_alloc | apply pw_below_drewN | apply below_drew1 | refine below_set ?_ GE229.out) | exact HB.out)) hb); clear BK229; clear HB; have BK229 := n0_; have HB := n1_; clear n0_ n1_; (try clear hb); (try clear hb2); (try clear hk); (try clear hi)) | (go_at_call 73; (with_reducible refine (impl_isLevel.calls a2 t231 _ A8.out).mono ?_); rintro e w' ⟨rfl, ⟨nd, rfl⟩⟩))
   go_meet
   case rel => exact ⟨_, (!t231), (by first | rfl | (simp; done) | (simp [*]; done)), H', ⟨by first | omega | exact Nat.le_refl _⟩, ⟨by (with_reducible repeat (first | refine blk_drewN ?_ _ | refine blk_drew ?_ | refine blk_alloc ?_ _)); exact BK229.out⟩, ⟨by repeat (first | (with_reducible first | exact HB.out | apply below_alloc | apply pw_below_drewN | apply below_drew1 | refine below_set ?_ GE229.out) | exact HB.out)⟩⟩
  ·replace c7 := Bool.eq_false_iff.mpr c7
   subst c7
   have H1 : (impl_BestOrder.j0 k a1 a2 true a0_0 l0_1 a0_2 a0_3 a0_4 a0_5) = some (r1, r2) := by rw [if_neg (show ¬ (false = true) by decide)] at H; exact H
   clear H
   have H := H1
   clear H1
   have H' := Aside0.mk H
   clear H
   have hcz11_0 : w5.cell? ⟨gb229, 0, none⟩ = some (.int .i64 a0_0) := (blk_cell BK229.out 0).trans rfl
   have hcz11_1 : w5.cell? ⟨gb229, 1, none⟩ = some (.slice A0_1 l0_1.length c0_1) := (blk_cell BK229.out 1).trans rfl
   have hcz11_2 : w5.cell? ⟨gb229, 2, none⟩ = some (.int .i64 a0_2) := (blk_cell BK229.out 2).trans rfl
   have hcz11_3 : w5.cell? ⟨gb229, 3, none⟩ = some (.int .i64 a0_3) := (blk_cell BK229.out 3).trans rfl
   have hcz11_4 : w5.cell? ⟨gb229, 4, none⟩ = some (.int .i64 a0_4) := (blk_cell BK229.out 4).trans rfl
   have hcz11_5 : w5.cell? ⟨gb229, 5, none⟩ = some (.int .i64 a0_5) := (blk_cell BK229.out 5).trans rfl
   have hfz11_0 := blk_frozen BK229.out 0
   have hfz11_1 := blk_frozen BK229.out 1
   have hfz11_2 := blk_frozen BK229.out 2
   have hfz11_3 := blk_frozen BK229.out 3
   have hfz11_4 := blk_frozen BK229.out 4
   have hfz11_5 := blk_frozen BK229.out 5
   go_wp2_with (first | ((with_reducible refine gate_callee (f := 71) rfl ?_); refine goesL_ (some 12) rfl rfl Try.func71 (by kernel_rfl) rfl #[.agg #[.int .i64 a0_0, .slice A0_1 l0_1.length c0_1, .int .i64 a0_2, .int .i64 a0_3, .int .i64 a0_4, .int .i64 a0_5], .int .i64 a1] rfl (by (try simp only [List.map_toArray, List.map_cons, List.map_nil]); first | done | rfl | (simp only [List.length_drop, List.length_take]; rfl)) ?_; (with_reducible refine (impl_isTurn.calls k a0_0 _ _ l0_1 a0_2 a0_3 a0_4 a0_5 a1 false _ ?side1 ?side2 A6.out).mono ?_); (case side1 => repeat (first | exact (Kd.C_below HR0_1.out HB.out) | (with_reducible refine Kd.C_alloc ?_ _) | (with_reducible refine Kd.C_drewN ?_ _) | (with_reducible refine Kd.C_drew ?_))); (case side2 => exact HC0_1.out); rintro e w12 ⟨rfl, hb⟩; refine ⟨_, rfl, ?_⟩; have n0_ := Aside0.mk (blk_below (g := gb229) (o := .cells #[.int .i64 a0_0, .slice A0_1 l0_1.length c0_1, .int .i64 a0_2, .int .i64 a0_3, .int .i64 a0_4, .int .i64 a0_5] 30 (0, 0)) (by (with_reducible repeat (first | refine blk_drewN ?_ _ | refine blk_drew ?_ | refine blk_alloc ?_ _)); exact BK229.out) hb); have n1_ := Aside0.mk (below_step (by repeat (first | (with_reducible first | exact HB.out | apply below_alloc | apply pw_below_drewN | apply below_drew1 | refine below_set ?_ GE229.out) | exact HB.out)) hb); clear BK229; clear HB; have BK229 := n0_; have HB := n1_; clear n0_ n1_; (try clear hb); (try clear hb2); (try clear hk); (try clear hi)))
   go_meet
   case rel => exact ⟨_, (true), (by first | rfl | (simp; done) | (simp [*]; done)), H', ⟨by first | omega | exact Nat.le_refl _⟩, ⟨by (with_reducible repeat (first | refine blk_drewN ?_ _ | refine blk_drew ?_ | refine blk_alloc ?_ _)); exact BK229.out⟩, ⟨by repeat (first | (with_reducible first | exact HB.out | apply below_alloc | apply pw_below_drewN | apply below_drew1 | refine below_set ?_ GE229.out) | exact HB.out)⟩⟩
 case rest =>
  clear HC4
  try clear c2
  try clear p2
  try clear c7
  try clear hcz11_0
  try clear hcz11_1
  try clear hcz11_2
  try clear hcz11_3
  try clear hcz11_4
  try clear hcz11_5
  try clear hcz9_0
  try clear hcz9_1
  try clear hcz9_2
  try clear hcz9_3
  try clear hcz9_4
  try clear hcz9_5
  try clear hfz11_0
  try clear hfz11_1
  try clear hfz11_2
  try clear hfz11_3
  try clear hfz11_4
  try clear hfz11_5
  try clear hfz9_0
  try clear hfz9_1
  try clear hfz9_2
  try clear hfz9_3
  try clear hfz9_4
  try clear hfz9_5
  obtain ⟨kq, x18_3, rfl, HA, HJ3, BK229, HB⟩ := hcut
  cases kq with
  | zero => exact absurd HA.out (by simp [impl_BestOrder.j0])
  | succ kj3 =>
   have H := HA.out
   clear HA
   simp only [impl_BestOrder.j0] at H
   by_cases c13 : x18_3 = true
   ·subst c13
    have H1 : (some (0, false)) = some (r1, r2) := by rw [if_pos rfl] at H; exact H
    clear H
    have H := H1
    clear H1
    simp only [Option.some.injEq, Prod.mk.injEq] at H
    obtain ⟨rfl, rfl⟩ := H
    go_wp2
    go_ret2
    exact ⟨by first | rfl | (simp [errW_none, errW_some] <;> rfl) | (simp [*, errW_none, errW_some] <;> rfl), by repeat (first | (with_reducible first | exact HB.out | apply below_alloc | apply pw_below_drewN | apply below_drew1 | refine below_set ?_ GE229.out) | exact HB.out)⟩
   ·replace c13 := Bool.eq_false_iff.mpr c13
    subst c13
    have H1 : ((impl_Process_worths.f kj3 a0_0 l0_1 a0_2 a0_3 a0_4 a0_5).bind fun t232 => (if 0 ≤ (wrap64 (a1 + 1)) then (if (wrap64 (a1 + 1)) < (t232.length : Int) then ((impl_Process_least.f kj3 a0_0 l0_1 a0_2 a0_3 a0_4 a0_5 (wrap64 (a0_0 - a1)) a2 ((rd_T94 t232 (wrap64 (a1 + 1))).f0) ((rd_T94 t232 (wrap64 (a1 + 1))).f1) ((rd_T94 t232 (wrap64 (a1 + 1))).f2) ((rd_T94 t232 (wrap64 (a1 + 1))).f3) ((rd_T94 t232 (wrap64 (a1 + 1))).f4) ((rd_T94 t232 (wrap64 (a1 + 1))).f5) ((rd_T94 t232 (wrap64 (a1 + 1))).f6) ((rd_T94 t232 (wrap64 (a1 + 1))).f7) ((rd_T94 t232 (wrap64 (a1 + 1))).f8) ((rd_T94 t232 (wrap64 (a1 + 1))).f9) ((rd_T94 t232 (wrap64 (a1 + 1))).f10) ((rd_T94 t232 (wrap64 (a1 + 1))).f11) ((rd_T94 t232 (wrap64 (a1 + 1))).f12) ((rd_T94 t232 (wrap64 (a1 + 1))).f13) ((rd_T94 t232 (wrap64 (a1 + 1))).f14) ((rd_T94 t232 (wrap64 (a1 + 1))).f15) ((rd_T94 t232 (wrap64 (a1 + 1))).f16) ((rd_T94 t232 (wrap64 (a1 + 1))).f17) ((rd_T94 t232 (wrap64 (a1 + 1))).f18) ((rd_T94 t232 (wrap64 (a1 + 1))).f19) ((rd_T94 t232 (wrap64 (a1 + 1))).f20)).bind fun bt236 => (some (bt236.2, true))) else (none)) else (none))) = some (r1, r2) := by rw [if_neg (show ¬ (false = true) by decide)] at H; exact H
    clear H
    have H := H1
    clear H1
    replace H := Option.bind_eq_some_iff.mp H
    obtain ⟨t232, A140, H⟩ := H
    replace H : (if 0 ≤ (wrap64 (a1 + 1)) then (if (wrap64 (a1 + 1)) < (t232.length : Int) then ((impl_Process_least.f kj3 a0_0 l0_1 a0_2 a0_3 a0_4 a0_5 (wrap64 (a0_0 - a1)) a2 ((rd_T94 t232 (wrap64 (a1 + 1))).f0) ((rd_T94 t232 (wrap64 (a1 + 1))).f1) ((rd_T94 t232 (wrap64 (a1 + 1))).f2) ((rd_T94 t232 (wrap64 (a1 + 1))).f3) ((rd_T94 t232 (wrap64 (a1 + 1))).f4) ((rd_T94 t232 (wrap64 (a1 + 1))).f5) ((rd_T94 t232 (wrap64 (a1 + 1))).f6) ((rd_T94 t232 (wrap64 (a1 + 1))).f7) ((rd_T94 t232 (wrap64 (a1 + 1))).f8) ((rd_T94 t232 (wrap64 (a1 + 1))).f9) ((rd_T94 t232 (wrap64 (a1 + 1))).f10) ((rd_T94 t232 (wrap64 (a1 + 1))).f11) ((rd_T94 t232 (wrap64 (a1 + 1))).f12) ((rd_T94 t232 (wrap64 (a1 + 1))).f13) ((rd_T94 t232 (wrap64 (a1 + 1))).f14) ((rd_T94 t232 (wrap64 (a1 + 1))).f15) ((rd_T94 t232 (wrap64 (a1 + 1))).f16) ((rd_T94 t232 (wrap64 (a1 + 1))).f17) ((rd_T94 t232 (wrap64 (a1 + 1))).f18) ((rd_T94 t232 (wrap64 (a1 + 1))).f19) ((rd_T94 t232 (wrap64 (a1 + 1))).f20)).bind fun bt236 => (some (bt236.2, true))) else (none)) else (none)) = some (r1, r2) := H
    have A14 := Aside0.mk A140
    clear A140
    obtain ⟨ji15, hji15⟩ : ∃ j_ : Int, (wrap64 (a1 + 1)) = j_ := ⟨_, rfl⟩
    replace H : (if 0 ≤ (ji15) then (if (ji15) < (t232.length : Int) then ((impl_Process_least.f kj3 a0_0 l0_1 a0_2 a0_3 a0_4 a0_5 (wrap64 (a0_0 - a1)) a2 ((rd_T94 t232 (ji15)).f0) ((rd_T94 t232 (ji15)).f1) ((rd_T94 t232 (ji15)).f2) ((rd_T94 t232 (ji15)).f3) ((rd_T94 t232 (ji15)).f4) ((rd_T94 t232 (ji15)).f5) ((rd_T94 t232 (ji15)).f6) ((rd_T94 t232 (ji15)).f7) ((rd_T94 t232 (ji15)).f8) ((rd_T94 t232 (ji15)).f9) ((rd_T94 t232 (ji15)).f10) ((rd_T94 t232 (ji15)).f11) ((rd_T94 t232 (ji15)).f12) ((rd_T94 t232 (ji15)).f13) ((rd_T94 t232 (ji15)).f14) ((rd_T94 t232 (ji15)).f15) ((rd_T94 t232 (ji15)).f16) ((rd_T94 t232 (ji15)).f17) ((rd_T94 t232 (ji15)).f18) ((rd_T94 t232 (ji15)).f19) ((rd_T94 t232 (ji15)).f20)).bind fun bt236 => (some (bt236.2, true))) else (none)) else (none)) = some (r1, r2) := by first | (rw [hji15] at H; exact H) | (simp only [hji15] at H ⊢; exact H)
    (try rw [hji15] at A14)
    have hji15w : (IntKind.i64.wrap (a1 + 1)) = ji15 := (i64_w _).trans hji15
    by_cases c16 : 0 ≤ (ji15)
    ·rw [if_pos c16] at H
     have c16b0 : decide (0 ≤ (ji15)) = true := decide_eq_true c16
     clear c16
     by_cases c17 : (ji15) < (t232.length : Int)
     ·rw [if_pos c17] at H
      have c17b0 : decide ((ji15) < (t232.length : Int)) = true := decide_eq_true c17
      clear c17
      replace H := Option.bind_eq_some_iff.mp H
      obtain ⟨⟨t236, t237⟩, A180, H⟩ := H
      replace H : (some (t237, true)) = some (r1, r2) := H
      have A18 := Aside0.mk A180
      clear A180
      simp only [Option.some.injEq, Prod.mk.injEq] at H
      obtain ⟨rfl, rfl⟩ := H
      try go_wp2
      have n0_ := Aside0.mk (blk_drew BK229.out)
      have n1_ := Aside0.mk (below_drew1 HB.out)
      clear BK229
      clear HB
      have BK229 := n0_
      have HB := n1_
      clear n0_ n1_
      refine start_ (n := 18) (S := fun w' => w'.cell? ⟨gb229, 0, none⟩ = some (.int .i64 a0_0) ∧ w'.cell? ⟨gb229, 1, none⟩ = some (.slice A0_1 l0_1.length c0_1) ∧ w'.cell? ⟨gb229, 2, none⟩ = some (.int .i64 a0_2) ∧ w'.cell? ⟨gb229, 3, none⟩ = some (.int .i64 a0_3) ∧ w'.cell? ⟨gb229, 4, none⟩ = some (.int .i64 a0_4) ∧ w'.cell? ⟨gb229, 5, none⟩ = some (.int .i64 a0_5)) (ds := []) #[false, false, false, false, false, false, false, false, false, false, false, false, false, false, false, false, false, false] (by kernel_rfl) rfl rfl ⟨(blk_cell BK229.out 0).trans rfl, (blk_cell BK229.out 1).trans rfl, (blk_cell BK229.out 2).trans rfl, (blk_cell BK229.out 3).trans rfl, (blk_cell BK229.out 4).trans rfl, (blk_cell BK229.out 5).trans rfl⟩ (fun hHeld => ?_); refine with_tabW impl_BestOrder.tab3 impl_BestOrder.bits3 (fun HT_ HW_ => ?_)
      generalize wc.drew = w19 at BK229 HB hHeld ⊢
      refine pure_ (i := 1) (N := some 21) (v := ?_) (a' := ?_) #[false, true, false, false, false, false, false, false, false, false, false, false, false, false, false, false, false, false] rfl rfl (any_of HT_.out (by kernel_rfl)) (fun _ _ _ h => h) (Or.inl ⟨by rfl, ?_⟩) ?_ ?_
      rotate_left
      ·intro w'
       go_simp
       with_reducible rfl
      rotate_left
      ·simp only [Act.put, List.setIfInBounds_toArray, List.set_cons_zero, List.set_cons_succ, i64_w, i32_w]
       rfl
      refine pure_ (i := 3) (N := some 23) (v := ?_) (a' := ?_) #[false, true, false, true, false, false, false, false, false, false, false, false, false, false, false, false, false, false] rfl rfl (any_of HT_.out (by kernel_rfl)) (fun _ _ _ h => h) (Or.inl ⟨by rfl, ?_⟩) ?_ ?_
      rotate_left
      ·intro w'
       go_simp
       with_reducible rfl
      rotate_left
      ·simp only [Act.put, List.setIfInBounds_toArray, List.set_cons_zero, List.set_cons_succ, i64_w, i32_w]
       rfl
      refine pure_ (i := 5) (N := some 25) (v := ?_) (a' := ?_) #[false, true, false, true, false, true, false, false, false, false, false, false, false, false, false, false, false, false] rfl rfl (any_of HT_.out (by kernel_rfl)) (fun _ _ _ h => h) (Or.inl ⟨by rfl, ?_⟩) ?_ ?_
      rotate_left
      ·intro w'
       go_simp
       with_reducible rfl
      rotate_left
      ·simp only [Act.put, List.setIfInBounds_toArray, List.set_cons_zero, List.set_cons_succ, i64_w, i32_w]
       rfl
      refine pure_ (i := 8) (N := some 28) (v := ?_) (a' := ?_) #[false, true, false, true, false, true, false, false, true, false, false, false, false, false, false, false, false, false] rfl rfl (any_of HT_.out (by kernel_rfl)) (fun _ _ _ h => h) (Or.inl ⟨by rfl, ?_⟩) ?_ ?_
      rotate_left
      ·intro w'
       go_simp
       with_reducible rfl
      rotate_left
      ·simp only [Act.put, List.setIfInBounds_toArray, List.set_cons_zero, List.set_cons_succ, i64_w, i32_w]
       rfl
      refine pure_ (i := 9) (N := some 29) (v := ?_) (a' := ?_) #[false, true, false, true, false, true, false, false, true, true, false, false, false, false, false, false, false, false] rfl rfl (any_of HT_.out (by kernel_rfl)) (fun _ _ _ h => h) (Or.inl ⟨by rfl, ?_⟩) ?_ ?_
      rotate_left
      ·intro w'
       go_simp
       with_reducible rfl
      rotate_left
      ·simp only [Act.put, List.setIfInBounds_toArray, List.set_cons_zero, List.set_cons_succ, i64_w, i32_w]
       rfl
      refine take_ (i := 0) (N := some 20) (v := ?_) (a' := ?_) #[true, true, false, true, false, true, false, false, true, true, false, false, false, false, false, false, false, false] rfl rfl (take_ofW HT_.out HW_.out (by kernel_rfl)) (fun _ _ _ h => h) (Or.inl ⟨by rfl, ?_⟩) hHeld ?_ ?_
      rotate_left
      ·rintro w' ⟨s0, s1, s2, s3, s4, s5⟩
       first | (go_simp; with_reducible rfl)
      rotate_left
      ·simp only [Act.put, List.setIfInBounds_toArray, List.set_cons_zero, List.set_cons_succ, i64_w, i32_w]
       rfl
      refine take_ (i := 2) (N := some 22) (v := ?_) (a' := ?_) #[true, true, true, true, false, true, false, false, true, true, false, false, false, false, false, false, false, false] rfl rfl (take_ofW HT_.out HW_.out (by kernel_rfl)) (fun _ _ _ h => h) (Or.inl ⟨by rfl, ?_⟩) hHeld ?_ ?_
      rotate_left
      ·rintro w' ⟨s0, s1, s2, s3, s4, s5⟩
       first | (go_simp; with_reducible rfl)
      rotate_left
      ·simp only [Act.put, List.setIfInBounds_toArray, List.set_cons_zero, List.set_cons_succ, i64_w, i32_w]
       rfl
      refine pure_ (i := 4) (N := some 24) (v := ?_) (a' := ?_) #[true, true, true, true, true, true, false, false, true, true, false, false, false, false, false, false, false, false] rfl rfl (any_of HT_.out (by kernel_rfl)) (fun _ _ _ h => h) (Or.inl ⟨by rfl, ?_⟩) ?_ ?_
      rotate_left
      ·intro w'
       go_simp
       with_reducible rfl
      rotate_left
      ·simp only [Act.put, List.setIfInBounds_toArray, List.set_cons_zero, List.set_cons_succ, i64_w, i32_w]
       rfl
      refine take_ (i := 6) (N := some 26) (v := ?_) (a' := ?_) #[true, true, true, true, true, true, true, false, true, true, false, false, false, false, false, false, false, false] rfl rfl (take_ofW HT_.out HW_.out (by kernel_rfl)) (fun _ _ _ h => h) (Or.inl ⟨by rfl, ?_⟩) hHeld ?_ ?_
      rotate_left
      ·rintro w' ⟨s0, s1, s2, s3, s4, s5⟩
       first | (go_simp; with_reducible rfl)
      rotate_left
      ·simp only [Act.put, List.setIfInBounds_toArray, List.set_cons_zero, List.set_cons_succ, i64_w, i32_w]
       rfl
      refine one_ (i := 7) (N := some 27) #[true, true, true, true, true, true, true, true, true, true, false, false, false, false, false, false, false, false] rfl rfl (one_of HT_.out (by kernel_rfl)) (by decide) (fun K hK => ?_)
      refine goes_ Try.func80 (by kernel_rfl) rfl #[.agg #[.int .i64 a0_0, .slice A0_1 l0_1.length c0_1, .int .i64 a0_2, .int .i64 a0_3, .int .i64 a0_4, .int .i64 a0_5]] (by rfl) rfl rfl (by (try simp only [List.map_toArray, List.map_cons, List.map_nil]); first | done | rfl | (simp only [List.length_drop, List.length_take]; rfl)) ?_
      with_reducible refine (impl_Process_worths.calls kj3 a0_0 _ _ l0_1 a0_2 a0_3 a0_4 a0_5 t232 _ ?side1 ?side2 A14.out).mono ?_
      (case side1 => repeat (first | exact (Kd.C_below HR0_1.out HB.out) | (with_reducible refine Kd.C_alloc ?_ _) | (with_reducible refine Kd.C_drewN ?_ _) | (with_reducible refine Kd.C_drew ?_)))
      (case side2 => exact HC0_1.out)
      rintro e w20 ⟨v233, rfl, ho0, hb⟩
      refine ⟨_, rfl, ?_⟩
      have n0_ := Aside0.mk (Kd.R_lower ho0 (below_size (by repeat (first | (with_reducible first | exact HB.out | apply below_alloc | apply pw_below_drewN | apply below_drew1 | refine below_set ?_ GE229.out) | exact HB.out))))
      have n1_ := Aside0.mk (blk_below (g := gb229) (o := .cells #[.int .i64 a0_0, .slice A0_1 l0_1.length c0_1, .int .i64 a0_2, .int .i64 a0_3, .int .i64 a0_4, .int .i64 a0_5] 30 (0, 0)) (by (with_reducible repeat (first | refine blk_drewN ?_ _ | refine blk_drew ?_ | refine blk_alloc ?_ _)); exact BK229.out) hb)
      have n2_ := Aside0.mk (below_step (by repeat (first | (with_reducible first | exact HB.out | apply below_alloc | apply pw_below_drewN | apply below_drew1 | refine below_set ?_ GE229.out) | exact HB.out)) hb)
      clear BK229
      clear HB
      have HO234 := n0_
      have BK229 := n1_
      have HB := n2_
      clear n0_ n1_ n2_
      (try clear hb)
      (try clear hb2)
      (try clear hk)
      (try clear hi)
      (try clear ho0)
      obtain ⟨Ao21, co21, eo21⟩ := Kd.R_slice HO234.out
      (first | subst eo21 | (injection eo21 with f1_ f2_ f3_; have f4_ := f1_.symm; have f5_ := f3_.symm; clear f1_ f2_ f3_; subst f4_; subst f5_))
      have p235 : 0 ≤ ((ji15) : Int) := of_decide_eq_true (by first | (with_reducible assumption) | assumption)
      have q235 : (ji15) < (t232.length : Int) := of_decide_eq_true (by first | (with_reducible assumption) | assumption)
      obtain ⟨ad235, e235, hx235_0, hx235_1, hx235_2, hx235_3, hx235_4, hx235_5, hx235_6, hx235_7, hx235_8, hx235_9, hx235_10, hx235_11, hx235_12, hx235_13, hx235_14, hx235_15, hx235_16, hx235_17, hx235_18, hx235_19, hx235_20⟩ := at_T94 (Kd.R_reads' HO234.out).2.2 (ji15) p235 q235
      cases e235
      replace p235 := eq_true p235
      replace q235 := eq_true q235
      refine hK.out _ _ ⟨(blk_cell BK229.out 0).trans rfl, (blk_cell BK229.out 1).trans rfl, (blk_cell BK229.out 2).trans rfl, (blk_cell BK229.out 3).trans rfl, (blk_cell BK229.out 4).trans rfl, (blk_cell BK229.out 5).trans rfl⟩ (fun hHeld => ?_)
      refine more_ (S' := fun w' => w'.cell? ⟨gb229, 0, none⟩ = some (.int .i64 a0_0) ∧ w'.cell? ⟨gb229, 1, none⟩ = some (.slice A0_1 l0_1.length c0_1) ∧ w'.cell? ⟨gb229, 2, none⟩ = some (.int .i64 a0_2) ∧ w'.cell? ⟨gb229, 3, none⟩ = some (.int .i64 a0_3) ∧ w'.cell? ⟨gb229, 4, none⟩ = some (.int .i64 a0_4) ∧ w'.cell? ⟨gb229, 5, none⟩ = some (.int .i64 a0_5) ∧ w'.cell? (ad235.add (((ji15)).toNat * 21)) = some (.int .i64 ((rd_T94 t232 (ji15)).f0)) ∧ w'.cell? ⟨(ad235.add (((ji15)).toNat * 21)).block, (ad235.add (((ji15)).toNat * 21)).off + 1, none⟩ = some (.int .i64 ((rd_T94 t232 (ji15)).f1)) ∧ w'.cell? ⟨(ad235.add (((ji15)).toNat * 21)).block, (ad235.add (((ji15)).toNat * 21)).off + 2, none⟩ = some (.int .i64 ((rd_T94 t232 (ji15)).f2)) ∧ w'.cell? ⟨(ad235.add (((ji15)).toNat * 21)).block, (ad235.add (((ji15)).toNat * 21)).off + 3, none⟩ = some (.int .i64 ((rd_T94 t232 (ji15)).f3)) ∧ w'.cell? ⟨(ad235.add (((ji15)).toNat * 21)).block, (ad235.add (((ji15)).toNat * 21)).off + 4, none⟩ = some (.int .i64 ((rd_T94 t232 (ji15)).f4)) ∧ w'.cell? ⟨(ad235.add (((ji15)).toNat * 21)).block, (ad235.add (((ji15)).toNat * 21)).off + 5, none⟩ = some (.int .i64 ((rd_T94 t232 (ji15)).f5)) ∧ w'.cell? ⟨(ad235.add (((ji15)).toNat * 21)).block, (ad235.add (((ji15)).toNat * 21)).off + 6, none⟩ = some (.int .i64 ((rd_T94 t232 (ji15)).f6)) ∧ w'.cell? ⟨(ad235.add (((ji15)).toNat * 21)).block, (ad235.add (((ji15)).toNat * 21)).off + 7, none⟩ = some (.int .i64 ((rd_T94 t232 (ji15)).f7)) ∧ w'.cell? ⟨(ad235.add (((ji15)).toNat * 21)).block, (ad235.add (((ji15)).toNat * 21)).off + 8, none⟩ = some (.int .i64 ((rd_T94 t232 (ji15)).f8)) ∧ w'.cell? ⟨(ad235.add (((ji15)).toNat * 21)).block, (ad235.add (((ji15)).toNat * 21)).off + 9, none⟩ = some (.int .i64 ((rd_T94 t232 (ji15)).f9)) ∧ w'.cell? ⟨(ad235.add (((ji15)).toNat * 21)).block, (ad235.add (((ji15)).toNat * 21)).off + 10, none⟩ = some (.int .i64 ((rd_T94 t232 (ji15)).f10)) ∧ w'.cell? ⟨(ad235.add (((ji15)).toNat * 21)).block, (ad235.add (((ji15)).toNat * 21)).off + 11, none⟩ = some (.int .i64 ((rd_T94 t232 (ji15)).f11)) ∧ w'.cell? ⟨(ad235.add (((ji15)).toNat * 21)).block, (ad235.add (((ji15)).toNat * 21)).off + 12, none⟩ = some (.int .i64 ((rd_T94 t232 (ji15)).f12)) ∧ w'.cell? ⟨(ad235.add (((ji15)).toNat * 21)).block, (ad235.add (((ji15)).toNat * 21)).off + 13, none⟩ = some (.int .i64 ((rd_T94 t232 (ji15)).f13)) ∧ w'.cell? ⟨(ad235.add (((ji15)).toNat * 21)).block, (ad235.add (((ji15)).toNat * 21)).off + 14, none⟩ = some (.int .i64 ((rd_T94 t232 (ji15)).f14)) ∧ w'.cell? ⟨(ad235.add (((ji15)).toNat * 21)).block, (ad235.add (((ji15)).toNat * 21)).off + 15, none⟩ = some (.int .i64 ((rd_T94 t232 (ji15)).f15)) ∧ w'.cell? ⟨(ad235.add (((ji15)).toNat * 21)).block, (ad235.add (((ji15)).toNat * 21)).off + 16, none⟩ = some (.int .i64 ((rd_T94 t232 (ji15)).f16)) ∧ w'.cell? ⟨(ad235.add (((ji15)).toNat * 21)).block, (ad235.add (((ji15)).toNat * 21)).off + 17, none⟩ = some (.int .i64 ((rd_T94 t232 (ji15)).f17)) ∧ w'.cell? ⟨(ad235.add (((ji15)).toNat * 21)).block, (ad235.add (((ji15)).toNat * 21)).off + 18, none⟩ = some (.int .i64 ((rd_T94 t232 (ji15)).f18)) ∧ w'.cell? ⟨(ad235.add (((ji15)).toNat * 21)).block, (ad235.add (((ji15)).toNat * 21)).off + 19, none⟩ = some (.int .i64 ((rd_T94 t232 (ji15)).f19)) ∧ w'.cell? ⟨(ad235.add (((ji15)).toNat * 21)).block, (ad235.add (((ji15)).toNat * 21)).off + 20, none⟩ = some (.int .i64 ((rd_T94 t232 (ji15)).f20))) (fun w' h_ => ⟨h_.1, h_.2.1, h_.2.2.1, h_.2.2.2.1, h_.2.2.2.2.1, h_.2.2.2.2.2.1⟩) ⟨hHeld.1, hHeld.2.1, hHeld.2.2.1, hHeld.2.2.2.1, hHeld.2.2.2.2.1, hHeld.2.2.2.2.2, hx235_0, hx235_1, hx235_2, hx235_3, hx235_4, hx235_5, hx235_6, hx235_7, hx235_8, hx235_9, hx235_10, hx235_11, hx235_12, hx235_13, hx235_14, hx235_15, hx235_16, hx235_17, hx235_18, hx235_19, hx235_20⟩ (fun hHeld => ?_)
      clear hK K
      refine norm_ (a' := ?_) ?_ ?_
      rotate_left
      ·show Act.put _ (some 27) _ = _
       simp only [Act.put, List.setIfInBounds_toArray, List.set_cons_zero, List.set_cons_succ, i64_w, i32_w]
       rfl
      refine pure_ (i := 10) (N := some 30) (v := ?_) (a' := ?_) #[true, true, true, true, true, true, true, true, true, true, true, false, false, false, false, false, false, false] rfl rfl (any_of HT_.out (by kernel_rfl)) (fun _ _ _ h => h) (Or.inl ⟨by rfl, ?_⟩) ?_ ?_
      rotate_left
      ·intro w'
       go_simp
       with_reducible rfl
      rotate_left
      ·simp only [Act.put, List.setIfInBounds_toArray, List.set_cons_zero, List.set_cons_succ, i64_w, i32_w]
       rfl
      refine take_ (i := 11) (N := some 31) (v := ?_) (a' := ?_) #[true, true, true, true, true, true, true, true, true, true, true, true, false, false, false, false, false, false] rfl rfl (take_ofW HT_.out HW_.out (by kernel_rfl)) (fun _ _ _ h => h) (Or.inl ⟨by rfl, ?_⟩) hHeld ?_ ?_
      rotate_left
      ·rintro w' ⟨s0, s1, s2, s3, s4, s5, s6, s7, s8, s9, s10, s11, s12, s13, s14, s15, s16, s17, s18, s19, s20, s21, s22, s23, s24, s25, s26⟩
       first | (refine (loadA94 (by exact rfl) (by exact rfl) s6 s7 s8 s9 s10 s11 s12 s13 s14 s15 s16 s17 s18 s19 s20 s21 s22 s23 s24 s25 s26).trans ?_; with_reducible rfl) | (go_simp; with_reducible rfl)
      rotate_left
      ·simp only [Act.put, List.setIfInBounds_toArray, List.set_cons_zero, List.set_cons_succ, i64_w, i32_w]
       rfl
      refine one_ (i := 12) (N := some 32) #[true, true, true, true, true, true, true, true, true, true, true, true, true, false, false, false, false, false] rfl rfl (one_of HT_.out (by kernel_rfl)) (by decide) (fun K hK => ?_)
      refine goes_ Try.func79 (by kernel_rfl) rfl #[.agg #[.int .i64 a0_0, .slice A0_1 l0_1.length c0_1, .int .i64 a0_2, .int .i64 a0_3, .int .i64 a0_4, .int .i64 a0_5], .int .i64 (wrap64 (a0_0 - a1)), .int .i64 a2, .agg #[.int .i64 ((rd_T94 t232 (ji15)).f0), .int .i64 ((rd_T94 t232 (ji15)).f1), .int .i64 ((rd_T94 t232 (ji15)).f2), .int .i64 ((rd_T94 t232 (ji15)).f3), .int .i64 ((rd_T94 t232 (ji15)).f4), .int .i64 ((rd_T94 t232 (ji15)).f5), .int .i64 ((rd_T94 t232 (ji15)).f6), .int .i64 ((rd_T94 t232 (ji15)).f7), .int .i64 ((rd_T94 t232 (ji15)).f8), .int .i64 ((rd_T94 t232 (ji15)).f9), .int .i64 ((rd_T94 t232 (ji15)).f10), .int .i64 ((rd_T94 t232 (ji15)).f11), .int .i64 ((rd_T94 t232 (ji15)).f12), .int .i64 ((rd_T94 t232 (ji15)).f13), .int .i64 ((rd_T94 t232 (ji15)).f14), .int .i64 ((rd_T94 t232 (ji15)).f15), .int .i64 ((rd_T94 t232 (ji15)).f16), .int .i64 ((rd_T94 t232 (ji15)).f17), .int .i64 ((rd_T94 t232 (ji15)).f18), .int .i64 ((rd_T94 t232 (ji15)).f19), .int .i64 ((rd_T94 t232 (ji15)).f20)]] (by rfl) rfl rfl (by (try simp only [List.map_toArray, List.map_cons, List.map_nil]); first | done | (simp only [hji15]; rfl) | rfl | (simp only [List.length_drop, List.length_take]; rfl)) ?_
      with_reducible refine (impl_Process_least.calls kj3 a0_0 _ _ l0_1 a0_2 a0_3 a0_4 a0_5 (wrap64 (a0_0 - a1)) a2 ((rd_T94 t232 (ji15)).f0) ((rd_T94 t232 (ji15)).f1) ((rd_T94 t232 (ji15)).f2) ((rd_T94 t232 (ji15)).f3) ((rd_T94 t232 (ji15)).f4) ((rd_T94 t232 (ji15)).f5) ((rd_T94 t232 (ji15)).f6) ((rd_T94 t232 (ji15)).f7) ((rd_T94 t232 (ji15)).f8) ((rd_T94 t232 (ji15)).f9) ((rd_T94 t232 (ji15)).f10) ((rd_T94 t232 (ji15)).f11) ((rd_T94 t232 (ji15)).f12) ((rd_T94 t232 (ji15)).f13) ((rd_T94 t232 (ji15)).f14) ((rd_T94 t232 (ji15)).f15) ((rd_T94 t232 (ji15)).f16) ((rd_T94 t232 (ji15)).f17) ((rd_T94 t232 (ji15)).f18) ((rd_T94 t232 (ji15)).f19) ((rd_T94 t232 (ji15)).f20) t236 t237 _ ?side1 ?side2 A18.out).mono ?_
      (case side1 => repeat (first | exact (Kd.C_below HR0_1.out HB.out) | (with_reducible refine Kd.C_alloc ?_ _) | (with_reducible refine Kd.C_drewN ?_ _) | (with_reducible refine Kd.C_drew ?_)))
      (case side2 => exact HC0_1.out)
      rintro e w22 ⟨rfl, hb⟩
      have HS6_ := (hb.cell (World.block_lt_of_cell? _ _ (hHeld.2.2.2.2.2.2.1))).trans (hHeld.2.2.2.2.2.2.1)
      have HS7_ := (hb.cell (World.block_lt_of_cell? _ _ (hHeld.2.2.2.2.2.2.2.1))).trans (hHeld.2.2.2.2.2.2.2.1)
      have HS8_ := (hb.cell (World.block_lt_of_cell? _ _ (hHeld.2.2.2.2.2.2.2.2.1))).trans (hHeld.2.2.2.2.2.2.2.2.1)
      have HS9_ := (hb.cell (World.block_lt_of_cell? _ _ (hHeld.2.2.2.2.2.2.2.2.2.1))).trans (hHeld.2.2.2.2.2.2.2.2.2.1)
      have HS10_ := (hb.cell (World.block_lt_of_cell? _ _ (hHeld.2.2.2.2.2.2.2.2.2.2.1))).trans (hHeld.2.2.2.2.2.2.2.2.2.2.1)
      have HS11_ := (hb.cell (World.block_lt_of_cell? _ _ (hHeld.2.2.2.2.2.2.2.2.2.2.2.1))).trans (hHeld.2.2.2.2.2.2.2.2.2.2.2.1)
      have HS12_ := (hb.cell (World.block_lt_of_cell? _ _ (hHeld.2.2.2.2.2.2.2.2.2.2.2.2.1))).trans (hHeld.2.2.2.2.2.2.2.2.2.2.2.2.1)
      have HS13_ := (hb.cell (World.block_lt_of_cell? _ _ (hHeld.2.2.2.2.2.2.2.2.2.2.2.2.2.1))).trans (hHeld.2.2.2.2.2.2.2.2.2.2.2.2.2.1)
      have HS14_ := (hb.cell (World.block_lt_of_cell? _ _ (hHeld.2.2.2.2.2.2.2.2.2.2.2.2.2.2.1))).trans (hHeld.2.2.2.2.2.2.2.2.2.2.2.2.2.2.1)
      have HS15_ := (hb.cell (World.block_lt_of_cell? _ _ (hHeld.2.2.2.2.2.2.2.2.2.2.2.2.2.2.2.1))).trans (hHeld.2.2.2.2.2.2.2.2.2.2.2.2.2.2.2.1)
      have HS16_ := (hb.cell (World.block_lt_of_cell? _ _ (hHeld.2.2.2.2.2.2.2.2.2.2.2.2.2.2.2.2.1))).trans (hHeld.2.2.2.2.2.2.2.2.2.2.2.2.2.2.2.2.1)
      have HS17_ := (hb.cell (World.block_lt_of_cell? _ _ (hHeld.2.2.2.2.2.2.2.2.2.2.2.2.2.2.2.2.2.1))).trans (hHeld.2.2.2.2.2.2.2.2.2.2.2.2.2.2.2.2.2.1)
      have HS18_ := (hb.cell (World.block_lt_of_cell? _ _ (hHeld.2.2.2.2.2.2.2.2.2.2.2.2.2.2.2.2.2.2.1))).trans (hHeld.2.2.2.2.2.2.2.2.2.2.2.2.2.2.2.2.2.2.1)
      have HS19_ := (hb.cell (World.block_lt_of_cell? _ _ (hHeld.2.2.2.2.2.2.2.2.2.2.2.2.2.2.2.2.2.2.2.1))).trans (hHeld.2.2.2.2.2.2.2.2.2.2.2.2.2.2.2.2.2.2.2.1)
      have HS20_ := (hb.cell (World.block_lt_of_cell? _ _ (hHeld.2.2.2.2.2.2.2.2.2.2.2.2.2.2.2.2.2.2.2.2.1))).trans (hHeld.2.2.2.2.2.2.2.2.2.2.2.2.2.2.2.2.2.2.2.2.1)
      have HS21_ := (hb.cell (World.block_lt_of_cell? _ _ (hHeld.2.2.2.2.2.2.2.2.2.2.2.2.2.2.2.2.2.2.2.2.2.1))).trans (hHeld.2.2.2.2.2.2.2.2.2.2.2.2.2.2.2.2.2.2.2.2.2.1)
      have HS22_ := (hb.cell (World.block_lt_of_cell? _ _ (hHeld.2.2.2.2.2.2.2.2.2.2.2.2.2.2.2.2.2.2.2.2.2.2.1))).trans (hHeld.2.2.2.2.2.2.2.2.2.2.2.2.2.2.2.2.2.2.2.2.2.2.1)
      have HS23_ := (hb.cell (World.block_lt_of_cell? _ _ (hHeld.2.2.2.2.2.2.2.2.2.2.2.2.2.2.2.2.2.2.2.2.2.2.2.1))).trans (hHeld.2.2.2.2.2.2.2.2.2.2.2.2.2.2.2.2.2.2.2.2.2.2.2.1)
      have HS24_ := (hb.cell (World.block_lt_of_cell? _ _ (hHeld.2.2.2.2.2.2.2.2.2.2.2.2.2.2.2.2.2.2.2.2.2.2.2.2.1))).trans (hHeld.2.2.2.2.2.2.2.2.2.2.2.2.2.2.2.2.2.2.2.2.2.2.2.2.1)
      have HS25_ := (hb.cell (World.block_lt_of_cell? _ _ (hHeld.2.2.2.2.2.2.2.2.2.2.2.2.2.2.2.2.2.2.2.2.2.2.2.2.2.1))).trans (hHeld.2.2.2.2.2.2.2.2.2.2.2.2.2.2.2.2.2.2.2.2.2.2.2.2.2.1)
      have HS26_ := (hb.cell (World.block_lt_of_cell? _ _ (hHeld.2.2.2.2.2.2.2.2.2.2.2.2.2.2.2.2.2.2.2.2.2.2.2.2.2.2))).trans (hHeld.2.2.2.2.2.2.2.2.2.2.2.2.2.2.2.2.2.2.2.2.2.2.2.2.2.2)
      refine ⟨_, rfl, ?_⟩
      have n0_ := Aside0.mk (Kd.R_below (by (with_reducible repeat (first | apply Kd.R_alloc | apply Kd.R_drewN | apply Kd.R_drew)); exact HO234.out) hb)
      have n1_ := Aside0.mk (blk_below (g := gb229) (o := .cells #[.int .i64 a0_0, .slice A0_1 l0_1.length c0_1, .int .i64 a0_2, .int .i64 a0_3, .int .i64 a0_4, .int .i64 a0_5] 30 (0, 0)) (by (with_reducible repeat (first | refine blk_drewN ?_ _ | refine blk_drew ?_ | refine blk_alloc ?_ _)); exact BK229.out) hb)
      have n2_ := Aside0.mk (below_step (by repeat (first | (with_reducible first | exact HB.out | apply below_alloc | apply pw_below_drewN | apply below_drew1 | refine below_set ?_ GE229.out) | exact HB.out)) hb)
      clear HO234
      clear BK229
      clear HB
      have HO234 := n0_
      have BK229 := n1_
      have HB := n2_
      clear n0_ n1_ n2_
      (try clear hb)
      (try clear hb2)
      (try clear hk)
      (try clear hi)
      refine hK.out _ _ ⟨(blk_cell BK229.out 0).trans rfl, (blk_cell BK229.out 1).trans rfl, (blk_cell BK229.out 2).trans rfl, (blk_cell BK229.out 3).trans rfl, (blk_cell BK229.out 4).trans rfl, (blk_cell BK229.out 5).trans rfl, HS6_, HS7_, HS8_, HS9_, HS10_, HS11_, HS12_, HS13_, HS14_, HS15_, HS16_, HS17_, HS18_, HS19_, HS20_, HS21_, HS22_, HS23_, HS24_, HS25_, HS26_⟩ (fun hHeld => ?_)
      clear hK K
      refine norm_ (a' := ?_) ?_ ?_
      rotate_left
      ·show Act.put _ (some 32) _ = _
       simp only [Act.put, List.setIfInBounds_toArray, List.set_cons_zero, List.set_cons_succ, i64_w, i32_w]
       rfl
      refine pure_ (i := 13) (N := some 19) (v := ?_) (a' := ?_) #[true, true, true, true, true, true, true, true, true, true, true, true, true, true, false, false, false, false] rfl rfl (any_of HT_.out (by kernel_rfl)) (fun _ _ _ h => h) (Or.inl ⟨by rfl, ?_⟩) ?_ ?_
      rotate_left
      ·intro w'
       go_simp
       with_reducible rfl
      rotate_left
      ·simp only [Act.put, List.setIfInBounds_toArray, List.set_cons_zero, List.set_cons_succ, i64_w, i32_w]
       rfl
      refine pure_ (i := 14) (N := some 33) (v := ?_) (a' := ?_) #[true, true, true, true, true, true, true, true, true, true, true, true, true, true, true, false, false, false] rfl rfl (any_of HT_.out (by kernel_rfl)) (fun _ _ _ h => h) (Or.inl ⟨by rfl, ?_⟩) ?_ ?_
      rotate_left
      ·intro w'
       go_simp
       with_reducible rfl
      rotate_left
      ·simp only [Act.put, List.setIfInBounds_toArray, List.set_cons_zero, List.set_cons_succ, i64_w, i32_w]
       rfl
      refine pure_ (i := 15) (N := some 34) (v := ?_) (a' := ?_) #[true, true, true, true, true, true, true, true, true, true, true, true, true, true, true, true, false, false] rfl rfl (any_of HT_.out (by kernel_rfl)) (fun _ _ _ h => h) (Or.inl ⟨by rfl, ?_⟩) ?_ ?_
      rotate_left
      ·intro w'
       go_simp
       with_reducible rfl
      rotate_left
      ·simp only [Act.put, List.setIfInBounds_toArray, List.set_cons_zero, List.set_cons_succ, i64_w, i32_w]
       rfl
      refine pure_ (i := 16) (N := some 8) (v := ?_) (a' := ?_) #[true, true, true, true, true, true, true, true, true, true, true, true, true, true, true, true, true, false] rfl rfl (any_of HT_.out (by kernel_rfl)) (fun _ _ _ h => h) (Or.inl ⟨by rfl, ?_⟩) ?_ ?_
      rotate_left
      ·intro w'
       go_simp
       with_reducible rfl
      rotate_left
      ·simp only [Act.put, List.setIfInBounds_toArray, List.set_cons_zero, List.set_cons_succ, i64_w, i32_w]
       rfl
      refine pure_ (i := 17) (N := some 9) (v := ?_) (a' := ?_) #[true, true, true, true, true, true, true, true, true, true, true, true, true, true, true, true, true, true] rfl rfl (any_of HT_.out (by kernel_rfl)) (fun _ _ _ h => h) (Or.inl ⟨by rfl, ?_⟩) ?_ ?_
      rotate_left
      ·intro w'
       go_simp
       with_reducible rfl
      rotate_left
      ·simp only [Act.put, List.setIfInBounds_toArray, List.set_cons_zero, List.set_cons_succ, i64_w, i32_w]
       rfl
      refine done_ (done_of HT_.out (by kernel_rfl)) ?_
      try go_wp2
      go_ret2
      exact ⟨by first | rfl | (simp [errW_none, errW_some] <;> rfl) | (simp only [← hji15]; first | rfl | (simp [errW_none, errW_some] <;> rfl)) | (simp [*, errW_none, errW_some] <;> rfl), by repeat (first | (with_reducible first | exact HB.out | apply below_alloc | apply pw_below_drewN | apply below_drew1 | refine below_set ?_ GE229.out) | exact HB.out)⟩
     ·rw [if_neg c17] at H
      exact absurd H (by simp)
    ·rw [if_neg c16] at H
     exact absurd H (by simp)

end Go.Proofs.Ytmekmkhdhakohaa.PFnExactBestOrder
