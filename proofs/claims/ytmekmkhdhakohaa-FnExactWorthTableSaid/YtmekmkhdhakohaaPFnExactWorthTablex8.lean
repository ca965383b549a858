-- A text of this session (its program hook.py, over the kit's print.py): not a print of print.sh
-- THIN: one blank for two
import Derived.Test.YtmekmkhdhakohaaPFnExactWorthTablex0
import Derived.Test.YtmekmkhdhakohaaPFnExactWorthTablex5
import Derived.Test.YtmekmkhdhakohaaPFnExactWorthTablex7
namespace Go.Proofs.Ytmekmkhdhakohaa.PFnExactWorthTable
open Go.RowKit Go.Proofs.YtmekmkhdhakohaaW.PrintWords Go.Proofs.YtmekmkhdhakohaaW.PrintLast Go.Proofs.YtmekmkhdhakohaaW.PrintMore
attribute [local go_sem] max2_int min2_int max_two min_two max_three min_three max_four min_four   -- for this text's walks alone
set_option linter.unusedVariables false
set_option linter.unusedSimpArgs false

/-! ### impl_Process_worths: function 80 -/
mutual
def impl_Process_worths.l0 : Nat → List (S94) → Int → Int → List Int → Int → Int → Int → Int → Option ((List (S94)))
 | 0, _, _, _, _, _, _, _, _ => none
 | k + 1, x3, x4, x217000, x217001, x217002, x217003, x217004, x217005 => if x4 ≥ 0 then (impl_Process_worths.l1 k x3 x4 (-10) x217000 x217001 x217002 x217003 x217004 x217005) else (some x3)
def impl_Process_worths.l1 : Nat → List (S94) → Int → Int → Int → List Int → Int → Int → Int → Int → Option ((List (S94)))
 | 0, _, _, _, _, _, _, _, _, _ => none
 | k + 1, x3, x4, x5, x217000, x217001, x217002, x217003, x217004, x217005 => if x5 ≤ 10 then (if 0 ≤ (wrap64 (x4 + 1)) then (if (wrap64 (x4 + 1)) < (x3.length : Int) then ((impl_Process_least.f k x217000 x217001 x217002 x217003 x217004 x217005 (wrap64 (x217000 - x4)) x5 ((rd_T94 x3 (wrap64 (x4 + 1))).f0) ((rd_T94 x3 (wrap64 (x4 + 1))).f1) ((rd_T94 x3 (wrap64 (x4 + 1))).f2) ((rd_T94 x3 (wrap64 (x4 + 1))).f3) ((rd_T94 x3 (wrap64 (x4 + 1))).f4) ((rd_T94 x3 (wrap64 (x4 + 1))).f5) ((rd_T94 x3 (wrap64 (x4 + 1))).f6) ((rd_T94 x3 (wrap64 (x4 + 1))).f7) ((rd_T94 x3 (wrap64 (x4 + 1))).f8) ((rd_T94 x3 (wrap64 (x4 + 1))).f9) ((rd_T94 x3 (wrap64 (x4 + 1))).f10) ((rd_T94 x3 (wrap64 (x4 + 1))).f11) ((rd_T94 x3 (wrap64 (x4 + 1))).f12) ((rd_T94 x3 (wrap64 (x4 + 1))).f13) ((rd_T94 x3 (wrap64 (x4 + 1))).f14) ((rd_T94 x3 (wrap64 (x4 + 1))).f15) ((rd_T94 x3 (wrap64 (x4 + 1))).f16) ((rd_T94 x3 (wrap64 (x4 + 1))).f17) ((rd_T94 x3 (wrap64 (x4 + 1))).f18) ((rd_T94 x3 (wrap64 (x4 + 1))).f19) ((rd_T94 x3 (wrap64 (x4 + 1))).f20)).bind fun bt221 => (if 0 ≤ x4 then (if x4 < (x3.length : Int) then (if 0 ≤ (wrap64 (x5 + 10)) then (if (wrap64 (x5 + 10)) < 21 then (impl_Process_worths.l1 k (x3.set (x4 : Int).toNat (putA94 (rd_T94 x3 x4) ((wrap64 (x5 + 10)) : Int).toNat bt221.1)) x4 (wrap64 (x5 + 1)) x217000 x217001 x217002 x217003 x217004 x217005) else (none)) else (none)) else (none)) else (none))) else (none)) else (none)) else (impl_Process_worths.l0 k x3 (wrap64 (x4 - 1)) x217000 x217001 x217002 x217003 x217004 x217005)
end
def impl_Process_worths.f (k : Nat) (a0_0 : Int) (l0_1 : List Int) (a0_2 : Int) (a0_3 : Int) (a0_4 : Int) (a0_5 : Int) : Option ((List (S94))) := if 0 ≤ (wrap64 (a0_0 + 1)) then (if (wrap64 (a0_0 + 1) : Int).toNat ≤ 1675446289944 then (impl_Process_worths.l0 k (List.replicate (wrap64 (a0_0 + 1) : Int).toNat z94) (wrap64 (a0_0 - 1)) a0_0 l0_1 a0_2 a0_3 a0_4 a0_5) else (none)) else (none)
theorem impl_Process_worths.mono_l : ∀ k, (∀ y0 y1 y2 y3 y4 y5 y6 y7, LeO (impl_Process_worths.l0 k y0 y1 y2 y3 y4 y5 y6 y7) (impl_Process_worths.l0 (k + 1) y0 y1 y2 y3 y4 y5 y6 y7)) ∧ (∀ y0 y1 y2 y3 y4 y5 y6 y7 y8, LeO (impl_Process_worths.l1 k y0 y1 y2 y3 y4 y5 y6 y7 y8) (impl_Process_worths.l1 (k + 1) y0 y1 y2 y3 y4 y5 y6 y7 y8))
 | 0 => ⟨fun _ _ _ _ _ _ _ _ r h => by simp [impl_Process_worths.l0] at h, fun _ _ _ _ _ _ _ _ _ r h => by simp [impl_Process_worths.l1] at h⟩
 | k + 1 => by
  obtain ⟨ih0, ih1⟩ := impl_Process_worths.mono_l k
  refine ⟨?_, ?_⟩
  ·intro y0 y1 y2 y3 y4 y5 y6 y7
   unfold impl_Process_worths.l0
   repeat' first
   | (with_reducible exact ih0 _ _ _ _ _ _ _ _)
   | (with_reducible exact ih1 _ _ _ _ _ _ _ _ _)
   | (with_reducible exact impl_Process_least.mono _ _ _ _ _ _ _ _ _ _ _ _ _ _ _ _ _ _ _ _ _ _ _ _ _ _ _ _ _ _)
   | (with_reducible exact LeO.refl _)
   | (with_reducible exact LeO.none _)
   | (with_reducible refine LeO.ite ?_ ?_)
   | (with_reducible refine LeO.bind ?_ (fun _ => ?_))
   | exact ih0 _ _ _ _ _ _ _ _
   | exact ih1 _ _ _ _ _ _ _ _ _
   | exact impl_Process_least.mono _ _ _ _ _ _ _ _ _ _ _ _ _ _ _ _ _ _ _ _ _ _ _ _ _ _ _ _ _ _
   | exact LeO.none _
   | refine LeO.ite ?_ ?_
   | refine LeO.bind ?_ (fun _ => ?_)
  ·intro y0 y1 y2 y3 y4 y5 y6 y7 y8
   unfold impl_Process_worths.l1
   repeat' first
   | (with_reducible exact ih0 _ _ _ _ _ _ _ _)
   | (with_reducible exact ih1 _ _ _ _ _ _ _ _ _)
   | (with_reducible exact impl_Process_least.mono _ _ _ _ _ _ _ _ _ _ _ _ _ _ _ _ _ _ _ _ _ _ _ _ _ _ _ _ _ _)
   | (with_reducible exact LeO.refl _)
   | (with_reducible exact LeO.none _)
   | (with_reducible refine LeO.ite ?_ ?_)
   | (with_reducible refine LeO.bind ?_ (fun _ => ?_))
   | exact ih0 _ _ _ _ _ _ _ _
   | exact ih1 _ _ _ _ _ _ _ _ _
   | exact impl_Process_least.mono _ _ _ _ _ _ _ _ _ _ _ _ _ _ _ _ _ _ _ _ _ _ _ _ _ _ _ _ _ _
   | exact LeO.none _
   | refine LeO.ite ?_ ?_
   | refine LeO.bind ?_ (fun _ => ?_)
theorem impl_Process_worths.mono : ∀ a0 a1 a2 a3 a4 a5 k, LeO (impl_Process_worths.f k a0 a1 a2 a3 a4 a5) (impl_Process_worths.f (k + 1) a0 a1 a2 a3 a4 a5) := by
 intro a0 a1 a2 a3 a4 a5 k
 obtain ⟨ih0, ih1⟩ := impl_Process_worths.mono_l k
 unfold impl_Process_worths.f
 repeat' first
   | (with_reducible exact ih0 _ _ _ _ _ _ _ _)
   | (with_reducible exact ih1 _ _ _ _ _ _ _ _ _)
   | (with_reducible exact impl_Process_least.mono _ _ _ _ _ _ _ _ _ _ _ _ _ _ _ _ _ _ _ _ _ _ _ _ _ _ _ _ _ _)
   | (with_reducible exact LeO.refl _)
   | (with_reducible exact LeO.none _)
   | (with_reducible refine LeO.ite ?_ ?_)
   | (with_reducible refine LeO.bind ?_ (fun _ => ?_))
   | exact ih0 _ _ _ _ _ _ _ _
   | exact ih1 _ _ _ _ _ _ _ _ _
   | exact impl_Process_least.mono _ _ _ _ _ _ _ _ _ _ _ _ _ _ _ _ _ _ _ _ _ _ _ _ _ _ _ _ _ _
   | exact LeO.none _
   | refine LeO.ite ?_ ?_
   | refine LeO.bind ?_ (fun _ => ?_)
def impl_Process_worths.T8 : Bool × List (List Nat × List Nat) := (true, [([], []), ([], []), ([], []), ([2], [2]), ([], []), ([], []), ([5], [5]), ([], []), ([6, 7], [6, 7]), ([], []), ([], []), ([], []), ([11], [11]), ([10, 12], [10, 12]), ([13], [13]), ([4, 8, 9, 14], [4, 8, 9, 14]), ([15], [15]), ([16], [16]), ([16], [16]), ([0, 1], [0, 1]), ([19, 3, 0, 1, 2, 3, 4, 5, 6, 7, 8, 9, 10, 11, 12, 13, 14, 15, 16, 17], [3, 19]), ([20, 17, 15, 0, 1, 2, 3, 4, 5, 6, 7, 8, 9, 10, 11, 12, 13, 14, 15, 16, 17], [17, 20])])
def impl_Process_worths.B8 : List Nat := [0, 0, 0, 4, 0, 0, 32, 0, 224, 0, 0, 0, 2048, 7168, 15360, 32752, 65520, 131056, 131056, 3, 786431, 1835007]
theorem impl_Process_worths.tab8 : rtab .any (opsOf Try.f80 8) = impl_Process_worths.T8 := by kernel_rfl
theorem impl_Process_worths.bits8 : waitsOk impl_Process_worths.T8.2 impl_Process_worths.B8 = true := by kernel_rfl
set_option maxHeartbeats 8000000 in
set_option maxRecDepth 100000 in
theorem impl_Process_worths.calls (k : Nat) (a0_0 : Int) (A0_1 : Option Addr) (c0_1 : Nat) (l0_1 : List Int) (a0_2 : Int) (a0_3 : Int) (a0_4 : Int) (a0_5 : Int) (r : List (S94)) (w : World) (hr0_1 : Kd.C (Kd.int .i64) w A0_1 l0_1.length l0_1) (hc0_1 : l0_1.length ≤ c0_1) (h : impl_Process_worths.f k a0_0 l0_1 a0_2 a0_3 a0_4 a0_5 = some r) :
  Calls Try.prog 80 #[.agg #[.int .i64 a0_0, .slice A0_1 l0_1.length c0_1, .int .i64 a0_2, .int .i64 a0_3, .int .i64 a0_4, .int .i64 a0_5]] w fun e w' => ∃ v0_ : Value, e = .returned (v0_) ∧ Kd.R k94 94 w' w.heap.size (fun _ => True) v0_ r ∧ Below w.heap.size w w' := by
 have hu30 := Try.underlying30
 have hu94 := Try.underlying94
 have HR0_1 := Aside0.mk hr0_1
 have HC0_1 := Aside0.mk hc0_1
 clear hr0_1 hc0_1
 have HB := Aside0.mk (Below.refl w.heap.size w)
 have H : (if 0 ≤ (wrap64 (a0_0 + 1)) then (if (wrap64 (a0_0 + 1) : Int).toNat ≤ 1675446289944 then (impl_Process_worths.l0 k (List.replicate (wrap64 (a0_0 + 1) : Int).toNat z94) (wrap64 (a0_0 - 1)) a0_0 l0_1 a0_2 a0_3 a0_4 a0_5) else (none)) else (none)) = some r := h
 clear h
 obtain ⟨ji2, hji2⟩ : ∃ j_ : Int, (wrap64 (a0_0 + 1)) = j_ := ⟨_, rfl⟩
 replace H : (if 0 ≤ (ji2) then (if (ji2 : Int).toNat ≤ 1675446289944 then (impl_Process_worths.l0 k (List.replicate (ji2 : Int).toNat z94) (wrap64 (a0_0 - 1)) a0_0 l0_1 a0_2 a0_3 a0_4 a0_5) else (none)) else (none)) = some r := by first | (rw [hji2] at H; exact H) | (simp only [hji2] at H ⊢; exact H)
 have hji2w : (IntKind.i64.wrap (a0_0 + 1)) = ji2 := (i64_w _).trans hji2
 by_cases c3 : 0 ≤ (ji2)
 ·rw [if_pos c3] at H
  have c3b0 := eq_true c3
  have c3b1 : decide (0 ≤ (ji2)) = true := decide_eq_true c3
  clear c3
  by_cases c4 : (ji2 : Int).toNat ≤ 1675446289944
  ·rw [if_pos c4] at H
   have c4b0 := eq_true c4
   have c4b1 : decide ((ji2 : Int).toNat ≤ 1675446289944) = true := decide_eq_true c4
   clear c4
   obtain ⟨y217, hy217⟩ : ∃ y_ : List (S94), y_ = (List.replicate (ji2 : Int).toNat z94) := ⟨_, rfl⟩
   replace H : (impl_Process_worths.l0 k y217 (wrap64 (a0_0 - 1)) a0_0 l0_1 a0_2 a0_3 a0_4 a0_5) = some r := by first | (rw [hy217]; with_reducible exact H) | (have H2_ := (Option.bind_some _ _).symm.trans H; rw [hy217]; with_reducible exact H2_) | (have H2_ := (Option.bind_some _ _).symm.trans H; with_reducible exact H2_) | with_reducible exact H | (rw [hy217]; exact H) | exact H
   have Ny217 := Aside0.mk hy217
   clear hy217
   have H' := Aside0.mk H
   clear H
   go_enter Try.func80, Try.ntmps80
   go_wp2_with (first | ((with_reducible refine gate_dst (N := 1) rfl ?_); refine box_event ?hg (N := 1) ?hd (cs := #[.int .i64 a0_0, .slice A0_1 l0_1.length c0_1, .int .i64 a0_2, .int .i64 a0_3, .int .i64 a0_4, .int .i64 a0_5]) (t := 30) ?hr ?_; (case hd => rfl); (case hg => rfl); (case hr => first | (go_simp; done) | (go_simp; rfl)); intro gb216 hg w5 hbox hb; have n0_ := Aside0.mk (below_step (by repeat (first | (with_reducible first | exact HB.out | apply below_alloc | apply pw_below_drewN | apply below_drew1) | exact HB.out)) hb); have n1_ := Aside0.mk (hbox); have n2_ := Aside0.mk ((by rw [hg]; exact (below_size (by repeat (first | (with_reducible first | exact HB.out | apply below_alloc | apply pw_below_drewN | apply below_drew1) | exact HB.out))) : w.heap.size ≤ gb216)); have n3_ := Aside0.mk ((by rw [hg]; exact (below_size (by repeat (first | (with_reducible first | exact HB.out | apply below_alloc | apply pw_below_drewN | apply below_drew1) | exact HB.out))) : w.heap.size ≤ gb216)); clear HB; have HB := n0_; have BK216 := n1_; have GW216 := n2_; have GE216 := n3_; clear n0_ n1_ n2_ n3_; clear hb hbox hg; have hcz6_0 : w5.cell? ⟨gb216, 0, none⟩ = some (.int .i64 a0_0) := (blk_cell BK216.out 0).trans rfl; have hcz6_1 : w5.cell? ⟨gb216, 1, none⟩ = some (.slice A0_1 l0_1.length c0_1) := (blk_cell BK216.out 1).trans rfl; have hcz6_2 : w5.cell? ⟨gb216, 2, none⟩ = some (.int .i64 a0_2) := (blk_cell BK216.out 2).trans rfl; have hcz6_3 : w5.cell? ⟨gb216, 3, none⟩ = some (.int .i64 a0_3) := (blk_cell BK216.out 3).trans rfl; have hcz6_4 : w5.cell? ⟨gb216, 4, none⟩ = some (.int .i64 a0_4) := (blk_cell BK216.out 4).trans rfl; have hcz6_5 : w5.cell? ⟨gb216, 5, none⟩ = some (.int .i64 a0_5) := (blk_cell BK216.out 5).trans rfl; have hfz6_0 := blk_frozen BK216.out 0; have hfz6_1 := blk_frozen BK216.out 1; have hfz6_2 := blk_frozen BK216.out 2; have hfz6_3 := blk_frozen BK216.out 3; have hfz6_4 := blk_frozen BK216.out 4; have hfz6_5 := blk_frozen BK216.out 5) | ((with_reducible refine gate_dst (N := 9) rfl ?_); refine Kd.R_make k94 _ 94 rfl (N := 9) rfl 95 _ _ rfl ji2 rfl rfl Try.underlying95 (.agg #[(.int .i64 0), (.int .i64 0), (.int .i64 0), (.int .i64 0), (.int .i64 0), (.int .i64 0), (.int .i64 0), (.int .i64 0), (.int .i64 0), (.int .i64 0), (.int .i64 0), (.int .i64 0), (.int .i64 0), (.int .i64 0), (.int .i64 0), (.int .i64 0), (.int .i64 0), (.int .i64 0), (.int .i64 0), (.int .i64 0), (.int .i64 0)]) 168 info94 rfl (by decide) (by omega) z94 (ok := fun _ => True) (okp := fun _ => True) (k94_mkM _ _ _ z94 ) (fun _ hk => hk) trivial (of_decide_eq_true (by first | (with_reducible assumption) | assumption)) (Nat.le_trans (Nat.mul_le_mul_right _ (of_decide_eq_true (by first | (with_reducible assumption) | assumption) : ji2.toNat ≤ 1675446289944)) (by omega)) (Below.refl _ _) (Nat.le_refl _) ?_; intro v218 w7 ho8 hb hg_ hnew_; clear hg_ hnew_; (first | rw [← Ny217.out] at ho8 | (simp only [Int.reduceToNat] at ho8; rw [← Ny217.out] at ho8)); have n0_ := Aside0.mk (Kd.R_lower ho8 (below_size (by repeat (first | (with_reducible first | exact HB.out | apply below_alloc | apply pw_below_drewN | apply below_drew1 | refine below_set ?_ GE216.out) | exact HB.out)))); have n1_ := Aside0.mk (blk_below (g := gb216) (o := .cells #[.int .i64 a0_0, .slice A0_1 l0_1.length c0_1, .int .i64 a0_2, .int .i64 a0_3, .int .i64 a0_4, .int .i64 a0_5] 30 (0, 0)) (by (with_reducible repeat (first | refine blk_drewN ?_ _ | refine blk_drew ?_ | refine blk_alloc ?_ _)); exact BK216.out) hb); have n2_ := Aside0.mk (below_step (by repeat (first | (with_reducible first | exact HB.out | apply below_alloc | apply pw_below_drewN | apply below_drew1 | refine below_set ?_ GE216.out) | exact HB.out)) hb); clear BK216; clear HB; have HO219 := n0_; have BK216 := n1_; have HB := n2_; clear n0_ n1_ n2_; clear hb ho8; have hcz9_0 : w7.cell? ⟨gb216, 0, none⟩ = some (.int .i64 a0_0) := (blk_cell BK216.out 0).trans rfl; have hcz9_1 : w7.cell? ⟨gb216, 1, none⟩ = some (.slice A0_1 l0_1.length c0_1) := (blk_cell BK216.out 1).trans rfl; have hcz9_2 : w7.cell? ⟨gb216, 2, none⟩ = some (.int .i64 a0_2) := (blk_cell BK216.out 2).trans rfl; have hcz9_3 : w7.cell? ⟨gb216, 3, none⟩ = some (.int .i64 a0_3) := (blk_cell BK216.out 3).trans rfl; have hcz9_4 : w7.cell? ⟨gb216, 4, none⟩ = some (.int .i64 a0_4) := (blk_cell BK216.out 4).trans rfl; have hcz9_5 : w7.cell? ⟨gb216, 5, none⟩ = some (.int .i64 a0_5) := (blk_cell BK216.out 5).trans rfl; have hfz9_0 := blk_frozen BK216.out 0; have hfz9_1 := blk_frozen BK216.out 1; have hfz9_2 := blk_frozen BK216.out 2; have hfz9_3 := blk_frozen BK216.out 3; have hfz9_4 := blk_frozen BK216.out 4; have hfz9_5 := blk_frozen BK216.out 5))
   go_loopg [4] k (fun kq v4 w' => ∃ (x3_1 : List (S94)) (x4_1 : Int), v4 = .int .i64 x4_1 ∧ Aside0 (impl_Process_worths.l0 kq x3_1 x4_1 a0_0 l0_1 a0_2 a0_3 a0_4 a0_5 = some r) ∧ Aside0 (kq ≤ k) ∧ Aside0 (Kd.R k94 94 w' w.heap.size (fun _ => True) v218 x3_1) ∧ Aside0 (w'.heap[gb216]? = some (.cells #[.int .i64 a0_0, (.slice A0_1 l0_1.length c0_1), .int .i64 a0_2, .int .i64 a0_3, .int .i64 a0_4, .int .i64 a0_5] 30 (0, 0))) ∧ Aside0 (Below w.heap.size w w'))
   case atStart => as_aux_lemma => exact ⟨(y217), (wrap64 (a0_0 - 1)), (by first | rfl | (simp; done) | (simp [*]; done)), H', ⟨Nat.le_refl _⟩, ⟨by (with_reducible repeat (first | apply Kd.R_alloc | apply Kd.R_drewN | apply Kd.R_drew)); exact HO219.out⟩, ⟨by (with_reducible repeat (first | refine blk_drewN ?_ _ | refine blk_drew ?_ | refine blk_alloc ?_ _)); exact BK216.out⟩, ⟨by repeat (first | (with_reducible first | exact HB.out | apply below_alloc | apply pw_below_drewN | apply below_drew1 | refine below_set ?_ GE216.out) | exact HB.out)⟩⟩
   case round => as_aux_lemma =>
    clear H'
    try clear p2
    try clear c3
    try clear c3b0
    try clear c3b1
    try clear c4
    try clear c4b0
    try clear c4b1
    try clear p6
    try clear c8
    try clear hcz6_0
    try clear hcz6_1
    try clear hcz6_2
    try clear hcz6_3
    try clear hcz6_4
    try clear hcz6_5
    try clear hcz9_0
    try clear hcz9_1
    try clear hcz9_2
    try clear hcz9_3
    try clear hcz9_4
    try clear hcz9_5
    try clear hfz6_0
    try clear hfz6_1
    try clear hfz6_2
    try clear hfz6_3
    try clear hfz6_4
    try clear hfz6_5
    try clear hfz9_0
    try clear hfz9_1
    try clear hfz9_2
    try clear hfz9_3
    try clear hfz9_4
    try clear hfz9_5
    obtain ⟨x3_1, x4_1, rfl, HA, HK1, HO_3, BK216, HB⟩ := hrel
    cases gk with
    | zero => exact absurd HA.out (by simp [impl_Process_worths.l0])
    | succ k1 =>
     have H := HA.out
     clear HA
     simp only [impl_Process_worths.l0] at H
     by_cases c10 : x4_1 ≥ 0
     ·rw [if_pos c10] at H
      have c10b0 : decide (0 ≤ x4_1) = true := decide_eq_true c10
      clear c10
      have H' := Aside0.mk H
      clear H
      go_wp2
      go_loopg [5] k1 (fun kq v5 w' => ∃ (x3_2 : List (S94)) (x5_2 : Int), v5 = .int .i64 x5_2 ∧ Aside0 (impl_Process_worths.l1 kq x3_2 x4_1 x5_2 a0_0 l0_1 a0_2 a0_3 a0_4 a0_5 = some r) ∧ Aside0 (kq ≤ k1) ∧ Aside0 (Kd.R k94 94 w' w.heap.size (fun _ => True) v218 x3_2) ∧ Aside0 (w'.heap[gb216]? = some (.cells #[.int .i64 a0_0, (.slice A0_1 l0_1.length c0_1), .int .i64 a0_2, .int .i64 a0_3, .int .i64 a0_4, .int .i64 a0_5] 30 (0, 0))) ∧ Aside0 (Below w.heap.size w w'))
      case atStart => as_aux_lemma => exact ⟨(x3_1), ((-10)), (by first | rfl | (simp; done) | (simp [*]; done)), H', ⟨Nat.le_refl _⟩, ⟨by (with_reducible repeat (first | apply Kd.R_alloc | apply Kd.R_drewN | apply Kd.R_drew)); exact HO_3.out⟩, ⟨by (with_reducible repeat (first | refine blk_drewN ?_ _ | refine blk_drew ?_ | refine blk_alloc ?_ _)); exact BK216.out⟩, ⟨by repeat (first | (with_reducible first | exact HB.out | apply below_alloc | apply pw_below_drewN | apply below_drew1 | refine below_set ?_ GE216.out) | exact HB.out)⟩⟩
      case round => as_aux_lemma =>
       clear H'
       try clear c1
       try clear p2
       try clear c3
       try clear c3b0
       try clear c3b1
       try clear c4
       try clear c4b0
       try clear c4b1
       try clear p6
       try clear c8
       try clear c10
       try clear c10b0
       try clear hcz6_0
       try clear hcz6_1
       try clear hcz6_2
       try clear hcz6_3
       try clear hcz6_4
       try clear hcz6_5
       try clear hcz9_0
       try clear hcz9_1
       try clear hcz9_2
       try clear hcz9_3
       try clear hcz9_4
       try clear hcz9_5
       try clear hfz6_0
       try clear hfz6_1
       try clear hfz6_2
       try clear hfz6_3
       try clear hfz6_4
       try clear hfz6_5
       try clear hfz9_0
       try clear hfz9_1
       try clear hfz9_2
       try clear hfz9_3
       try clear hfz9_4
       try clear hfz9_5
       try clear p2
       try clear p6
       obtain ⟨x3_2, x5_2, rfl, HA, HK2, HO_3, BK216, HB⟩ := hrel
       cases gk with
       | zero => exact absurd HA.out (by simp [impl_Process_worths.l1])
       | succ k2 =>
        have H := HA.out
        clear HA
        simp only [impl_Process_worths.l1] at H
        by_cases c11 : x5_2 ≤ 10
        ·rw [if_pos c11] at H
         have c11b0 : decide (x5_2 ≤ 10) = true := decide_eq_true c11
         clear c11
         obtain ⟨ji12, hji12⟩ : ∃ j_ : Int, (wrap64 (x4_1 + 1)) = j_ := ⟨_, rfl⟩
         replace H : (if 0 ≤ (ji12) then (if (ji12) < (x3_2.length : Int) then ((impl_Process_least.f k2 a0_0 l0_1 a0_2 a0_3 a0_4 a0_5 (wrap64 (a0_0 - x4_1)) x5_2 ((rd_T94 x3_2 (ji12)).f0) ((rd_T94 x3_2 (ji12)).f1) ((rd_T94 x3_2 (ji12)).f2) ((rd_T94 x3_2 (ji12)).f3) ((rd_T94 x3_2 (ji12)).f4) ((rd_T94 x3_2 (ji12)).f5) ((rd_T94 x3_2 (ji12)).f6) ((rd_T94 x3_2 (ji12)).f7) ((rd_T94 x3_2 (ji12)).f8) ((rd_T94 x3_2 (ji12)).f9) ((rd_T94 x3_2 (ji12)).f10) ((rd_T94 x3_2 (ji12)).f11) ((rd_T94 x3_2 (ji12)).f12) ((rd_T94 x3_2 (ji12)).f13) ((rd_T94 x3_2 (ji12)).f14) ((rd_T94 x3_2 (ji12)).f15) ((rd_T94 x3_2 (ji12)).f16) ((rd_T94 x3_2 (ji12)).f17) ((rd_T94 x3_2 (ji12)).f18) ((rd_T94 x3_2 (ji12)).f19) ((rd_T94 x3_2 (ji12)).f20)).bind fun bt221 => (if 0 ≤ x4_1 then (if x4_1 < (x3_2.length : Int) then (if 0 ≤ (wrap64 (x5_2 + 10)) then (if (wrap64 (x5_2 + 10)) < 21 then (impl_Process_worths.l1 k2 (x3_2.set (x4_1 : Int).toNat (putA94 (rd_T94 x3_2 x4_1) ((wrap64 (x5_2 + 10)) : Int).toNat bt221.1)) x4_1 (wrap64 (x5_2 + 1)) a0_0 l0_1 a0_2 a0_3 a0_4 a0_5) else (none)) else (none)) else (none)) else (none))) else (none)) else (none)) = some r := by first | (rw [hji12] at H; exact H) | (simp only [hji12] at H ⊢; exact H)
         have hji12w : (IntKind.i64.wrap (x4_1 + 1)) = ji12 := (i64_w _).trans hji12
         by_cases c13 : 0 ≤ (ji12)
         ·rw [if_pos c13] at H
          have c13b0 : decide (0 ≤ (ji12)) = true := decide_eq_true c13
          clear c13
          by_cases c14 : (ji12) < (x3_2.length : Int)
          ·rw [if_pos c14] at H
           have c14b0 : decide ((ji12) < (x3_2.length : Int)) = true := decide_eq_true c14
           clear c14
           replace H := Option.bind_eq_some_iff.mp H
           obtain ⟨⟨t221, t222⟩, A150, H⟩ := H
           replace H : (if 0 ≤ x4_1 then (if x4_1 < (x3_2.length : Int) then (if 0 ≤ (wrap64 (x5_2 + 10)) then (if (wrap64 (x5_2 + 10)) < 21 then (impl_Process_worths.l1 k2 (x3_2.set (x4_1 : Int).toNat (putA94 (rd_T94 x3_2 x4_1) ((wrap64 (x5_2 + 10)) : Int).toNat t221)) x4_1 (wrap64 (x5_2 + 1)) a0_0 l0_1 a0_2 a0_3 a0_4 a0_5) else (none)) else (none)) else (none)) else (none)) = some r := H
           have A15 := Aside0.mk A150
           clear A150
           by_cases c16 : 0 ≤ x4_1
           ·rw [if_pos c16] at H
            have c16b0 : decide (0 ≤ x4_1) = true := decide_eq_true c16
            clear c16
            by_cases c17 : x4_1 < (x3_2.length : Int)
            ·rw [if_pos c17] at H
             have c17b0 : decide (x4_1 < (x3_2.length : Int)) = true := decide_eq_true c17
             clear c17
             obtain ⟨ji19, hji19⟩ : ∃ j_ : Int, (wrap64 (x5_2 + 10)) = j_ := ⟨_, rfl⟩
             replace H : (if 0 ≤ (ji19) then (if (ji19) < 21 then (impl_Process_worths.l1 k2 (x3_2.set (x4_1 : Int).toNat (putA94 (rd_T94 x3_2 x4_1) ((ji19) : Int).toNat t221)) x4_1 (wrap64 (x5_2 + 1)) a0_0 l0_1 a0_2 a0_3 a0_4 a0_5) else (none)) else (none)) = some r := by first | (rw [hji19] at H; exact H) | (simp only [hji19] at H ⊢; exact H)
             (try rw [hji19] at A15)
             have hji19w : (IntKind.i64.wrap (x5_2 + 10)) = ji19 := (i64_w _).trans hji19
             by_cases c20 : 0 ≤ (ji19)
             ·rw [if_pos c20] at H
              have c20b0 : decide (0 ≤ (ji19)) = true := decide_eq_true c20
              clear c20
              by_cases c21 : (ji19) < 21
              ·rw [if_pos c21] at H
               have c21b0 : decide ((ji19) < 21) = true := decide_eq_true c21
               clear c21
               obtain ⟨y223, hy223⟩ : ∃ y_ : List (S94), y_ = (x3_2.set (x4_1 : Int).toNat (putA94 (rd_T94 x3_2 x4_1) ((ji19) : Int).toNat t221)) := ⟨_, rfl⟩
               replace H : (impl_Process_worths.l1 k2 y223 x4_1 (wrap64 (x5_2 + 1)) a0_0 l0_1 a0_2 a0_3 a0_4 a0_5) = some r := by first | (rw [hy223]; with_reducible exact H) | (have H2_ := (Option.bind_some _ _).symm.trans H; rw [hy223]; with_reducible exact H2_) | (have H2_ := (Option.bind_some _ _).symm.trans H; with_reducible exact H2_) | with_reducible exact H | (rw [hy223]; exact H) | exact H
               have Ny223 := Aside0.mk hy223
               clear hy223
               have H' := Aside0.mk H
               clear H
               try go_wp2
               have n0_ := Aside0.mk (Kd.R_drew HO_3.out)
               have n1_ := Aside0.mk (blk_drew BK216.out)
               have n2_ := Aside0.mk (below_drew1 HB.out)
               clear HO_3
               clear BK216
               clear HB
               have HO_3 := n0_
               have BK216 := n1_
               have HB := n2_
               clear n0_ n1_ n2_
               obtain ⟨Ao23, co23, eo23⟩ := Kd.R_slice HO_3.out
               (first | subst eo23 | (injection eo23 with f1_ f2_ f3_; have f4_ := f1_.symm; have f5_ := f3_.symm; clear f1_ f2_ f3_; subst f4_; subst f5_))
               have p220 : 0 ≤ ((ji12) : Int) := of_decide_eq_true (by first | (with_reducible assumption) | assumption)
               have q220 : (ji12) < (x3_2.length : Int) := of_decide_eq_true (by first | (with_reducible assumption) | assumption)
               obtain ⟨ad220, e220, hx220_0, hx220_1, hx220_2, hx220_3, hx220_4, hx220_5, hx220_6, hx220_7, hx220_8, hx220_9, hx220_10, hx220_11, hx220_12, hx220_13, hx220_14, hx220_15, hx220_16, hx220_17, hx220_18, hx220_19, hx220_20⟩ := at_T94 (Kd.R_reads' HO_3.out).2.2 (ji12) p220 q220
               cases e220
               replace p220 := eq_true p220
               replace q220 := eq_true q220
               have p18 : 0 ≤ (x4_1 : Int) := of_decide_eq_true (by first | (with_reducible assumption) | assumption)
               have q18 : (x4_1 : Int) < ((x3_2.length : Int) : Int) := of_decide_eq_true (by first | (with_reducible assumption) | assumption)
               obtain ⟨go18, co18, eo18, gb18, gl18, cl18, HG18⟩ := Kd.R_form HO_3.out (by omega)
               (first | cases eo18 | (injection eo18 with ea_ en_ ec_; (first | subst ea_ | (injection ea_ with ea_; subst ea_)); subst ec_; clear en_))
               have GB18 := Aside0.mk gb18
               have GG18 := Aside0.mk HG18
               clear gb18 gl18 HG18
               (first | simp only [add_plain] at hx220_0 | skip)
               (first | simp only [add_plain] at hx220_1 | skip)
               (first | simp only [add_plain] at hx220_2 | skip)
               (first | simp only [add_plain] at hx220_3 | skip)
               (first | simp only [add_plain] at hx220_4 | skip)
               (first | simp only [add_plain] at hx220_5 | skip)
               (first | simp only [add_plain] at hx220_6 | skip)
               (first | simp only [add_plain] at hx220_7 | skip)
               (first | simp only [add_plain] at hx220_8 | skip)
               (first | simp only [add_plain] at hx220_9 | skip)
               (first | simp only [add_plain] at hx220_10 | skip)
               (first | simp only [add_plain] at hx220_11 | skip)
               (first | simp only [add_plain] at hx220_12 | skip)
               (first | simp only [add_plain] at hx220_13 | skip)
               (first | simp only [add_plain] at hx220_14 | skip)
               (first | simp only [add_plain] at hx220_15 | skip)
               (first | simp only [add_plain] at hx220_16 | skip)
               (first | simp only [add_plain] at hx220_17 | skip)
               (first | simp only [add_plain] at hx220_18 | skip)
               (first | simp only [add_plain] at hx220_19 | skip)
               (first | simp only [add_plain] at hx220_20 | skip)
               obtain ⟨ce18, hcl18, hM18, hcc18, hfr18⟩ := Kd.R_elem HO_3.out z94 (x4_1 : Int) p18 q18
               obtain rfl := k94_openM hM18
               have hx18_0 : World.cell? _ ⟨go18, (x4_1 : Int).toNat * 21, none⟩ = some (.int .i64 ((rd_T94 x3_2 x4_1).f0)) := hcc18 0 _ rfl
               have hx18_1 : World.cell? _ ⟨go18, (x4_1 : Int).toNat * 21 + 1, none⟩ = some (.int .i64 ((rd_T94 x3_2 x4_1).f1)) := hcc18 1 _ rfl
               have hx18_2 : World.cell? _ ⟨go18, (x4_1 : Int).toNat * 21 + 2, none⟩ = some (.int .i64 ((rd_T94 x3_2 x4_1).f2)) := hcc18 2 _ rfl
               have hx18_3 : World.cell? _ ⟨go18, (x4_1 : Int).toNat * 21 + 3, none⟩ = some (.int .i64 ((rd_T94 x3_2 x4_1).f3)) := hcc18 3 _ rfl
               have hx18_4 : World.cell? _ ⟨go18, (x4_1 : Int).toNat * 21 + 4, none⟩ = some (.int .i64 ((rd_T94 x3_2 x4_1).f4)) := hcc18 4 _ rfl
               have hx18_5 : World.cell? _ ⟨go18, (x4_1 : Int).toNat * 21 + 5, none⟩ = some (.int .i64 ((rd_T94 x3_2 x4_1).f5)) := hcc18 5 _ rfl
               have hx18_6 : World.cell? _ ⟨go18, (x4_1 : Int).toNat * 21 + 6, none⟩ = some (.int .i64 ((rd_T94 x3_2 x4_1).f6)) := hcc18 6 _ rfl
               have hx18_7 : World.cell? _ ⟨go18, (x4_1 : Int).toNat * 21 + 7, none⟩ = some (.int .i64 ((rd_T94 x3_2 x4_1).f7)) := hcc18 7 _ rfl
               have hx18_8 : World.cell? _ ⟨go18, (x4_1 : Int).toNat * 21 + 8, none⟩ = some (.int .i64 ((rd_T94 x3_2 x4_1).f8)) := hcc18 8 _ rfl
               have hx18_9 : World.cell? _ ⟨go18, (x4_1 : Int).toNat * 21 + 9, none⟩ = some (.int .i64 ((rd_T94 x3_2 x4_1).f9)) := hcc18 9 _ rfl
               have hx18_10 : World.cell? _ ⟨go18, (x4_1 : Int).toNat * 21 + 10, none⟩ = some (.int .i64 ((rd_T94 x3_2 x4_1).f10)) := hcc18 10 _ rfl
               have hx18_11 : World.cell? _ ⟨go18, (x4_1 : Int).toNat * 21 + 11, none⟩ = some (.int .i64 ((rd_T94 x3_2 x4_1).f11)) := hcc18 11 _ rfl
               have hx18_12 : World.cell? _ ⟨go18, (x4_1 : Int).toNat * 21 + 12, none⟩ = some (.int .i64 ((rd_T94 x3_2 x4_1).f12)) := hcc18 12 _ rfl
               have hx18_13 : World.cell? _ ⟨go18, (x4_1 : Int).toNat * 21 + 13, none⟩ = some (.int .i64 ((rd_T94 x3_2 x4_1).f13)) := hcc18 13 _ rfl
               have hx18_14 : World.cell? _ ⟨go18, (x4_1 : Int).toNat * 21 + 14, none⟩ = some (.int .i64 ((rd_T94 x3_2 x4_1).f14)) := hcc18 14 _ rfl
               have hx18_15 : World.cell? _ ⟨go18, (x4_1 : Int).toNat * 21 + 15, none⟩ = some (.int .i64 ((rd_T94 x3_2 x4_1).f15)) := hcc18 15 _ rfl
               have hx18_16 : World.cell? _ ⟨go18, (x4_1 : Int).toNat * 21 + 16, none⟩ = some (.int .i64 ((rd_T94 x3_2 x4_1).f16)) := hcc18 16 _ rfl
               have hx18_17 : World.cell? _ ⟨go18, (x4_1 : Int).toNat * 21 + 17, none⟩ = some (.int .i64 ((rd_T94 x3_2 x4_1).f17)) := hcc18 17 _ rfl
               have hx18_18 : World.cell? _ ⟨go18, (x4_1 : Int).toNat * 21 + 18, none⟩ = some (.int .i64 ((rd_T94 x3_2 x4_1).f18)) := hcc18 18 _ rfl
               have hx18_19 : World.cell? _ ⟨go18, (x4_1 : Int).toNat * 21 + 19, none⟩ = some (.int .i64 ((rd_T94 x3_2 x4_1).f19)) := hcc18 19 _ rfl
               have hx18_20 : World.cell? _ ⟨go18, (x4_1 : Int).toNat * 21 + 20, none⟩ = some (.int .i64 ((rd_T94 x3_2 x4_1).f20)) := hcc18 20 _ rfl
               have hf18_0 : World.frozen? _ ⟨go18, (x4_1 : Int).toNat * 21, none⟩ = false := hfr18 0
               have hf18_1 : World.frozen? _ ⟨go18, (x4_1 : Int).toNat * 21 + 1, none⟩ = false := hfr18 1
               have hf18_2 : World.frozen? _ ⟨go18, (x4_1 : Int).toNat * 21 + 2, none⟩ = false := hfr18 2
               have hf18_3 : World.frozen? _ ⟨go18, (x4_1 : Int).toNat * 21 + 3, none⟩ = false := hfr18 3
               have hf18_4 : World.frozen? _ ⟨go18, (x4_1 : Int).toNat * 21 + 4, none⟩ = false := hfr18 4
               have hf18_5 : World.frozen? _ ⟨go18, (x4_1 : Int).toNat * 21 + 5, none⟩ = false := hfr18 5
               have hf18_6 : World.frozen? _ ⟨go18, (x4_1 : Int).toNat * 21 + 6, none⟩ = false := hfr18 6
               have hf18_7 : World.frozen? _ ⟨go18, (x4_1 : Int).toNat * 21 + 7, none⟩ = false := hfr18 7
               have hf18_8 : World.frozen? _ ⟨go18, (x4_1 : Int).toNat * 21 + 8, none⟩ = false := hfr18 8
               have hf18_9 : World.frozen? _ ⟨go18, (x4_1 : Int).toNat * 21 + 9, none⟩ = false := hfr18 9
               have hf18_10 : World.frozen? _ ⟨go18, (x4_1 : Int).toNat * 21 + 10, none⟩ = false := hfr18 10
               have hf18_11 : World.frozen? _ ⟨go18, (x4_1 : Int).toNat * 21 + 11, none⟩ = false := hfr18 11
               have hf18_12 : World.frozen? _ ⟨go18, (x4_1 : Int).toNat * 21 + 12, none⟩ = false := hfr18 12
               have hf18_13 : World.frozen? _ ⟨go18, (x4_1 : Int).toNat * 21 + 13, none⟩ = false := hfr18 13
               have hf18_14 : World.frozen? _ ⟨go18, (x4_1 : Int).toNat * 21 + 14, none⟩ = false := hfr18 14
               have hf18_15 : World.frozen? _ ⟨go18, (x4_1 : Int).toNat * 21 + 15, none⟩ = false := hfr18 15
               have hf18_16 : World.frozen? _ ⟨go18, (x4_1 : Int).toNat * 21 + 16, none⟩ = false := hfr18 16
               have hf18_17 : World.frozen? _ ⟨go18, (x4_1 : Int).toNat * 21 + 17, none⟩ = false := hfr18 17
               have hf18_18 : World.frozen? _ ⟨go18, (x4_1 : Int).toNat * 21 + 18, none⟩ = false := hfr18 18
               have hf18_19 : World.frozen? _ ⟨go18, (x4_1 : Int).toNat * 21 + 19, none⟩ = false := hfr18 19
               have hf18_20 : World.frozen? _ ⟨go18, (x4_1 : Int).toNat * 21 + 20, none⟩ = false := hfr18 20
               have p24 : 0 ≤ ((ji19) : Int) := of_decide_eq_true (by first | (with_reducible assumption) | assumption)
               have q24 : ((ji19) : Int) < 21 := of_decide_eq_true (by first | (with_reducible assumption) | assumption)
               have hx24_0 : World.cell? _ ⟨go18, (x4_1 : Int).toNat * 21 + ((ji19) : Int).toNat, none⟩ = some (.int .i64 (getA94 (rd_T94 x3_2 x4_1) ((ji19) : Int).toNat)) := hcc18 ((ji19) : Int).toNat _ (cellA94 _ (by omega))
               have hf24_0 : World.frozen? _ ⟨go18, (x4_1 : Int).toNat * 21 + ((ji19) : Int).toNat, none⟩ = false := hfr18 ((ji19) : Int).toNat
               replace p24 := eq_true p24
               replace q24 := eq_true q24
               clear hcl18 hcc18 hfr18 hM18
               replace p18 := eq_true p18
               replace q18 := eq_true q18
               refine start_ (n := 22) (S := fun w' => w'.cell? ⟨gb216, 0, none⟩ = some (.int .i64 a0_0) ∧ w'.cell? ⟨gb216, 1, none⟩ = some (.slice A0_1 l0_1.length c0_1) ∧ w'.cell? ⟨gb216, 2, none⟩ = some (.int .i64 a0_2) ∧ w'.cell? ⟨gb216, 3, none⟩ = some (.int .i64 a0_3) ∧ w'.cell? ⟨gb216, 4, none⟩ = some (.int .i64 a0_4) ∧ w'.cell? ⟨gb216, 5, none⟩ = some (.int .i64 a0_5) ∧ w'.cell? ⟨go18, (((ji12)).toNat * 21), none⟩ = some (.int .i64 ((rd_T94 x3_2 (ji12)).f0)) ∧ w'.cell? ⟨go18, (((ji12)).toNat * 21) + 1, none⟩ = some (.int .i64 ((rd_T94 x3_2 (ji12)).f1)) ∧ w'.cell? ⟨go18, (((ji12)).toNat * 21) + 2, none⟩ = some (.int .i64 ((rd_T94 x3_2 (ji12)).f2)) ∧ w'.cell? ⟨go18, (((ji12)).toNat * 21) + 3, none⟩ = some (.int .i64 ((rd_T94 x3_2 (ji12)).f3)) ∧ w'.cell? ⟨go18, (((ji12)).toNat * 21) + 4, none⟩ = some (.int .i64 ((rd_T94 x3_2 (ji12)).f4)) ∧ w'.cell? ⟨go18, (((ji12)).toNat * 21) + 5, none⟩ = some (.int .i64 ((rd_T94 x3_2 (ji12)).f5)) ∧ w'.cell? ⟨go18, (((ji12)).toNat * 21) + 6, none⟩ = some (.int .i64 ((rd_T94 x3_2 (ji12)).f6)) ∧ w'.cell? ⟨go18, (((ji12)).toNat * 21) + 7, none⟩ = some (.int .i64 ((rd_T94 x3_2 (ji12)).f7)) ∧ w'.cell? ⟨go18, (((ji12)).toNat * 21) + 8, none⟩ = some (.int .i64 ((rd_T94 x3_2 (ji12)).f8)) ∧ w'.cell? ⟨go18, (((ji12)).toNat * 21) + 9, none⟩ = some (.int .i64 ((rd_T94 x3_2 (ji12)).f9)) ∧ w'.cell? ⟨go18, (((ji12)).toNat * 21) + 10, none⟩ = some (.int .i64 ((rd_T94 x3_2 (ji12)).f10)) ∧ w'.cell? ⟨go18, (((ji12)).toNat * 21) + 11, none⟩ = some (.int .i64 ((rd_T94 x3_2 (ji12)).f11)) ∧ w'.cell? ⟨go18, (((ji12)).toNat * 21) + 12, none⟩ = some (.int .i64 ((rd_T94 x3_2 (ji12)).f12)) ∧ w'.cell? ⟨go18, (((ji12)).toNat * 21) + 13, none⟩ = some (.int .i64 ((rd_T94 x3_2 (ji12)).f13)) ∧ w'.cell? ⟨go18, (((ji12)).toNat * 21) + 14, none⟩ = some (.int .i64 ((rd_T94 x3_2 (ji12)).f14)) ∧ w'.cell? ⟨go18, (((ji12)).toNat * 21) + 15, none⟩ = some (.int .i64 ((rd_T94 x3_2 (ji12)).f15)) ∧ w'.cell? ⟨go18, (((ji12)).toNat * 21) + 16, none⟩ = some (.int .i64 ((rd_T94 x3_2 (ji12)).f16)) ∧ w'.cell? ⟨go18, (((ji12)).toNat * 21) + 17, none⟩ = some (.int .i64 ((rd_T94 x3_2 (ji12)).f17)) ∧ w'.cell? ⟨go18, (((ji12)).toNat * 21) + 18, none⟩ = some (.int .i64 ((rd_T94 x3_2 (ji12)).f18)) ∧ w'.cell? ⟨go18, (((ji12)).toNat * 21) + 19, none⟩ = some (.int .i64 ((rd_T94 x3_2 (ji12)).f19)) ∧ w'.cell? ⟨go18, (((ji12)).toNat * 21) + 20, none⟩ = some (.int .i64 ((rd_T94 x3_2 (ji12)).f20))) (ds := [21]) #[false, false, false, false, false, false, false, false, false, false, false, false, false, false, false, false, false, false, false, false, false, false] (by kernel_rfl) rfl rfl ⟨(blk_cell BK216.out 0).trans rfl, (blk_cell BK216.out 1).trans rfl, (blk_cell BK216.out 2).trans rfl, (blk_cell BK216.out 3).trans rfl, (blk_cell BK216.out 4).trans rfl, (blk_cell BK216.out 5).trans rfl, hx220_0, hx220_1, hx220_2, hx220_3, hx220_4, hx220_5, hx220_6, hx220_7, hx220_8, hx220_9, hx220_10, hx220_11, hx220_12, hx220_13, hx220_14, hx220_15, hx220_16, hx220_17, hx220_18, hx220_19, hx220_20⟩ (fun hHeld => ?_); refine with_tabW impl_Process_worths.tab8 impl_Process_worths.bits8 (fun HT_ HW_ => ?_)
               generalize wr.drew = w22 at HO_3 BK216 HB GG18 hf18_0 hf18_1 hf18_10 hf18_11 hf18_12 hf18_13 hf18_14 hf18_15 hf18_16 hf18_17 hf18_18 hf18_19 hf18_2 hf18_20 hf18_3 hf18_4 hf18_5 hf18_6 hf18_7 hf18_8 hf18_9 hf24_0 hx18_0 hx18_1 hx18_10 hx18_11 hx18_12 hx18_13 hx18_14 hx18_15 hx18_16 hx18_17 hx18_18 hx18_19 hx18_2 hx18_20 hx18_3 hx18_4 hx18_5 hx18_6 hx18_7 hx18_8 hx18_9 hx220_0 hx220_1 hx220_10 hx220_11 hx220_12 hx220_13 hx220_14 hx220_15 hx220_16 hx220_17 hx220_18 hx220_19 hx220_2 hx220_20 hx220_3 hx220_4 hx220_5 hx220_6 hx220_7 hx220_8 hx220_9 hx24_0 hHeld ⊢
               refine pure_ (i := 0) (N := some 22) (v := ?_) (a' := ?_) #[true, false, false, false, false, false, false, false, false, false, false, false, false, false, false, false, false, false, false, false, false, false] rfl rfl (any_of HT_.out (by kernel_rfl)) (fun _ _ _ h => h) (Or.inl ⟨by rfl, ?_⟩) ?_ ?_
               rotate_left
               ·intro w'
                go_simp
                with_reducible rfl
               rotate_left
               ·simp only [Act.put, List.setIfInBounds_toArray, List.set_cons_zero, List.set_cons_succ, i64_w, i32_w]
                rfl
               refine pure_ (i := 1) (N := some 23) (v := ?_) (a' := ?_) #[true, true, false, false, false, false, false, false, false, false, false, false, false, false, false, false, false, false, false, false, false, false] rfl rfl (any_of HT_.out (by kernel_rfl)) (fun _ _ _ h => h) (Or.inl ⟨by rfl, ?_⟩) ?_ ?_
               rotate_left
               ·intro w'
                go_simp
                with_reducible rfl
               rotate_left
               ·simp only [Act.put, List.setIfInBounds_toArray, List.set_cons_zero, List.set_cons_succ, i64_w, i32_w]
                rfl
               refine pure_ (i := 2) (N := some 24) (v := ?_) (a' := ?_) #[true, true, true, false, false, false, false, false, false, false, false, false, false, false, false, false, false, false, false, false, false, false] rfl rfl (any_of HT_.out (by kernel_rfl)) (fun _ _ _ h => h) (Or.inl ⟨by rfl, ?_⟩) ?_ ?_
               rotate_left
               ·intro w'
                go_simp
                with_reducible rfl
               rotate_left
               ·simp only [Act.put, List.setIfInBounds_toArray, List.set_cons_zero, List.set_cons_succ, i64_w, i32_w]
                rfl
               refine pure_ (i := 3) (N := some 25) (v := ?_) (a' := ?_) #[true, true, true, true, false, false, false, false, false, false, false, false, false, false, false, false, false, false, false, false, false, false] rfl rfl (any_of HT_.out (by kernel_rfl)) (fun _ _ _ h => h) (Or.inl ⟨by rfl, ?_⟩) ?_ ?_
               rotate_left
               ·intro w'
                go_simp
                with_reducible rfl
               rotate_left
               ·simp only [Act.put, List.setIfInBounds_toArray, List.set_cons_zero, List.set_cons_succ, i64_w, i32_w]
                rfl
               refine pure_ (i := 5) (N := some 27) (v := ?_) (a' := ?_) #[true, true, true, true, false, true, false, false, false, false, false, false, false, false, false, false, false, false, false, false, false, false] rfl rfl (any_of HT_.out (by kernel_rfl)) (fun _ _ _ h => h) (Or.inl ⟨by rfl, ?_⟩) ?_ ?_
               rotate_left
               ·intro w'
                go_simp
                with_reducible rfl
               rotate_left
               ·simp only [Act.put, List.setIfInBounds_toArray, List.set_cons_zero, List.set_cons_succ, i64_w, i32_w]
                rfl
               refine pure_ (i := 7) (N := some 29) (v := ?_) (a' := ?_) #[true, true, true, true, false, true, false, true, false, false, false, false, false, false, false, false, false, false, false, false, false, false] rfl rfl (any_of HT_.out (by kernel_rfl)) (fun _ _ _ h => h) (Or.inl ⟨by rfl, ?_⟩) ?_ ?_
               rotate_left
               ·intro w'
                go_simp
                with_reducible rfl
               rotate_left
               ·simp only [Act.put, List.setIfInBounds_toArray, List.set_cons_zero, List.set_cons_succ, i64_w, i32_w]
                rfl
               refine pure_ (i := 9) (N := some 31) (v := ?_) (a' := ?_) #[true, true, true, true, false, true, false, true, false, true, false, false, false, false, false, false, false, false, false, false, false, false] rfl rfl (any_of HT_.out (by kernel_rfl)) (fun _ _ _ h => h) (Or.inl ⟨by rfl, ?_⟩) ?_ ?_
               rotate_left
               ·intro w'
                go_simp
                with_reducible rfl
               rotate_left
               ·simp only [Act.put, List.setIfInBounds_toArray, List.set_cons_zero, List.set_cons_succ, i64_w, i32_w]
                rfl
               refine pure_ (i := 10) (N := some 32) (v := ?_) (a' := ?_) #[true, true, true, true, false, true, false, true, false, true, true, false, false, false, false, false, false, false, false, false, false, false] rfl rfl (any_of HT_.out (by kernel_rfl)) (fun _ _ _ h => h) (Or.inl ⟨by rfl, ?_⟩) ?_ ?_
               rotate_left
               ·intro w'
                go_simp
                with_reducible rfl
               rotate_left
               ·simp only [Act.put, List.setIfInBounds_toArray, List.set_cons_zero, List.set_cons_succ, i64_w, i32_w]
                rfl
               refine pure_ (i := 11) (N := some 33) (v := ?_) (a' := ?_) #[true, true, true, true, false, true, false, true, false, true, true, true, false, false, false, false, false, false, false, false, false, false] rfl rfl (any_of HT_.out (by kernel_rfl)) (fun _ _ _ h => h) (Or.inl ⟨by rfl, ?_⟩) ?_ ?_
               rotate_left
               ·intro w'
                go_simp
                with_reducible rfl
               rotate_left
               ·simp only [Act.put, List.setIfInBounds_toArray, List.set_cons_zero, List.set_cons_succ, i64_w, i32_w]
                rfl
               refine pure_ (i := 12) (N := some 34) (v := ?_) (a' := ?_) #[true, true, true, true, false, true, false, true, false, true, true, true, true, false, false, false, false, false, false, false, false, false] rfl rfl (any_of HT_.out (by kernel_rfl)) (fun _ _ _ h => h) (Or.inl ⟨by rfl, ?_⟩) ?_ ?_
               rotate_left
               ·intro w'
                go_simp
                with_reducible rfl
               rotate_left
               ·simp only [Act.put, List.setIfInBounds_toArray, List.set_cons_zero, List.set_cons_succ, i64_w, i32_w]
                rfl
               refine pure_ (i := 13) (N := some 35) (v := ?_) (a' := ?_) #[true, true, true, true, false, true, false, true, false, true, true, true, true, true, false, false, false, false, false, false, false, false] rfl rfl (any_of HT_.out (by kernel_rfl)) (fun _ _ _ h => h) (Or.inl ⟨by rfl, ?_⟩) ?_ ?_
               rotate_left
               ·intro w'
                go_simp
                with_reducible rfl
               rotate_left
               ·simp only [Act.put, List.setIfInBounds_toArray, List.set_cons_zero, List.set_cons_succ, i64_w, i32_w]
                rfl
               refine pure_ (i := 19) (N := some 40) (v := ?_) (a' := ?_) #[true, true, true, true, false, true, false, true, false, true, true, true, true, true, false, false, false, false, false, true, false, false] rfl rfl (any_of HT_.out (by kernel_rfl)) (fun _ _ _ h => h) (Or.inl ⟨by rfl, ?_⟩) ?_ ?_
               rotate_left
               ·intro w'
                go_simp
                with_reducible rfl
               rotate_left
               ·simp only [Act.put, List.setIfInBounds_toArray, List.set_cons_zero, List.set_cons_succ, i64_w, i32_w]
                rfl
               refine take_ (i := 4) (N := some 26) (v := ?_) (a' := ?_) #[true, true, true, true, true, true, false, true, false, true, true, true, true, true, false, false, false, false, false, true, false, false] rfl rfl (take_ofW HT_.out HW_.out (by kernel_rfl)) (fun _ _ _ h => h) (Or.inl ⟨by rfl, ?_⟩) hHeld ?_ ?_
               rotate_left
               ·rintro w' ⟨s0, s1, s2, s3, s4, s5, s6, s7, s8, s9, s10, s11, s12, s13, s14, s15, s16, s17, s18, s19, s20, s21, s22, s23, s24, s25, s26⟩
                first | (refine (loadA94 (by exact rfl) (by exact rfl) s6 s7 s8 s9 s10 s11 s12 s13 s14 s15 s16 s17 s18 s19 s20 s21 s22 s23 s24 s25 s26).trans ?_; with_reducible rfl) | (go_simp; with_reducible rfl)
               rotate_left
               ·simp only [Act.put, List.setIfInBounds_toArray, List.set_cons_zero, List.set_cons_succ, i64_w, i32_w]
                rfl
               refine take_ (i := 6) (N := some 28) (v := ?_) (a' := ?_) #[true, true, true, true, true, true, true, true, false, true, true, true, true, true, false, false, false, false, false, true, false, false] rfl rfl (take_ofW HT_.out HW_.out (by kernel_rfl)) (fun _ _ _ h => h) (Or.inl ⟨by rfl, ?_⟩) hHeld ?_ ?_
               rotate_left
               ·rintro w' ⟨s0, s1, s2, s3, s4, s5, s6, s7, s8, s9, s10, s11, s12, s13, s14, s15, s16, s17, s18, s19, s20, s21, s22, s23, s24, s25, s26⟩
                first | (refine (loadA94 (by exact rfl) (by exact rfl) s6 s7 s8 s9 s10 s11 s12 s13 s14 s15 s16 s17 s18 s19 s20 s21 s22 s23 s24 s25 s26).trans ?_; with_reducible rfl) | (go_simp; with_reducible rfl)
               rotate_left
               ·simp only [Act.put, List.setIfInBounds_toArray, List.set_cons_zero, List.set_cons_succ, i64_w, i32_w]
                rfl
               refine pure_ (i := 8) (N := some 30) (v := ?_) (a' := ?_) #[true, true, true, true, true, true, true, true, true, true, true, true, true, true, false, false, false, false, false, true, false, false] rfl rfl (any_of HT_.out (by kernel_rfl)) (fun _ _ _ h => h) (Or.inl ⟨by rfl, ?_⟩) ?_ ?_
               rotate_left
               ·intro w'
                go_simp
                with_reducible rfl
               rotate_left
               ·simp only [Act.put, List.setIfInBounds_toArray, List.set_cons_zero, List.set_cons_succ, i64_w, i32_w]
                rfl
               refine take_ (i := 14) (N := some 36) (v := ?_) (a' := ?_) #[true, true, true, true, true, true, true, true, true, true, true, true, true, true, true, false, false, false, false, true, false, false] rfl rfl (take_ofW HT_.out HW_.out (by kernel_rfl)) (fun _ _ _ h => h) (Or.inl ⟨by rfl, ?_⟩) hHeld ?_ ?_
               rotate_left
               ·rintro w' ⟨s0, s1, s2, s3, s4, s5, s6, s7, s8, s9, s10, s11, s12, s13, s14, s15, s16, s17, s18, s19, s20, s21, s22, s23, s24, s25, s26⟩
                first | (refine (loadA94 (by exact rfl) (by exact rfl) s6 s7 s8 s9 s10 s11 s12 s13 s14 s15 s16 s17 s18 s19 s20 s21 s22 s23 s24 s25 s26).trans ?_; with_reducible rfl) | (go_simp; with_reducible rfl)
               rotate_left
               ·simp only [Act.put, List.setIfInBounds_toArray, List.set_cons_zero, List.set_cons_succ, i64_w, i32_w]
                rfl
               refine one_ (i := 15) (N := some 37) #[true, true, true, true, true, true, true, true, true, true, true, true, true, true, true, true, false, false, false, true, false, false] rfl rfl (one_of HT_.out (by kernel_rfl)) (by decide) (fun K hK => ?_)
               refine goes_ Try.func79 (by kernel_rfl) rfl #[.agg #[.int .i64 a0_0, .slice A0_1 l0_1.length c0_1, .int .i64 a0_2, .int .i64 a0_3, .int .i64 a0_4, .int .i64 a0_5], .int .i64 (wrap64 (a0_0 - x4_1)), .int .i64 x5_2, .agg #[.int .i64 ((rd_T94 x3_2 (ji12)).f0), .int .i64 ((rd_T94 x3_2 (ji12)).f1), .int .i64 ((rd_T94 x3_2 (ji12)).f2), .int .i64 ((rd_T94 x3_2 (ji12)).f3), .int .i64 ((rd_T94 x3_2 (ji12)).f4), .int .i64 ((rd_T94 x3_2 (ji12)).f5), .int .i64 ((rd_T94 x3_2 (ji12)).f6), .int .i64 ((rd_T94 x3_2 (ji12)).f7), .int .i64 ((rd_T94 x3_2 (ji12)).f8), .int .i64 ((rd_T94 x3_2 (ji12)).f9), .int .i64 ((rd_T94 x3_2 (ji12)).f10), .int .i64 ((rd_T94 x3_2 (ji12)).f11), .int .i64 ((rd_T94 x3_2 (ji12)).f12), .int .i64 ((rd_T94 x3_2 (ji12)).f13), .int .i64 ((rd_T94 x3_2 (ji12)).f14), .int .i64 ((rd_T94 x3_2 (ji12)).f15), .int .i64 ((rd_T94 x3_2 (ji12)).f16), .int .i64 ((rd_T94 x3_2 (ji12)).f17), .int .i64 ((rd_T94 x3_2 (ji12)).f18), .int .i64 ((rd_T94 x3_2 (ji12)).f19), .int .i64 ((rd_T94 x3_2 (ji12)).f20)]] (by rfl) rfl rfl (by (try simp only [List.map_toArray, List.map_cons, List.map_nil]); first | done | (simp only [hji12]; rfl) | rfl | (simp only [List.length_drop, List.length_take]; rfl)) ?_
               with_reducible refine (impl_Process_least.calls k2 a0_0 _ _ l0_1 a0_2 a0_3 a0_4 a0_5 (wrap64 (a0_0 - x4_1)) x5_2 ((rd_T94 x3_2 (ji12)).f0) ((rd_T94 x3_2 (ji12)).f1) ((rd_T94 x3_2 (ji12)).f2) ((rd_T94 x3_2 (ji12)).f3) ((rd_T94 x3_2 (ji12)).f4) ((rd_T94 x3_2 (ji12)).f5) ((rd_T94 x3_2 (ji12)).f6) ((rd_T94 x3_2 (ji12)).f7) ((rd_T94 x3_2 (ji12)).f8) ((rd_T94 x3_2 (ji12)).f9) ((rd_T94 x3_2 (ji12)).f10) ((rd_T94 x3_2 (ji12)).f11) ((rd_T94 x3_2 (ji12)).f12) ((rd_T94 x3_2 (ji12)).f13) ((rd_T94 x3_2 (ji12)).f14) ((rd_T94 x3_2 (ji12)).f15) ((rd_T94 x3_2 (ji12)).f16) ((rd_T94 x3_2 (ji12)).f17) ((rd_T94 x3_2 (ji12)).f18) ((rd_T94 x3_2 (ji12)).f19) ((rd_T94 x3_2 (ji12)).f20) t221 t222 _ ?side1 ?side2 A15.out).mono ?_
               (case side1 => repeat (first | exact (Kd.C_below HR0_1.out HB.out) | (with_reducible refine Kd.C_alloc ?_ _) | (with_reducible refine Kd.C_drewN ?_ _) | (with_reducible refine Kd.C_drew ?_)))
               (case side2 => exact HC0_1.out)
               rintro e w25 ⟨rfl, hb⟩
               have HS6_ := (hb.cell (World.block_lt_of_cell? _ _ (hHeld.2.2.2.2.2.2.1))).trans (hHeld.2.2.2.2.2.2.1)
               have HS7_ := (hb.cell (World.block_lt_of_cell? _ _ (hHeld.2.2.2.2.2.2.2.1))).trans (hHeld.2.2.2.2.2.2.2.1)
               have HS8_ := (hb.cell (World.block_lt_of_cell? _ _ (hHeld.2.2.2.2.2.2.2.2.1))).trans (hHeld.2.2.2.2.2.2.2.2.1)
               have HS9_ := (hb.cell (World.block_lt_of_cell? _ _ (hHeld.2.2.2.2.2.2.2.2.2.1))).trans (hHeld.2.2.2.2.2.2.2.2.2.1)
               have HS10_ := (hb.cell (World.block_lt_of_cell? _ _ (hHeld.2.2.2.2.2.2.2.2.2.2.1))).trans (hHeld.2.2.2.2.2.2.2.2.2.2.1)
               have HS11_ := (hb.cell (World.block_lt_of_cell? _ _ (hHeld.2.2.2.2.2.2.2.2.2.2.2.1))).trans (hHeld.2.2.2.2.2.2.2.2.2.2.2.1)
               have HS12_ := (hb.cell (World.block_lt_of_cell? _ _ (hHeld.2.2.2.2.2.2.2.2.2.2.2.2.1))).trans (hHeld.2.2.2.2.2.2.2.2.2.2.2.2.1)
               have HS13_ := (hb.cell (World.block_lt_of_cell? _ _ (hHeld.2.2.2.2.2.2.2.2.2.2.2.2.2.1))).trans (hHeld.2.2.2.2.2.2.2.2.2.2.2.2.2.1)
               have HS14_ := (hb.cell (World.block_lt_of_cell? _ _ (hHeld.2.2.2.2.2.2.2.2.2.2.2.2.2.2.1))).trans (hHeld.2.2.2.2.2.2.2.2.2.2.2.2.2.2.1)
               have HS15_ := (hb.cell (World.block_lt_of_cell? _ _ (hHeld.2.2.2.2.2.2.2.2.2.2.2.2.2.2.2.1))).trans (hHeld.2.2.2.2.2.2.2.2.2.2.2.2.2.2.2.1)
               have HS16_ := (hb.cell (World.block_lt_of_cell? _ _ (hHeld.2.2.2.2.2.2.2.2.2.2.2.2.2.2.2.2.1))).trans (hHeld.2.2.2.2.2.2.2.2.2.2.2.2.2.2.2.2.1)
               have HS17_ := (hb.cell (World.block_lt_of_cell? _ _ (hHeld.2.2.2.2.2.2.2.2.2.2.2.2.2.2.2.2.2.1))).trans (hHeld.2.2.2.2.2.2.2.2.2.2.2.2.2.2.2.2.2.1)
               have HS18_ := (hb.cell (World.block_lt_of_cell? _ _ (hHeld.2.2.2.2.2.2.2.2.2.2.2.2.2.2.2.2.2.2.1))).trans (hHeld.2.2.2.2.2.2.2.2.2.2.2.2.2.2.2.2.2.2.1)
               have HS19_ := (hb.cell (World.block_lt_of_cell? _ _ (hHeld.2.2.2.2.2.2.2.2.2.2.2.2.2.2.2.2.2.2.2.1))).trans (hHeld.2.2.2.2.2.2.2.2.2.2.2.2.2.2.2.2.2.2.2.1)
               have HS20_ := (hb.cell (World.block_lt_of_cell? _ _ (hHeld.2.2.2.2.2.2.2.2.2.2.2.2.2.2.2.2.2.2.2.2.1))).trans (hHeld.2.2.2.2.2.2.2.2.2.2.2.2.2.2.2.2.2.2.2.2.1)
               have HS21_ := (hb.cell (World.block_lt_of_cell? _ _ (hHeld.2.2.2.2.2.2.2.2.2.2.2.2.2.2.2.2.2.2.2.2.2.1))).trans (hHeld.2.2.2.2.2.2.2.2.2.2.2.2.2.2.2.2.2.2.2.2.2.1)
               have HS22_ := (hb.cell (World.block_lt_of_cell? _ _ (hHeld.2.2.2.2.2.2.2.2.2.2.2.2.2.2.2.2.2.2.2.2.2.2.1))).trans (hHeld.2.2.2.2.2.2.2.2.2.2.2.2.2.2.2.2.2.2.2.2.2.2.1)
               have HS23_ := (hb.cell (World.block_lt_of_cell? _ _ (hHeld.2.2.2.2.2.2.2.2.2.2.2.2.2.2.2.2.2.2.2.2.2.2.2.1))).trans (hHeld.2.2.2.2.2.2.2.2.2.2.2.2.2.2.2.2.2.2.2.2.2.2.2.1)
               have HS24_ := (hb.cell (World.block_lt_of_cell? _ _ (hHeld.2.2.2.2.2.2.2.2.2.2.2.2.2.2.2.2.2.2.2.2.2.2.2.2.1))).trans (hHeld.2.2.2.2.2.2.2.2.2.2.2.2.2.2.2.2.2.2.2.2.2.2.2.2.1)
               have HS25_ := (hb.cell (World.block_lt_of_cell? _ _ (hHeld.2.2.2.2.2.2.2.2.2.2.2.2.2.2.2.2.2.2.2.2.2.2.2.2.2.1))).trans (hHeld.2.2.2.2.2.2.2.2.2.2.2.2.2.2.2.2.2.2.2.2.2.2.2.2.2.1)
               have HS26_ := (hb.cell (World.block_lt_of_cell? _ _ (hHeld.2.2.2.2.2.2.2.2.2.2.2.2.2.2.2.2.2.2.2.2.2.2.2.2.2.2))).trans (hHeld.2.2.2.2.2.2.2.2.2.2.2.2.2.2.2.2.2.2.2.2.2.2.2.2.2.2)
               refine ⟨_, rfl, ?_⟩
               have n0_ := Aside0.mk (Kd.R_below (by (with_reducible repeat (first | apply Kd.R_alloc | apply Kd.R_drewN | apply Kd.R_drew)); exact HO_3.out) hb)
               have n1_ := Aside0.mk (blk_below (g := gb216) (o := .cells #[.int .i64 a0_0, .slice A0_1 l0_1.length c0_1, .int .i64 a0_2, .int .i64 a0_3, .int .i64 a0_4, .int .i64 a0_5] 30 (0, 0)) (by (with_reducible repeat (first | refine blk_drewN ?_ _ | refine blk_drew ?_ | refine blk_alloc ?_ _)); exact BK216.out) hb)
               have n2_ := Aside0.mk (below_step (by repeat (first | (with_reducible first | exact HB.out | apply below_alloc | apply pw_below_drewN | apply below_drew1 | refine below_set ?_ GE216.out) | exact HB.out)) hb)
               clear HO_3
               clear BK216
               clear HB
               have HO_3 := n0_
               have BK216 := n1_
               have HB := n2_
               clear n0_ n1_ n2_
               (try clear hb)
               (try clear hb2)
               (try clear hk)
               (try clear hi)
               obtain ⟨ce26, hcl26, hM26, hcc26, hfr26⟩ := Kd.R_elem HO_3.out z94 (x4_1 : Int) (of_decide_eq_true (by first | (with_reducible assumption) | assumption)) (by have h_ : (x4_1 : Int) < ((x3_2.length : Int) : Int) := of_decide_eq_true (by first | (with_reducible assumption) | assumption); first | exact h_ | (have e_ := (Kd.R_reads' HO_3.out).1; omega) | simpa using h_)
               obtain rfl := k94_openM hM26
               have qd26 : ((ji19) : Int) < 21 := of_decide_eq_true (by first | (with_reducible assumption) | assumption)
               have hx26_0 : World.cell? _ ⟨go18, (x4_1 : Int).toNat * 21 + ((ji19) : Int).toNat, none⟩ = some (.int .i64 (getA94 (rd_T94 x3_2 x4_1) ((ji19) : Int).toNat)) := hcc26 ((ji19) : Int).toNat _ (cellA94 _ (by omega))
               have hf26_0 : World.frozen? _ ⟨go18, (x4_1 : Int).toNat * 21 + ((ji19) : Int).toNat, none⟩ = false := hfr26 ((ji19) : Int).toNat
               have HP26 := (Kd.R_seg HO_3.out (x4_1 : Int) (of_decide_eq_true (by first | (with_reducible assumption) | assumption)) (by have h_ : (x4_1 : Int) < ((x3_2.length : Int) : Int) := of_decide_eq_true (by first | (with_reducible assumption) | assumption); first | exact h_ | (have e_ := (Kd.R_reads' HO_3.out).1; omega) | simpa using h_) (seg := [.int .i64 t221]) (j := ((ji19) : Int).toNat) hcl26 hcc26 (show ((ji19) : Int).toNat + 1 ≤ 21 from by omega) (x' := putA94 (rd_T94 x3_2 x4_1) ((ji19) : Int).toNat t221) (putA94_M _ _ _ _ _ (by omega)) (fun _ hk => hk)).1
               rw [← Ny223.out] at HP26
               have HQ26 := Aside0.mk HP26
               clear hcl26 hcc26 hfr26 hM26 HP26 qd26
               refine hK.out _ _ ⟨(blk_cell BK216.out 0).trans rfl, (blk_cell BK216.out 1).trans rfl, (blk_cell BK216.out 2).trans rfl, (blk_cell BK216.out 3).trans rfl, (blk_cell BK216.out 4).trans rfl, (blk_cell BK216.out 5).trans rfl, HS6_, HS7_, HS8_, HS9_, HS10_, HS11_, HS12_, HS13_, HS14_, HS15_, HS16_, HS17_, HS18_, HS19_, HS20_, HS21_, HS22_, HS23_, HS24_, HS25_, HS26_⟩ (fun hHeld => ?_)
               clear hK K
               refine norm_ (a' := ?_) ?_ ?_
               rotate_left
               ·show Act.put _ (some 37) _ = _
                simp only [Act.put, List.setIfInBounds_toArray, List.set_cons_zero, List.set_cons_succ, i64_w, i32_w]
                rfl
               refine pure_ (i := 16) (N := some 21) (v := ?_) (a' := ?_) #[true, true, true, true, true, true, true, true, true, true, true, true, true, true, true, true, true, false, false, true, false, false] rfl rfl (any_of HT_.out (by kernel_rfl)) (fun _ _ _ h => h) (Or.inl ⟨by rfl, ?_⟩) ?_ ?_
               rotate_left
               ·intro w'
                go_simp
                with_reducible rfl
               rotate_left
               ·simp only [Act.put, List.setIfInBounds_toArray, List.set_cons_zero, List.set_cons_succ, i64_w, i32_w]
                rfl
               refine pure_ (i := 17) (N := some 38) (v := ?_) (a' := ?_) #[true, true, true, true, true, true, true, true, true, true, true, true, true, true, true, true, true, true, false, true, false, false] rfl rfl (any_of HT_.out (by kernel_rfl)) (fun _ _ _ h => h) (Or.inl ⟨by rfl, ?_⟩) ?_ ?_
               rotate_left
               ·intro w'
                go_simp
                with_reducible rfl
               rotate_left
               ·simp only [Act.put, List.setIfInBounds_toArray, List.set_cons_zero, List.set_cons_succ, i64_w, i32_w]
                rfl
               refine pure_ (i := 18) (N := some 39) (v := ?_) (a' := ?_) #[true, true, true, true, true, true, true, true, true, true, true, true, true, true, true, true, true, true, true, true, false, false] rfl rfl (any_of HT_.out (by kernel_rfl)) (fun _ _ _ h => h) (Or.inl ⟨by rfl, ?_⟩) ?_ ?_
               rotate_left
               ·intro w'
                go_simp
                with_reducible rfl
               rotate_left
               ·simp only [Act.put, List.setIfInBounds_toArray, List.set_cons_zero, List.set_cons_succ, i64_w, i32_w]
                rfl
               refine pure_ (i := 20) (N := some 41) (v := ?_) (a' := ?_) #[true, true, true, true, true, true, true, true, true, true, true, true, true, true, true, true, true, true, true, true, true, false] rfl rfl (any_of HT_.out (by kernel_rfl)) (fun _ _ _ h => h) (Or.inl ⟨by rfl, ?_⟩) ?_ ?_
               rotate_left
               ·intro w'
                go_simp
                with_reducible rfl
               rotate_left
               ·simp only [Act.put, List.setIfInBounds_toArray, List.set_cons_zero, List.set_cons_succ, i64_w, i32_w]
                rfl
               refine last_ (i := 21) (N := none) #[true, true, true, true, true, true, true, true, true, true, true, true, true, true, true, true, true, true, true, true, true, true] rfl rfl (one_of HT_.out (by kernel_rfl)) (by decide) (fun K hK => ?_)
               refine skip_ (w1 := ?_) (by rfl) rfl ?_ ?_
               rotate_left
               ·go_simp
                rfl
               refine hK.out _ _ ?_
               clear hK K
               refine done_ (done_of HT_.out (by kernel_rfl)) ?_
               try go_wp2
               go_roundg k2
               case measure => have := HK1.out; have := HK2.out; omega
               case rel => exact ⟨(y223), (wrap64 (x5_2 + 1)), (by first | rfl | (simp; done) | (simp [*]; done)), H', ⟨by have := HK1.out; have := HK2.out; omega⟩, ⟨by (with_reducible repeat (first | apply Kd.R_alloc | apply Kd.R_drewN | apply Kd.R_drew)); exact HQ26.out⟩, ⟨by (with_reducible repeat (first | refine blk_drewN ?_ _ | refine blk_drew ?_ | refine blk_alloc ?_ _)); refine blk_far ?_ (by have h_ := Kd.R_ne HO_3.out BK216.out (by decide); intro e_; exact h_ (by rw [e_]; rfl)) _; (with_reducible repeat (first | refine blk_drewN ?_ _ | refine blk_drew ?_ | refine blk_alloc ?_ _)); exact BK216.out⟩, ⟨by repeat (first | (with_reducible first | exact HB.out | apply below_alloc | apply pw_below_drewN | apply below_drew1 | refine below_set ?_ GB18.out | refine below_set ?_ GE216.out) | exact HB.out)⟩⟩
              ·rw [if_neg c21] at H
               exact absurd H (by simp)
             ·rw [if_neg c20] at H
              exact absurd H (by simp)
            ·rw [if_neg c17] at H
             exact absurd H (by simp)
           ·rw [if_neg c16] at H
            exact absurd H (by simp)
          ·rw [if_neg c14] at H
           exact absurd H (by simp)
         ·rw [if_neg c13] at H
          exact absurd H (by simp)
        ·rw [if_neg c11] at H
         have c11b0 : decide (x5_2 ≤ 10) = false := decide_eq_false c11
         clear c11
         have H' := Aside0.mk H
         clear H
         go_wp2
         go_roundg k2
         case measure => have := HK1.out; have := HK2.out; omega
         case rel => exact ⟨(x3_2), (wrap64 (x4_1 - 1)), (by first | rfl | (simp; done) | (simp [*]; done)), H', ⟨by have := HK1.out; have := HK2.out; omega⟩, ⟨by (with_reducible repeat (first | apply Kd.R_alloc | apply Kd.R_drewN | apply Kd.R_drew)); exact HO_3.out⟩, ⟨by (with_reducible repeat (first | refine blk_drewN ?_ _ | refine blk_drew ?_ | refine blk_alloc ?_ _)); exact BK216.out⟩, ⟨by repeat (first | (with_reducible first | exact HB.out | apply below_alloc | apply pw_below_drewN | apply below_drew1 | refine below_set ?_ GE216.out) | exact HB.out)⟩⟩
     ·rw [if_neg c10] at H
      have c10b0 : decide (0 ≤ x4_1) = false := decide_eq_false c10
      clear c10
      obtain rfl := Option.some.inj H
      go_wp2
      go_ret
      exact ⟨_, by first | rfl | (simp [errW_none, errW_some] <;> rfl) | (simp only [← hji2]; first | rfl | (simp [errW_none, errW_some] <;> rfl)) | (simp [*, errW_none, errW_some] <;> rfl), by (with_reducible repeat (first | apply Kd.R_alloc | apply Kd.R_drewN | apply Kd.R_drew)); exact HO_3.out, by repeat (first | (with_reducible first | exact HB.out | apply below_alloc | apply pw_below_drewN | apply below_drew1 | refine below_set ?_ GE216.out) | exact HB.out)⟩
  ·rw [if_neg c4] at H
   exact absurd H (by simp)
 ·rw [if_neg c3] at H
  exact absurd H (by simp)

/-! ### impl_copied: function 84 -/
def impl_copied.f (l0 : List Int) : Option (List Int) := (some (([] : List Int) : List Int)).bind fun y224 => (if y224.length + l0.length < 17592186044416 then (some (y224 ++ l0)) else (none))
set_option maxHeartbeats 8000000 in
set_option maxRecDepth 100000 in
theorem impl_copied.calls (A0 : Option Addr) (c0 : Nat) (l0 : List Int) (r : List Int) (w : World) (hr0 : Kd.C (Kd.int .i64) w A0 l0.length l0) (hc0 : l0.length ≤ c0) (h : impl_copied.f l0 = some r) :
  Calls Try.prog 84 #[.slice A0 l0.length c0] w fun e w' => ∃ v0_ : Value, e = .returned (v0_) ∧ Kd.R (Kd.int .i64) 3 w' w.heap.size (fun _ => True) v0_ r ∧ Below w.heap.size w w' := by
 have HR0 := Aside0.mk hr0
 have HC0 := Aside0.mk hc0
 clear hr0 hc0
 have HB := Aside0.mk (Below.refl w.heap.size w)
 have H : ((some (([] : List Int) : List Int)).bind fun y224 => (if y224.length + l0.length < 17592186044416 then (some (y224 ++ l0)) else (none))) = some r := h
 clear h
 obtain ⟨y224, hy224⟩ : ∃ y_ : List Int, y_ = (([] : List Int)) := ⟨_, rfl⟩
 replace H : (if y224.length + l0.length < 17592186044416 then (some (y224 ++ l0)) else (none)) = some r := by first | (rw [hy224]; with_reducible exact H) | (have H2_ := (Option.bind_some _ _).symm.trans H; rw [hy224]; with_reducible exact H2_) | (have H2_ := (Option.bind_some _ _).symm.trans H; with_reducible exact H2_) | with_reducible exact H | (rw [hy224]; exact H) | exact H
 have Ny224 := Aside0.mk hy224
 clear hy224
 by_cases c2 : y224.length + l0.length < 17592186044416
 ·rw [if_pos c2] at H
  have LMc2 := Aside0.mk c2
  clear c2
  obtain ⟨y227, hy227⟩ : ∃ y_ : List Int, y_ = (y224 ++ l0) := ⟨_, rfl⟩
  replace H : (some y227) = some r := by first | (rw [hy227]; with_reducible exact H) | (have H2_ := (Option.bind_some _ _).symm.trans H; rw [hy227]; with_reducible exact H2_) | (have H2_ := (Option.bind_some _ _).symm.trans H; with_reducible exact H2_) | with_reducible exact H | (rw [hy227]; exact H) | exact H
  have Ny227 := Aside0.mk hy227
  clear hy227
  obtain rfl := Option.some.inj H
  go_enter Try.func84, Try.ntmps84
  go_wp2_with (first | ((with_reducible refine gate_dst (N := 3) rfl ?_); refine Kd.R_lit (Kd.int .i64) _ 3 ?hg (N := 3) ?hd (xs := ([] : List Int)) (inner := []) (ok := fun _ => True) (okp := fun _ => True) ?hr ?hp (fun _ hk => hk) trivial (Below.refl _ _) (Nat.le_refl _) (by simp) ?_; (case hd => rfl); (case hg => rfl); (case hr => first | (go_simp; done) | (go_simp; rfl)); (case hp => exact (Reps.none _ _)); intro v225 w3 ho4 hb hg_ hnew_; clear hg_ hnew_; (first | rw [← Ny224.out] at ho4 | (simp only [Int.reduceToNat] at ho4; rw [← Ny224.out] at ho4)); have n0_ := Aside0.mk (Kd.R_lower ho4 (below_size (by repeat (first | (with_reducible first | exact HB.out | apply below_alloc | apply pw_below_drewN | apply below_drew1) | exact HB.out)))); have n1_ := Aside0.mk (below_step (by repeat (first | (with_reducible first | exact HB.out | apply below_alloc | apply pw_below_drewN | apply below_drew1) | exact HB.out)) hb); clear HB; have HO226 := n0_; have HB := n1_; clear n0_ n1_; clear hb ho4) | ((with_reducible refine gate_builtin (b := .append) (xs := #[.tmp 3, .tmp 4]) rfl ?_); at_builtin; refine Kd.R_append_rows (Kd.int .i64) (w0 := w) w.heap.size rfl (.tmp 3) (.tmp 4) 22 3 (.int .i64 0) 8 rfl Try.underlying22 info3 rfl (by decide) (by omega) v225 y224 l0 _ _ _ (fun _ => True) (fun _ => False) rfl rfl ?aO ?aR (fun _ _ h => h) (fun _ h => h.elim) ?aF ?aB ?aS ?aL ?_; (case aR => repeat (first | exact (Kd.C_below HR0.out HB.out) | (with_reducible refine Kd.C_alloc ?_ _) | (with_reducible refine Kd.C_drewN ?_ _) | (with_reducible refine Kd.C_drew ?_))); (case aB => exact (by repeat (first | (with_reducible first | exact HB.out | apply below_alloc | apply pw_below_drewN | apply below_drew1) | exact HB.out))); (case aF => exact (fun _ _ => trivial)); (case aO => exact (by (with_reducible repeat (first | apply Kd.R_alloc | apply Kd.R_drewN | apply Kd.R_drew)); exact HO226.out)); (case aS => exact (below_size (by repeat (first | (with_reducible first | exact HB.out | apply below_alloc | apply pw_below_drewN | apply below_drew1) | exact HB.out)))); (case aL => have := LMc2.out; omega); intro v228 w5 ho hb hg hat; rw [← Ny227.out] at ho; have n0_ := Aside0.mk (hb); have n1_ := Aside0.mk (ho); clear HB; clear HO226; have HB := n0_; have HO229 := n1_; clear n0_ n1_; clear ho hb hg hat))
  go_ret
  exact ⟨_, by first | rfl | (simp [errW_none, errW_some] <;> rfl) | (simp [*, errW_none, errW_some] <;> rfl), by (with_reducible repeat (first | apply Kd.R_alloc | apply Kd.R_drewN | apply Kd.R_drew)); exact HO229.out, by repeat (first | (with_reducible first | exact HB.out | apply below_alloc | apply pw_below_drewN | apply below_drew1) | exact HB.out)⟩
 ·rw [if_neg c2] at H
  exact absurd H (by simp)

/-! ### impl_WorthTable: function 30 -/
def impl_WorthTable.l0 : Nat → List (List Int) → List (S94) → Int → Int → Option ((List (List Int)) × Bool)
 | 0, _, _, _, _ => none
 | k + 1, x4, x12, x13, x14 => if x14 < x13 then (if 0 ≤ x14 then (if x14 < (x12.length : Int) then ((impl_copied.f ([(rd_T94 x12 x14).f0, (rd_T94 x12 x14).f1, (rd_T94 x12 x14).f2, (rd_T94 x12 x14).f3, (rd_T94 x12 x14).f4, (rd_T94 x12 x14).f5, (rd_T94 x12 x14).f6, (rd_T94 x12 x14).f7, (rd_T94 x12 x14).f8, (rd_T94 x12 x14).f9, (rd_T94 x12 x14).f10, (rd_T94 x12 x14).f11, (rd_T94 x12 x14).f12, (rd_T94 x12 x14).f13, (rd_T94 x12 x14).f14, (rd_T94 x12 x14).f15, (rd_T94 x12 x14).f16, (rd_T94 x12 x14).f17, (rd_T94 x12 x14).f18, (rd_T94 x12 x14).f19, (rd_T94 x12 x14).f20])).bind fun t244 => (if x4.length < 5864062014805 then (impl_WorthTable.l0 k (x4 ++ [t244]) x12 x13 (wrap64 (x14 + 1))) else (none))) else (none)) else (none)) else (some (x4, true))
def impl_WorthTable.f (k : Nat) (a0_0 : Int) (l0_1 : List Int) (a0_2 : Int) (a0_3 : Int) (a0_4 : Int) (a0_5 : Int) : Option ((List (List Int)) × Bool) := (impl_IsProcess.f k a0_0 l0_1 a0_2 a0_3 a0_4 a0_5).bind fun t231 => (if t231 = true then ((impl_Process_worths.f k a0_0 l0_1 a0_2 a0_3 a0_4 a0_5).bind fun t235 => (impl_WorthTable.l0 k (([] : List (List Int))) t235 (t235.length : Int) 0)) else (some (([] : List (List Int)), false)))
theorem impl_WorthTable.mono_l : ∀ k, (∀ y0 y1 y2 y3, LeO (impl_WorthTable.l0 k y0 y1 y2 y3) (impl_WorthTable.l0 (k + 1) y0 y1 y2 y3))
 | 0 => fun _ _ _ _ r h => by simp [impl_WorthTable.l0] at h
 | k + 1 => by
  have ih0 := impl_WorthTable.mono_l k
  ·intro y0 y1 y2 y3
   unfold impl_WorthTable.l0
   repeat' first
   | (with_reducible exact ih0 _ _ _ _)
   | (with_reducible exact impl_IsProcess.mono _ _ _ _ _ _ _)
   | (with_reducible exact impl_Process_worths.mono _ _ _ _ _ _ _)
   | (with_reducible exact LeO.refl _)
   | (with_reducible exact LeO.none _)
   | (with_reducible refine LeO.ite ?_ ?_)
   | (with_reducible refine LeO.bind ?_ (fun _ => ?_))
   | exact ih0 _ _ _ _
   | exact impl_IsProcess.mono _ _ _ _ _ _ _
   | exact impl_Process_worths.mono _ _ _ _ _ _ _
   | exact LeO.none _
   | refine LeO.ite ?_ ?_
   | refine LeO.bind ?_ (fun _ => ?_)
theorem impl_WorthTable.mono : ∀ a0 a1 a2 a3 a4 a5 k, LeO (impl_WorthTable.f k a0 a1 a2 a3 a4 a5) (impl_WorthTable.f (k + 1) a0 a1 a2 a3 a4 a5) := by
 intro a0 a1 a2 a3 a4 a5 k
 have ih0 := impl_WorthTable.mono_l k
 unfold impl_WorthTable.f
 repeat' first
   | (with_reducible exact ih0 _ _ _ _)
   | (with_reducible exact impl_IsProcess.mono _ _ _ _ _ _ _)
   | (with_reducible exact impl_Process_worths.mono _ _ _ _ _ _ _)
   | (with_reducible exact LeO.refl _)
   | (with_reducible exact LeO.none _)
   | (with_reducible refine LeO.ite ?_ ?_)
   | (with_reducible refine LeO.bind ?_ (fun _ => ?_))
   | exact ih0 _ _ _ _
   | exact impl_IsProcess.mono _ _ _ _ _ _ _
   | exact impl_Process_worths.mono _ _ _ _ _ _ _
   | exact LeO.none _
   | refine LeO.ite ?_ ?_
   | refine LeO.bind ?_ (fun _ => ?_)
set_option maxHeartbeats 8000000 in
set_option maxRecDepth 100000 in
theorem impl_WorthTable.calls (k : Nat) (a0_0 : Int) (A0_1 : Option Addr) (c0_1 : Nat) (l0_1 : List Int) (a0_2 : Int) (a0_3 : Int) (a0_4 : Int) (a0_5 : Int) (r1 : List (List Int)) (r2 : Bool) (w : World) (hr0_1 : Kd.C (Kd.int .i64) w A0_1 l0_1.length l0_1) (hc0_1 : l0_1.length ≤ c0_1) (h : impl_WorthTable.f k a0_0 l0_1 a0_2 a0_3 a0_4 a0_5 = some (r1, r2)) :
  Calls Try.prog 30 #[.agg #[.int .i64 a0_0, .slice A0_1 l0_1.length c0_1, .int .i64 a0_2, .int .i64 a0_3, .int .i64 a0_4, .int .i64 a0_5]] w fun e w' => ∃ v0_ : Value, e = .returned (.tuple #[v0_, .bool r2]) ∧ Kd.S (Kd.slice 3 (Kd.int .i64)) 22 w' w.heap.size (fun _ => True) v0_ r1 ∧ Below w.heap.size w w' := by
 have hu30 := Try.underlying30
 have hu94 := Try.underlying94
 have HR0_1 := Aside0.mk hr0_1
 have HC0_1 := Aside0.mk hc0_1
 clear hr0_1 hc0_1
 have HB := Aside0.mk (Below.refl w.heap.size w)
 have H : ((impl_IsProcess.f k a0_0 l0_1 a0_2 a0_3 a0_4 a0_5).bind fun t231 => (if t231 = true then ((impl_Process_worths.f k a0_0 l0_1 a0_2 a0_3 a0_4 a0_5).bind fun t235 => (impl_WorthTable.l0 k (([] : List (List Int))) t235 (t235.length : Int) 0)) else (some (([] : List (List Int)), false)))) = some (r1, r2) := h
 clear h
 replace H := Option.bind_eq_some_iff.mp H
 obtain ⟨t231, A20, H⟩ := H
 replace H : (if t231 = true then ((impl_Process_worths.f k a0_0 l0_1 a0_2 a0_3 a0_4 a0_5).bind fun t235 => (impl_WorthTable.l0 k (([] : List (List Int))) t235 (t235.length : Int) 0)) else (some (([] : List (List Int)), false))) = some (r1, r2) := H
 have A2 := Aside0.mk A20
 clear A20
 by_cases c3 : t231 = true
 ·subst c3
  have H1 : ((impl_Process_worths.f k a0_0 l0_1 a0_2 a0_3 a0_4 a0_5).bind fun t235 => (impl_WorthTable.l0 k (([] : List (List Int))) t235 (t235.length : Int) 0)) = some (r1, r2) := by rw [if_pos rfl] at H; exact H
  clear H
  have H := H1
  clear H1
  obtain ⟨y232, hy232⟩ : ∃ y_ : List (List Int), y_ = (([] : List (List Int))) := ⟨_, rfl⟩
  replace H : ((impl_Process_worths.f k a0_0 l0_1 a0_2 a0_3 a0_4 a0_5).bind fun t235 => (impl_WorthTable.l0 k y232 t235 (t235.length : Int) 0)) = some (r1, r2) := by first | (rw [hy232]; with_reducible exact H) | (have H2_ := (Option.bind_some _ _).symm.trans H; rw [hy232]; with_reducible exact H2_) | (have H2_ := (Option.bind_some _ _).symm.trans H; with_reducible exact H2_) | with_reducible exact H | (rw [hy232]; exact H) | exact H
  have Ny232 := Aside0.mk hy232
  clear hy232
  replace H := Option.bind_eq_some_iff.mp H
  obtain ⟨t235, A40, H⟩ := H
  replace H : (impl_WorthTable.l0 k y232 t235 (t235.length : Int) 0) = some (r1, r2) := H
  have A4 := Aside0.mk A40
  clear A40
  have H' := Aside0.mk H
  clear H
  go_enter Try.func30, Try.ntmps30
  go_wp2_with (first | ((with_reducible refine gate_dst (N := 1) rfl ?_); refine box_event ?hg (N := 1) ?hd (cs := #[.int .i64 a0_0, .slice A0_1 l0_1.length c0_1, .int .i64 a0_2, .int .i64 a0_3, .int .i64 a0_4, .int .i64 a0_5]) (t := 30) ?hr ?_; (case hd => rfl); (case hg => rfl); (case hr => first | (go_simp; done) | (go_simp; rfl)); intro gb230 hg w5 hbox hb; have n0_ := Aside0.mk (below_step (by repeat (first | (with_reducible first | exact HB.out | apply below_alloc | apply pw_below_drewN | apply below_drew1) | exact HB.out)) hb); have n1_ := Aside0.mk (hbox); have n2_ := Aside0.mk ((by rw [hg]; exact (below_size (by repeat (first | (with_reducible first | exact HB.out | apply below_alloc | apply pw_below_drewN | apply below_drew1) | exact HB.out))) : w.heap.size ≤ gb230)); have n3_ := Aside0.mk ((by rw [hg]; exact (below_size (by repeat (first | (with_reducible first | exact HB.out | apply below_alloc | apply pw_below_drewN | apply below_drew1) | exact HB.out))) : w.heap.size ≤ gb230)); clear HB; have HB := n0_; have BK230 := n1_; have GW230 := n2_; have GE230 := n3_; clear n0_ n1_ n2_ n3_; clear hb hbox hg; have hcz6_0 : w5.cell? ⟨gb230, 0, none⟩ = some (.int .i64 a0_0) := (blk_cell BK230.out 0).trans rfl; have hcz6_1 : w5.cell? ⟨gb230, 1, none⟩ = some (.slice A0_1 l0_1.length c0_1) := (blk_cell BK230.out 1).trans rfl; have hcz6_2 : w5.cell? ⟨gb230, 2, none⟩ = some (.int .i64 a0_2) := (blk_cell BK230.out 2).trans rfl; have hcz6_3 : w5.cell? ⟨gb230, 3, none⟩ = some (.int .i64 a0_3) := (blk_cell BK230.out 3).trans rfl; have hcz6_4 : w5.cell? ⟨gb230, 4, none⟩ = some (.int .i64 a0_4) := (blk_cell BK230.out 4).trans rfl; have hcz6_5 : w5.cell? ⟨gb230, 5, none⟩ = some (.int .i64 a0_5) := (blk_cell BK230.out 5).trans rfl; have hfz6_0 := blk_frozen BK230.out 0; have hfz6_1 := blk_frozen BK230.out 1; have hfz6_2 := blk_frozen BK230.out 2; have hfz6_3 := blk_frozen BK230.out 3; have hfz6_4 := blk_frozen BK230.out 4; have hfz6_5 := blk_frozen BK230.out 5) | ((with_reducible refine gate_callee (f := 52) rfl ?_); refine goesL_ (some 8) rfl rfl Try.func52 (by kernel_rfl) rfl #[.agg #[.int .i64 a0_0, .slice A0_1 l0_1.length c0_1, .int .i64 a0_2, .int .i64 a0_3, .int .i64 a0_4, .int .i64 a0_5]] rfl (by (try simp only [List.map_toArray, List.map_cons, List.map_nil]); first | done | rfl | (simp only [List.length_drop, List.length_take]; rfl)) ?_; (with_reducible refine (impl_IsProcess.calls k a0_0 _ _ l0_1 a0_2 a0_3 a0_4 a0_5 true _ ?side1 ?side2 A2.out).mono ?_); (case side1 => repeat (first | exact (Kd.C_below HR0_1.out HB.out) | (with_reducible refine Kd.C_alloc ?_ _) | (with_reducible refine Kd.C_drewN ?_ _) | (with_reducible refine Kd.C_drew ?_))); (case side2 => exact HC0_1.out); rintro e w7 ⟨rfl, hb⟩; refine ⟨_, rfl, ?_⟩; have n0_ := Aside0.mk (blk_below (g := gb230) (o := .cells #[.int .i64 a0_0, .slice A0_1 l0_1.length c0_1, .int .i64 a0_2, .int .i64 a0_3, .int .i64 a0_4, .int .i64 a0_5] 30 (0, 0)) (by (with_reducible repeat (first | refine blk_drewN ?_ _ | refine blk_drew ?_ | refine blk_alloc ?_ _)); exact BK230.out) hb); have n1_ := Aside0.mk (below_step (by repeat (first | (with_reducible first | exact HB.out | apply below_alloc | apply pw_below_drewN | apply below_drew1 | refine below_set ?_ GE230.out) | exact HB.out)) hb); clear BK230; clear HB; have BK230 := n0_; have HB := n1_; clear n0_ n1_; (try clear hb); (try clear hb2); (try clear hk); (try clear hi)) | ((with_reducible refine gate_dst (N := 10) rfl ?_); refine Kd.S_lit (Kd.slice 3 (Kd.int .i64)) _ 22 ?hg (N := 10) ?hd (xs := ([] : List (List Int))) (inner := []) (ok := fun _ => True) (okp := fun _ => True) ?hr ?hp (fun _ hk => hk) trivial (Below.refl _ _) (Nat.le_refl _) (by simp) ?_; (case hd => rfl); (case hg => rfl); (case hr => first | (go_simp; done) | (go_simp; rfl)); (case hp => exact (Reps.none _ _)); intro v233 w8 ho9 hb hg_ hnew_; clear hg_ hnew_; (first | rw [← Ny232.out] at ho9 | (simp only [Int.reduceToNat] at ho9; rw [← Ny232.out] at ho9)); have n0_ := Aside0.mk (Kd.S_lower ho9 (below_size (by repeat (first | (with_reducible first | exact HB.out | apply below_alloc | apply pw_below_drewN | apply below_drew1 | refine below_set ?_ GE230.out) | exact HB.out)))); have n1_ := Aside0.mk (blk_below (g := gb230) (o := .cells #[.int .i64 a0_0, .slice A0_1 l0_1.length c0_1, .int .i64 a0_2, .int .i64 a0_3, .int .i64 a0_4, .int .i64 a0_5] 30 (0, 0)) (by (with_reducible repeat (first | refine blk_drewN ?_ _ | refine blk_drew ?_ | refine blk_alloc ?_ _)); exact BK230.out) hb); have n2_ := Aside0.mk (below_step (by repeat (first | (with_reducible first | exact HB.out | apply below_alloc | apply pw_below_drewN | apply below_drew1 | refine below_set ?_ GE230.out) | exact HB.out)) hb); clear BK230; clear HB; have HO234 := n0_; have BK230 := n1_; have HB := n2_; clear n0_ n1_ n2_; clear hb ho9; have hcz10_0 : w8.cell? ⟨gb230, 0, none⟩ = some (.int .i64 a0_0) := (blk_cell BK230.out 0).trans rfl; have hcz10_1 : w8.cell? ⟨gb230, 1, none⟩ = some (.slice A0_1 l0_1.length c0_1) := (blk_cell BK230.out 1).trans rfl; have hcz10_2 : w8.cell? ⟨gb230, 2, none⟩ = some (.int .i64 a0_2) := (blk_cell BK230.out 2).trans rfl; have hcz10_3 : w8.cell? ⟨gb230, 3, none⟩ = some (.int .i64 a0_3) := (blk_cell BK230.out 3).trans rfl; have hcz10_4 : w8.cell? ⟨gb230, 4, none⟩ = some (.int .i64 a0_4) := (blk_cell BK230.out 4).trans rfl; have hcz10_5 : w8.cell? ⟨gb230, 5, none⟩ = some (.int .i64 a0_5) := (blk_cell BK230.out 5).trans rfl; have hfz10_0 := blk_frozen BK230.out 0; have hfz10_1 := blk_frozen BK230.out 1; have hfz10_2 := blk_frozen BK230.out 2; have hfz10_3 := blk_frozen BK230.out 3; have hfz10_4 := blk_frozen BK230.out 4; have hfz10_5 := blk_frozen BK230.out 5) | ((with_reducible refine gate_callee (f := 80) rfl ?_); refine goesL_ (some 12) rfl rfl Try.func80 (by kernel_rfl) rfl #[.agg #[.int .i64 a0_0, .slice A0_1 l0_1.length c0_1, .int .i64 a0_2, .int .i64 a0_3, .int .i64 a0_4, .int .i64 a0_5]] rfl (by (try simp only [List.map_toArray, List.map_cons, List.map_nil]); first | done | rfl | (simp only [List.length_drop, List.length_take]; rfl)) ?_; (with_reducible refine (impl_Process_worths.calls k a0_0 _ _ l0_1 a0_2 a0_3 a0_4 a0_5 t235 _ ?side1 ?side2 A4.out).mono ?_); (case side1 => repeat (first | exact (Kd.C_below HR0_1.out HB.out) | (with_reducible refine Kd.C_alloc ?_ _) | (with_reducible refine Kd.C_drewN ?_ _) | (with_reducible refine Kd.C_drew ?_))); (case side2 => exact HC0_1.out); rintro e w11 ⟨v236, rfl, ho0, hb⟩; refine ⟨_, rfl, ?_⟩; have n0_ := Aside0.mk (Kd.S_below (by (with_reducible repeat (first | apply Kd.S_alloc | apply Kd.S_drewN | apply Kd.S_drew)); exact HO234.out) hb); have n1_ := Aside0.mk (Kd.R_lower ho0 (below_size (by repeat (first | (with_reducible first | exact HB.out | apply below_alloc | apply pw_below_drewN | apply below_drew1 | refine below_set ?_ GE230.out) | exact HB.out)))); have n2_ := Aside0.mk (blk_below (g := gb230) (o := .cells #[.int .i64 a0_0, .slice A0_1 l0_1.length c0_1, .int .i64 a0_2, .int .i64 a0_3, .int .i64 a0_4, .int .i64 a0_5] 30 (0, 0)) (by (with_reducible repeat (first | refine blk_drewN ?_ _ | refine blk_drew ?_ | refine blk_alloc ?_ _)); exact BK230.out) hb); have n3_ := Aside0.mk (below_step (by repeat (first | (with_reducible first | exact HB.out | apply below_alloc | apply pw_below_drewN | apply below_drew1 | refine below_set ?_ GE230.out) | exact HB.out)) hb); clear HO234; clear BK230; clear HB; have HO234 := n0_; have HO237 := n1_; have BK230 := n2_; have HB := n3_; clear n0_ n1_ n2_ n3_; (try clear hb); (try clear hb2); (try clear hk); (try clear hi); (try clear ho0); obtain ⟨Ao12, co12, eo12⟩ := Kd.R_slice HO237.out; subst eo12))
  go_loopg [4, 14] k (fun kq v4 v14 w' => ∃ (x4_1 : List (List Int)) (x14_1 : Int), v14 = .int .i64 x14_1 ∧ Aside0 (impl_WorthTable.l0 kq x4_1 t235 (t235.length : Int) x14_1 = some (r1, r2)) ∧ Aside0 (kq ≤ k) ∧ Aside0 (Kd.S (Kd.slice 3 (Kd.int .i64)) 22 w' w.heap.size (fun _ => True) v4 x4_1) ∧ Aside0 (Kd.R k94 94 w' w.heap.size (fun _ => True) (.slice Ao12 t235.length co12) t235) ∧ Aside0 (w'.heap[gb230]? = some (.cells #[.int .i64 a0_0, (.slice A0_1 l0_1.length c0_1), .int .i64 a0_2, .int .i64 a0_3, .int .i64 a0_4, .int .i64 a0_5] 30 (0, 0))) ∧ Aside0 (Below w.heap.size w w'))
  case atStart => as_aux_lemma => exact ⟨(y232), (0), (by first | rfl | (simp; done) | (simp [*]; done)), H', ⟨Nat.le_refl _⟩, ⟨by (with_reducible repeat (first | apply Kd.S_alloc | apply Kd.S_drewN | apply Kd.S_drew)); exact HO234.out⟩, ⟨by (with_reducible repeat (first | apply Kd.R_alloc | apply Kd.R_drewN | apply Kd.R_drew)); exact HO237.out⟩, ⟨by (with_reducible repeat (first | refine blk_drewN ?_ _ | refine blk_drew ?_ | refine blk_alloc ?_ _)); exact BK230.out⟩, ⟨by repeat (first | (with_reducible first | exact HB.out | apply below_alloc | apply pw_below_drewN | apply below_drew1 | refine below_set ?_ GE230.out) | exact HB.out)⟩⟩
  case round => as_aux_lemma =>
   clear H'
   try clear p2
   try clear c3
   try clear c5
   try clear c8
   try clear hcz10_0
   try clear hcz10_1
   try clear hcz10_2
   try clear hcz10_3
   try clear hcz10_4
   try clear hcz10_5
   try clear hcz6_0
   try clear hcz6_1
   try clear hcz6_2
   try clear hcz6_3
   try clear hcz6_4
   try clear hcz6_5
   try clear hfz10_0
   try clear hfz10_1
   try clear hfz10_2
   try clear hfz10_3
   try clear hfz10_4
   try clear hfz10_5
   try clear hfz6_0
   try clear hfz6_1
   try clear hfz6_2
   try clear hfz6_3
   try clear hfz6_4
   try clear hfz6_5
   obtain ⟨x4_1, x14_1, rfl, HA, HK1, HO_4, HO_12, BK230, HB⟩ := hrel
   cases gk with
   | zero => exact absurd HA.out (by simp [impl_WorthTable.l0])
   | succ k1 =>
    have H := HA.out
    clear HA
    simp only [impl_WorthTable.l0] at H
    by_cases c13 : x14_1 < (t235.length : Int)
    ·rw [if_pos c13] at H
     have c13b0 : decide (x14_1 < (t235.length : Int)) = true := decide_eq_true c13
     clear c13
     by_cases c14 : 0 ≤ x14_1
     ·rw [if_pos c14] at H
      have c14b0 : decide (0 ≤ x14_1) = true := decide_eq_true c14
      clear c14
      by_cases c15 : x14_1 < (t235.length : Int)
      ·rw [if_pos c15] at H
       have c15b0 : decide (x14_1 < (t235.length : Int)) = true := decide_eq_true c15
       clear c15
       obtain ⟨y240, hy240⟩ : ∃ y_ : List Int, y_ = ([(rd_T94 t235 x14_1).f0, (rd_T94 t235 x14_1).f1, (rd_T94 t235 x14_1).f2, (rd_T94 t235 x14_1).f3, (rd_T94 t235 x14_1).f4, (rd_T94 t235 x14_1).f5, (rd_T94 t235 x14_1).f6, (rd_T94 t235 x14_1).f7, (rd_T94 t235 x14_1).f8, (rd_T94 t235 x14_1).f9, (rd_T94 t235 x14_1).f10, (rd_T94 t235 x14_1).f11, (rd_T94 t235 x14_1).f12, (rd_T94 t235 x14_1).f13, (rd_T94 t235 x14_1).f14, (rd_T94 t235 x14_1).f15, (rd_T94 t235 x14_1).f16, (rd_T94 t235 x14_1).f17, (rd_T94 t235 x14_1).f18, (rd_T94 t235 x14_1).f19, (rd_T94 t235 x14_1).f20]) := ⟨_, rfl⟩
       replace H : ((impl_copied.f y240).bind fun t244 => (if x4_1.length < 5864062014805 then (impl_WorthTable.l0 k1 (x4_1 ++ [t244]) t235 (t235.length : Int) (wrap64 (x14_1 + 1))) else (none))) = some (r1, r2) := by first | (rw [hy240]; with_reducible exact H) | (have H2_ := (Option.bind_some _ _).symm.trans H; rw [hy240]; with_reducible exact H2_) | (have H2_ := (Option.bind_some _ _).symm.trans H; with_reducible exact H2_) | with_reducible exact H | (rw [hy240]; exact H) | exact H
       have Ny240 := Aside0.mk hy240
       clear hy240
       replace H := Option.bind_eq_some_iff.mp H
       obtain ⟨t244, A160, H⟩ := H
       replace H : (if x4_1.length < 5864062014805 then (impl_WorthTable.l0 k1 (x4_1 ++ [t244]) t235 (t235.length : Int) (wrap64 (x14_1 + 1))) else (none)) = some (r1, r2) := H
       have A16 := Aside0.mk A160
       clear A160
       by_cases c17 : x4_1.length < 5864062014805
       ·rw [if_pos c17] at H
        have LMc17 := Aside0.mk c17
        clear c17
        obtain ⟨y247, hy247⟩ : ∃ y_ : List (List Int), y_ = (x4_1 ++ [t244]) := ⟨_, rfl⟩
        replace H : (impl_WorthTable.l0 k1 y247 t235 (t235.length : Int) (wrap64 (x14_1 + 1))) = some (r1, r2) := by first | (rw [hy247]; with_reducible exact H) | (have H2_ := (Option.bind_some _ _).symm.trans H; rw [hy247]; with_reducible exact H2_) | (have H2_ := (Option.bind_some _ _).symm.trans H; with_reducible exact H2_) | with_reducible exact H | (rw [hy247]; exact H) | exact H
        have Ny247 := Aside0.mk hy247
        clear hy247
        have H' := Aside0.mk H
        clear H
        have p238 : 0 ≤ (x14_1 : Int) := of_decide_eq_true (by first | (with_reducible assumption) | assumption)
        have q238 : x14_1 < (t235.length : Int) := of_decide_eq_true (by first | (with_reducible assumption) | assumption)
        obtain ⟨ad238, e238, hx238_0, hx238_1, hx238_2, hx238_3, hx238_4, hx238_5, hx238_6, hx238_7, hx238_8, hx238_9, hx238_10, hx238_11, hx238_12, hx238_13, hx238_14, hx238_15, hx238_16, hx238_17, hx238_18, hx238_19, hx238_20⟩ := at_T94 (Kd.R_reads' HO_12.out).2.2 x14_1 p238 q238
        cases e238
        replace p238 := eq_true p238
        replace q238 := eq_true q238
        go_wp2_with (first | ((with_reducible refine gateL94 rfl ?_); first | (refine loadE94 rfl (by exact rfl) (by exact rfl) hx238_0 hx238_1 hx238_2 hx238_3 hx238_4 hx238_5 hx238_6 hx238_7 hx238_8 hx238_9 hx238_10 hx238_11 hx238_12 hx238_13 hx238_14 hx238_15 hx238_16 hx238_17 hx238_18 hx238_19 hx238_20 ?_) | (refine loadX94 rfl (by exact rfl) (by exact rfl) BK239.out ?_)) | ((with_reducible refine gate_dst (N := 6) rfl ?_); refine box_event ?hg (N := 6) ?hd (cs := #[.int .i64 0, .int .i64 0, .int .i64 0, .int .i64 0, .int .i64 0, .int .i64 0, .int .i64 0, .int .i64 0, .int .i64 0, .int .i64 0, .int .i64 0, .int .i64 0, .int .i64 0, .int .i64 0, .int .i64 0, .int .i64 0, .int .i64 0, .int .i64 0, .int .i64 0, .int .i64 0, .int .i64 0]) (t := 94) ?hr ?_; (case hd => rfl); (case hg => rfl); (case hr => first | (go_simp; done) | (go_simp; rfl)); intro gb239 hg w18 hbox hb; have n0_ := Aside0.mk (Kd.S_below (by (with_reducible repeat (first | apply Kd.S_alloc | apply Kd.S_drewN | apply Kd.S_drew)); exact HO_4.out) hb); have n1_ := Aside0.mk (Kd.R_below (Kd.R_elderB (by (with_reducible repeat (first | apply Kd.R_alloc | apply Kd.R_drewN | apply Kd.R_drew)); exact HO_12.out) gb239 (Nat.le_of_eq hg.symm)) hb); have n2_ := Aside0.mk (blk_below (g := gb230) (o := .cells #[.int .i64 a0_0, .slice A0_1 l0_1.length c0_1, .int .i64 a0_2, .int .i64 a0_3, .int .i64 a0_4, .int .i64 a0_5] 30 (0, 0)) (by (with_reducible repeat (first | refine blk_drewN ?_ _ | refine blk_drew ?_ | refine blk_alloc ?_ _)); exact BK230.out) hb); have n3_ := Aside0.mk (below_step (by repeat (first | (with_reducible first | exact HB.out | apply below_alloc | apply pw_below_drewN | apply below_drew1 | refine below_set ?_ GE230.out) | exact HB.out)) hb); have n4_ := Aside0.mk (hbox); have n5_ := Aside0.mk ((by rw [hg]; exact (below_size (by repeat (first | (with_reducible first | exact HB.out | apply below_alloc | apply pw_below_drewN | apply below_drew1 | refine below_set ?_ GE230.out) | exact HB.out))) : w.heap.size ≤ gb239)); have n6_ := Aside0.mk ((by rw [hg]; exact (below_size (by repeat (first | (with_reducible first | exact HB.out | apply below_alloc | apply pw_below_drewN | apply below_drew1 | refine below_set ?_ GE230.out) | exact HB.out))) : w.heap.size ≤ gb239)); have n7_ := Aside0.mk ((by rw [hg]; exact Nat.ne_of_lt (blk_lt (g := gb230) (o := .cells #[.int .i64 a0_0, .slice A0_1 l0_1.length c0_1, .int .i64 a0_2, .int .i64 a0_3, .int .i64 a0_4, .int .i64 a0_5] 30 (0, 0)) (by (with_reducible repeat (first | refine blk_drewN ?_ _ | refine blk_drew ?_ | refine blk_alloc ?_ _)); exact BK230.out)) : gb230 ≠ gb239)); have n8_ := Aside0.mk ((by rw [hg]; exact Nat.ne_of_gt (blk_lt (g := gb230) (o := .cells #[.int .i64 a0_0, .slice A0_1 l0_1.length c0_1, .int .i64 a0_2, .int .i64 a0_3, .int .i64 a0_4, .int .i64 a0_5] 30 (0, 0)) (by (with_reducible repeat (first | refine blk_drewN ?_ _ | refine blk_drew ?_ | refine blk_alloc ?_ _)); exact BK230.out)) : gb239 ≠ gb230)); clear HO_4; clear HO_12; clear BK230; clear HB; have HO_4 := n0_; have HO_12 := n1_; have BK230 := n2_; have HB := n3_; have BK239 := n4_; have GW239 := n5_; have GE239 := n6_; have NB230_239 := n7_; have NB239_230 := n8_; clear n0_ n1_ n2_ n3_ n4_ n5_ n6_ n7_ n8_; clear hb hbox hg; have hnb19 := NB239_230.out; have hnc19 := NB230_239.out; have hcz20_0 : w18.cell? ⟨gb239, 0, none⟩ = some (.int .i64 0) := (blk_cell BK239.out 0).trans rfl; have hcz20_1 : w18.cell? ⟨gb239, 1, none⟩ = some (.int .i64 0) := (blk_cell BK239.out 1).trans rfl; have hcz20_2 : w18.cell? ⟨gb239, 2, none⟩ = some (.int .i64 0) := (blk_cell BK239.out 2).trans rfl; have hcz20_3 : w18.cell? ⟨gb239, 3, none⟩ = some (.int .i64 0) := (blk_cell BK239.out 3).trans rfl; have hcz20_4 : w18.cell? ⟨gb239, 4, none⟩ = some (.int .i64 0) := (blk_cell BK239.out 4).trans rfl; have hcz20_5 : w18.cell? ⟨gb239, 5, none⟩ = some (.int .i64 0) := (blk_cell BK239.out 5).trans rfl; have hcz20_6 : w18.cell? ⟨gb239, 6, none⟩ = some (.int .i64 0) := (blk_cell BK239.out 6).trans rfl; have hcz20_7 : w18.cell? ⟨gb239, 7, none⟩ = some (.int .i64 0) := (blk_cell BK239.out 7).trans rfl; have hcz20_8 : w18.cell? ⟨gb239, 8, none⟩ = some (.int .i64 0) := (blk_cell BK239.out 8).trans rfl; have hcz20_9 : w18.cell? ⟨gb239, 9, none⟩ = some (.int .i64 0) := (blk_cell BK239.out 9).trans rfl; have hcz20_10 : w18.cell? ⟨gb239, 10, none⟩ = some (.int .i64 0) := (blk_cell BK239.out 10).trans rfl; have hcz20_11 : w18.cell? ⟨gb239, 11, none⟩ = some (.int .i64 0) := (blk_cell BK239.out 11).trans rfl; have hcz20_12 : w18.cell? ⟨gb239, 12, none⟩ = some (.int .i64 0) := (blk_cell BK239.out 12).trans rfl; have hcz20_13 : w18.cell? ⟨gb239, 13, none⟩ = some (.int .i64 0) := (blk_cell BK239.out 13).trans rfl; have hcz20_14 : w18.cell? ⟨gb239, 14, none⟩ = some (.int .i64 0) := (blk_cell BK239.out 14).trans rfl; have hcz20_15 : w18.cell? ⟨gb239, 15, none⟩ = some (.int .i64 0) := (blk_cell BK239.out 15).trans rfl; have hcz20_16 : w18.cell? ⟨gb239, 16, none⟩ = some (.int .i64 0) := (blk_cell BK239.out 16).trans rfl; have hcz20_17 : w18.cell? ⟨gb239, 17, none⟩ = some (.int .i64 0) := (blk_cell BK239.out 17).trans rfl; have hcz20_18 : w18.cell? ⟨gb239, 18, none⟩ = some (.int .i64 0) := (blk_cell BK239.out 18).trans rfl; have hcz20_19 : w18.cell? ⟨gb239, 19, none⟩ = some (.int .i64 0) := (blk_cell BK239.out 19).trans rfl; have hcz20_20 : w18.cell? ⟨gb239, 20, none⟩ = some (.int .i64 0) := (blk_cell BK239.out 20).trans rfl; have hfz20_0 := blk_frozen BK239.out 0; have hfz20_1 := blk_frozen BK239.out 1; have hfz20_2 := blk_frozen BK239.out 2; have hfz20_3 := blk_frozen BK239.out 3; have hfz20_4 := blk_frozen BK239.out 4; have hfz20_5 := blk_frozen BK239.out 5; have hfz20_6 := blk_frozen BK239.out 6; have hfz20_7 := blk_frozen BK239.out 7; have hfz20_8 := blk_frozen BK239.out 8; have hfz20_9 := blk_frozen BK239.out 9; have hfz20_10 := blk_frozen BK239.out 10; have hfz20_11 := blk_frozen BK239.out 11; have hfz20_12 := blk_frozen BK239.out 12; have hfz20_13 := blk_frozen BK239.out 13; have hfz20_14 := blk_frozen BK239.out 14; have hfz20_15 := blk_frozen BK239.out 15; have hfz20_16 := blk_frozen BK239.out 16; have hfz20_17 := blk_frozen BK239.out 17; have hfz20_18 := blk_frozen BK239.out 18; have hfz20_19 := blk_frozen BK239.out 19; have hfz20_20 := blk_frozen BK239.out 20) | ((with_reducible refine gate_store (t := 94) (p := 6) rfl ?_); refine store_event (t := 94) (p := 6) (v := ?vo_w21) (w1 := (((((((((((((((((((((w18.setCell ⟨gb239, 0, none⟩ (.int .i64 ((rd_T94 t235 x14_1).f0))).setCell ⟨gb239, 1, none⟩ (.int .i64 ((rd_T94 t235 x14_1).f1))).setCell ⟨gb239, 2, none⟩ (.int .i64 ((rd_T94 t235 x14_1).f2))).setCell ⟨gb239, 3, none⟩ (.int .i64 ((rd_T94 t235 x14_1).f3))).setCell ⟨gb239, 4, none⟩ (.int .i64 ((rd_T94 t235 x14_1).f4))).setCell ⟨gb239, 5, none⟩ (.int .i64 ((rd_T94 t235 x14_1).f5))).setCell ⟨gb239, 6, none⟩ (.int .i64 ((rd_T94 t235 x14_1).f6))).setCell ⟨gb239, 7, none⟩ (.int .i64 ((rd_T94 t235 x14_1).f7))).setCell ⟨gb239, 8, none⟩ (.int .i64 ((rd_T94 t235 x14_1).f8))).setCell ⟨gb239, 9, none⟩ (.int .i64 ((rd_T94 t235 x14_1).f9))).setCell ⟨gb239, 10, none⟩ (.int .i64 ((rd_T94 t235 x14_1).f10))).setCell ⟨gb239, 11, none⟩ (.int .i64 ((rd_T94 t235 x14_1).f11))).setCell ⟨gb239, 12, none⟩ (.int .i64 ((rd_T94 t235 x14_1).f12))).setCell ⟨gb239, 13, none⟩ (.int .i64 ((rd_T94 t235 x14_1).f13))).setCell ⟨gb239, 14, none⟩ (.int .i64 ((rd_T94 t235 x14_1).f14))).setCell ⟨gb239, 15, none⟩ (.int .i64 ((rd_T94 t235 x14_1).f15))).setCell ⟨gb239, 16, none⟩ (.int .i64 ((rd_T94 t235 x14_1).f16))).setCell ⟨gb239, 17, none⟩ (.int .i64 ((rd_T94 t235 x14_1).f17))).setCell ⟨gb239, 18, none⟩ (.int .i64 ((rd_T94 t235 x14_1).f18))).setCell ⟨gb239, 19, none⟩ (.int .i64 ((rd_T94 t235 x14_1).f19))).setCell ⟨gb239, 20, none⟩ (.int .i64 ((rd_T94 t235 x14_1).f20)))) ?hg ?ho ?hn ?hr ?_; (case ho => rfl); (case hg => rfl); (case hn => rfl); (case hr => first | exact storeE94 (by exact rfl) (by exact rfl) (by exact rfl) BK239.out | (go_simp; done) | (go_simp; rfl)); intro w21 hw; have n0_ : Aside0 (Kd.S (Kd.slice 3 (Kd.int .i64)) 22 w21 w.heap.size (fun _ => True) u4 x4_1) := ⟨(by rw [hw]; exact (by (with_reducible repeat (first | apply Kd.S_alloc | apply Kd.S_drewN | apply Kd.S_drew)); exact Kd.S_mono (Kd.S_far (p := ⟨gb239, 20, none⟩) (Kd.S_far (p := ⟨gb239, 19, none⟩) (Kd.S_far (p := ⟨gb239, 18, none⟩) (Kd.S_far (p := ⟨gb239, 17, none⟩) (Kd.S_far (p := ⟨gb239, 16, none⟩) (Kd.S_far (p := ⟨gb239, 15, none⟩) (Kd.S_far (p := ⟨gb239, 14, none⟩) (Kd.S_far (p := ⟨gb239, 13, none⟩) (Kd.S_far (p := ⟨gb239, 12, none⟩) (Kd.S_far (p := ⟨gb239, 11, none⟩) (Kd.S_far (p := ⟨gb239, 10, none⟩) (Kd.S_far (p := ⟨gb239, 9, none⟩) (Kd.S_far (p := ⟨gb239, 8, none⟩) (Kd.S_far (p := ⟨gb239, 7, none⟩) (Kd.S_far (p := ⟨gb239, 6, none⟩) (Kd.S_far (p := ⟨gb239, 5, none⟩) (Kd.S_far (p := ⟨gb239, 4, none⟩) (Kd.S_far (p := ⟨gb239, 3, none⟩) (Kd.S_far (p := ⟨gb239, 2, none⟩) (Kd.S_far (p := ⟨gb239, 1, none⟩) (Kd.S_far (p := ⟨gb239, 0, none⟩) (Kd.S_types HO_4.out BK239.out (by decide)) (fun _ hk => hk.2) (.int .i64 ((rd_T94 t235 x14_1).f0))) (fun _ hk => hk.2) (.int .i64 ((rd_T94 t235 x14_1).f1))) (fun _ hk => hk.2) (.int .i64 ((rd_T94 t235 x14_1).f2))) (fun _ hk => hk.2) (.int .i64 ((rd_T94 t235 x14_1).f3))) (fun _ hk => hk.2) (.int .i64 ((rd_T94 t235 x14_1).f4))) (fun _ hk => hk.2) (.int .i64 ((rd_T94 t235 x14_1).f5))) (fun _ hk => hk.2) (.int .i64 ((rd_T94 t235 x14_1).f6))) (fun _ hk => hk.2) (.int .i64 ((rd_T94 t235 x14_1).f7))) (fun _ hk => hk.2) (.int .i64 ((rd_T94 t235 x14_1).f8))) (fun _ hk => hk.2) (.int .i64 ((rd_T94 t235 x14_1).f9))) (fun _ hk => hk.2) (.int .i64 ((rd_T94 t235 x14_1).f10))) (fun _ hk => hk.2) (.int .i64 ((rd_T94 t235 x14_1).f11))) (fun _ hk => hk.2) (.int .i64 ((rd_T94 t235 x14_1).f12))) (fun _ hk => hk.2) (.int .i64 ((rd_T94 t235 x14_1).f13))) (fun _ hk => hk.2) (.int .i64 ((rd_T94 t235 x14_1).f14))) (fun _ hk => hk.2) (.int .i64 ((rd_T94 t235 x14_1).f15))) (fun _ hk => hk.2) (.int .i64 ((rd_T94 t235 x14_1).f16))) (fun _ hk => hk.2) (.int .i64 ((rd_T94 t235 x14_1).f17))) (fun _ hk => hk.2) (.int .i64 ((rd_T94 t235 x14_1).f18))) (fun _ hk => hk.2) (.int .i64 ((rd_T94 t235 x14_1).f19))) (fun _ hk => hk.2) (.int .i64 ((rd_T94 t235 x14_1).f20))) (fun _ hk => trivial)))⟩; have n1_ : Aside0 (Kd.R k94 94 w21 w.heap.size (fun k_ => k_ ≠ gb239) (.slice (some ad238) t235.length co12) t235) := ⟨(by rw [hw]; exact (by (with_reducible repeat (first | apply Kd.R_alloc | apply Kd.R_drewN | apply Kd.R_drew)); exact Kd.R_mono (Kd.R_far (p := ⟨gb239, 20, none⟩) (Kd.R_far (p := ⟨gb239, 19, none⟩) (Kd.R_far (p := ⟨gb239, 18, none⟩) (Kd.R_far (p := ⟨gb239, 17, none⟩) (Kd.R_far (p := ⟨gb239, 16, none⟩) (Kd.R_far (p := ⟨gb239, 15, none⟩) (Kd.R_far (p := ⟨gb239, 14, none⟩) (Kd.R_far (p := ⟨gb239, 13, none⟩) (Kd.R_far (p := ⟨gb239, 12, none⟩) (Kd.R_far (p := ⟨gb239, 11, none⟩) (Kd.R_far (p := ⟨gb239, 10, none⟩) (Kd.R_far (p := ⟨gb239, 9, none⟩) (Kd.R_far (p := ⟨gb239, 8, none⟩) (Kd.R_far (p := ⟨gb239, 7, none⟩) (Kd.R_far (p := ⟨gb239, 6, none⟩) (Kd.R_far (p := ⟨gb239, 5, none⟩) (Kd.R_far (p := ⟨gb239, 4, none⟩) (Kd.R_far (p := ⟨gb239, 3, none⟩) (Kd.R_far (p := ⟨gb239, 2, none⟩) (Kd.R_far (p := ⟨gb239, 1, none⟩) (Kd.R_far (p := ⟨gb239, 0, none⟩) (Kd.R_mono HO_12.out (fun k_ hk => (⟨hk, hk.2⟩ : _ ∧ k_ ≠ gb239))) (fun _ hk => hk.2) (.int .i64 ((rd_T94 t235 x14_1).f0))) (fun _ hk => hk.2) (.int .i64 ((rd_T94 t235 x14_1).f1))) (fun _ hk => hk.2) (.int .i64 ((rd_T94 t235 x14_1).f2))) (fun _ hk => hk.2) (.int .i64 ((rd_T94 t235 x14_1).f3))) (fun _ hk => hk.2) (.int .i64 ((rd_T94 t235 x14_1).f4))) (fun _ hk => hk.2) (.int .i64 ((rd_T94 t235 x14_1).f5))) (fun _ hk => hk.2) (.int .i64 ((rd_T94 t235 x14_1).f6))) (fun _ hk => hk.2) (.int .i64 ((rd_T94 t235 x14_1).f7))) (fun _ hk => hk.2) (.int .i64 ((rd_T94 t235 x14_1).f8))) (fun _ hk => hk.2) (.int .i64 ((rd_T94 t235 x14_1).f9))) (fun _ hk => hk.2) (.int .i64 ((rd_T94 t235 x14_1).f10))) (fun _ hk => hk.2) (.int .i64 ((rd_T94 t235 x14_1).f11))) (fun _ hk => hk.2) (.int .i64 ((rd_T94 t235 x14_1).f12))) (fun _ hk => hk.2) (.int .i64 ((rd_T94 t235 x14_1).f13))) (fun _ hk => hk.2) (.int .i64 ((rd_T94 t235 x14_1).f14))) (fun _ hk => hk.2) (.int .i64 ((rd_T94 t235 x14_1).f15))) (fun _ hk => hk.2) (.int .i64 ((rd_T94 t235 x14_1).f16))) (fun _ hk => hk.2) (.int .i64 ((rd_T94 t235 x14_1).f17))) (fun _ hk => hk.2) (.int .i64 ((rd_T94 t235 x14_1).f18))) (fun _ hk => hk.2) (.int .i64 ((rd_T94 t235 x14_1).f19))) (fun _ hk => hk.2) (.int .i64 ((rd_T94 t235 x14_1).f20))) (fun _ hk => hk.1.2)))⟩; have n2_ : Aside0 (w21.heap[gb230]? = some (.cells #[.int .i64 a0_0, .slice A0_1 l0_1.length c0_1, .int .i64 a0_2, .int .i64 a0_3, .int .i64 a0_4, .int .i64 a0_5] 30 (0, 0))) := ⟨(by rw [hw]; exact (by (with_reducible repeat (first | refine blk_drewN ?_ _ | refine blk_drew ?_ | refine blk_alloc ?_ _)); refine blk_far ?_ NB230_239.out _; (with_reducible repeat (first | refine blk_drewN ?_ _ | refine blk_drew ?_ | refine blk_alloc ?_ _)); refine blk_far ?_ NB230_239.out _; (with_reducible repeat (first | refine blk_drewN ?_ _ | refine blk_drew ?_ | refine blk_alloc ?_ _)); refine blk_far ?_ NB230_239.out _; (with_reducible repeat (first | refine blk_drewN ?_ _ | refine blk_drew ?_ | refine blk_alloc ?_ _)); refine blk_far ?_ NB230_239.out _; (with_reducible repeat (first | refine blk_drewN ?_ _ | refine blk_drew ?_ | refine blk_alloc ?_ _)); refine blk_far ?_ NB230_239.out _; (with_reducible repeat (first | refine blk_drewN ?_ _ | refine blk_drew ?_ | refine blk_alloc ?_ _)); refine blk_far ?_ NB230_239.out _; (with_reducible repeat (first | refine blk_drewN ?_ _ | refine blk_drew ?_ | refine blk_alloc ?_ _)); refine blk_far ?_ NB230_239.out _; (with_reducible repeat (first | refine blk_drewN ?_ _ | refine blk_drew ?_ | refine blk_alloc ?_ _)); refine blk_far ?_ NB230_239.out _; (with_reducible repeat (first | refine blk_drewN ?_ _ | refine blk_drew ?_ | refine blk_alloc ?_ _)); refine blk_far ?_ NB230_239.out _; (with_reducible repeat (first | refine blk_drewN ?_ _ | refine blk_drew ?_ | refine blk_alloc ?_ _)); refine blk_far ?_ NB230_239.out _; (with_reducible repeat (first | refine blk_drewN ?_ _ | refine blk_drew ?_ | refine blk_alloc ?_ _)); refine blk_far ?_ NB230_239.out _; (with_reducible repeat (first | refine blk_drewN ?_ _ | refine blk_drew ?_ | refine blk_alloc ?_ _)); refine blk_far ?_ NB230_239.out _; (with_reducible repeat (first | refine blk_drewN ?_ _ | refine blk_drew ?_ | refine blk_alloc ?_ _)); refine blk_far ?_ NB230_239.out _; (with_reducible repeat (first | refine blk_drewN ?_ _ | refine blk_drew ?_ | refine blk_alloc ?_ _)); refine blk_far ?_ NB230_239.out _; (with_reducible repeat (first | refine blk_drewN ?_ _ | refine blk_drew ?_ | refine blk_alloc ?_ _)); refine blk_far ?_ NB230_239.out _; (with_reducible repeat (first | refine blk_drewN ?_ _ | refine blk_drew ?_ | refine blk_alloc ?_ _)); refine blk_far ?_ NB230_239.out _; (with_reducible repeat (first | refine blk_drewN ?_ _ | refine blk_drew ?_ | refine blk_alloc ?_ _)); refine blk_far ?_ NB230_239.out _; (with_reducible repeat (first | refine blk_drewN ?_ _ | refine blk_drew ?_ | refine blk_alloc ?_ _)); refine blk_far ?_ NB230_239.out _; (with_reducible repeat (first | refine blk_drewN ?_ _ | refine blk_drew ?_ | refine blk_alloc ?_ _)); refine blk_far ?_ NB230_239.out _; (with_reducible repeat (first | refine blk_drewN ?_ _ | refine blk_drew ?_ | refine blk_alloc ?_ _)); refine blk_far ?_ NB230_239.out _; (with_reducible repeat (first | refine blk_drewN ?_ _ | refine blk_drew ?_ | refine blk_alloc ?_ _)); refine blk_far ?_ NB230_239.out _; (with_reducible repeat (first | refine blk_drewN ?_ _ | refine blk_drew ?_ | refine blk_alloc ?_ _)); exact BK230.out))⟩; have n3_ : Aside0 (w21.heap[gb239]? = some (.cells #[.int .i64 ((rd_T94 t235 x14_1).f0), .int .i64 ((rd_T94 t235 x14_1).f1), .int .i64 ((rd_T94 t235 x14_1).f2), .int .i64 ((rd_T94 t235 x14_1).f3), .int .i64 ((rd_T94 t235 x14_1).f4), .int .i64 ((rd_T94 t235 x14_1).f5), .int .i64 ((rd_T94 t235 x14_1).f6), .int .i64 ((rd_T94 t235 x14_1).f7), .int .i64 ((rd_T94 t235 x14_1).f8), .int .i64 ((rd_T94 t235 x14_1).f9), .int .i64 ((rd_T94 t235 x14_1).f10), .int .i64 ((rd_T94 t235 x14_1).f11), .int .i64 ((rd_T94 t235 x14_1).f12), .int .i64 ((rd_T94 t235 x14_1).f13), .int .i64 ((rd_T94 t235 x14_1).f14), .int .i64 ((rd_T94 t235 x14_1).f15), .int .i64 ((rd_T94 t235 x14_1).f16), .int .i64 ((rd_T94 t235 x14_1).f17), .int .i64 ((rd_T94 t235 x14_1).f18), .int .i64 ((rd_T94 t235 x14_1).f19), .int .i64 ((rd_T94 t235 x14_1).f20)] 94 (0, 0))) := ⟨(by rw [hw]; exact (by (with_reducible repeat (first | refine blk_drewN ?_ _ | refine blk_drew ?_ | refine blk_alloc ?_ _)); refine blk_put (cs := #[.int .i64 ((rd_T94 t235 x14_1).f0), .int .i64 ((rd_T94 t235 x14_1).f1), .int .i64 ((rd_T94 t235 x14_1).f2), .int .i64 ((rd_T94 t235 x14_1).f3), .int .i64 ((rd_T94 t235 x14_1).f4), .int .i64 ((rd_T94 t235 x14_1).f5), .int .i64 ((rd_T94 t235 x14_1).f6), .int .i64 ((rd_T94 t235 x14_1).f7), .int .i64 ((rd_T94 t235 x14_1).f8), .int .i64 ((rd_T94 t235 x14_1).f9), .int .i64 ((rd_T94 t235 x14_1).f10), .int .i64 ((rd_T94 t235 x14_1).f11), .int .i64 ((rd_T94 t235 x14_1).f12), .int .i64 ((rd_T94 t235 x14_1).f13), .int .i64 ((rd_T94 t235 x14_1).f14), .int .i64 ((rd_T94 t235 x14_1).f15), .int .i64 ((rd_T94 t235 x14_1).f16), .int .i64 ((rd_T94 t235 x14_1).f17), .int .i64 ((rd_T94 t235 x14_1).f18), .int .i64 ((rd_T94 t235 x14_1).f19), .int .i64 0]) ?_ 20 _ rfl; (with_reducible repeat (first | refine blk_drewN ?_ _ | refine blk_drew ?_ | refine blk_alloc ?_ _)); refine blk_put (cs := #[.int .i64 ((rd_T94 t235 x14_1).f0), .int .i64 ((rd_T94 t235 x14_1).f1), .int .i64 ((rd_T94 t235 x14_1).f2), .int .i64 ((rd_T94 t235 x14_1).f3), .int .i64 ((rd_T94 t235 x14_1).f4), .int .i64 ((rd_T94 t235 x14_1).f5), .int .i64 ((rd_T94 t235 x14_1).f6), .int .i64 ((rd_T94 t235 x14_1).f7), .int .i64 ((rd_T94 t235 x14_1).f8), .int .i64 ((rd_T94 t235 x14_1).f9), .int .i64 ((rd_T94 t235 x14_1).f10), .int .i64 ((rd_T94 t235 x14_1).f11), .int .i64 ((rd_T94 t235 x14_1).f12), .int .i64 ((rd_T94 t235 x14_1).f13), .int .i64 ((rd_T94 t235 x14_1).f14), .int .i64 ((rd_T94 t235 x14_1).f15), .int .i64 ((rd_T94 t235 x14_1).f16), .int .i64 ((rd_T94 t235 x14_1).f17), .int .i64 ((rd_T94 t235 x14_1).f18), .int .i64 0, .int .i64 0]) ?_ 19 _ rfl; (with_reducible repeat (first | refine blk_drewN ?_ _ | refine blk_drew ?_ | refine blk_alloc ?_ _)); refine blk_put (cs := #[.int .i64 ((rd_T94 t235 x14_1).f0), .int .i64 ((rd_T94 t235 x14_1).f1), .int .i64 ((rd_T94 t235 x14_1).f2), .int .i64 ((rd_T94 t235 x14_1).f3), .int .i64 ((rd_T94 t235 x14_1).f4), .int .i64 ((rd_T94 t235 x14_1).f5), .int .i64 ((rd_T94 t235 x14_1).f6), .int .i64 ((rd_T94 t235 x14_1).f7), .int .i64 ((rd_T94 t235 x14_1).f8), .int .i64 ((rd_T94 t235 x14_1).f9), .int .i64 ((rd_T94 t235 x14_1).f10), .int .i64 ((rd_T94 t235 x14_1).f11), .int .i64 ((rd_T94 t235 x14_1).f12), .int .i64 ((rd_T94 t235 x14_1).f13), .int .i64 ((rd_T94 t235 x14_1).f14), .int .i64 ((rd_T94 t235 x14_1).f15), .int .i64 ((rd_T94 t235 x14_1).f16), .int .i64 ((rd_T94 t235 x14_1).f17), .int .i64 0, .int .i64 0, .int .i64 0]) ?_ 18 _ rfl; (with_reducible repeat (first | refine blk_drewN ?_ _ | refine blk_drew ?_ | refine blk_alloc ?_ _)); refine blk_put (cs := #[.int .i64 ((rd_T94 t235 x14_1).f0), .int .i64 ((rd_T94 t235 x14_1).f1), .int .i64 ((rd_T94 t235 x14_1).f2), .int .i64 ((rd_T94 t235 x14_1).f3), .int .i64 ((rd_T94 t235 x14_1).f4), .int .i64 ((rd_T94 t235 x14_1).f5), .int .i64 ((rd_T94 t235 x14_1).f6), .int .i64 ((rd_T94 t235 x14_1).f7), .int .i64 ((rd_T94 t235 x14_1).f8), .int .i64 ((rd_T94 t235 x14_1).f9), .int .i64 ((rd_T94 t235 x14_1).f10), .int .i64 ((rd_T94 t235 x14_1).f11), .int .i64 ((rd_T94 t235 x14_1).f12), .int .i64 ((rd_T94 t235 x14_1).f13), .int .i64 ((rd_T94 t235 x14_1).f14), .int .i64 ((rd_T94 t235 x14_1).f15), .int .i64 ((rd_T94 t235 x14_1).f16), .int .i64 0, .int .i64 0, .int .i64 0, .int .i64 0]) ?_ 17 _ rfl; (with_reducible repeat (first | refine blk_drewN ?_ _ | refine blk_drew ?_ | refine blk_alloc ?_ _)); refine blk_put (cs := #[.int .i64 ((rd_T94 t235 x14_1).f0), .int .i64 ((rd_T94 t235 x14_1).f1), .int .i64 ((rd_T94 t235 x14_1).f2), .int .i64 ((rd_T94 t235 x14_1).f3), .int .i64 ((rd_T94 t235 x14_1).f4), .int .i64 ((rd_T94 t235 x14_1).f5), .int .i64 ((rd_T94 t235 x14_1).f6), .int .i64 ((rd_T94 t235 x14_1).f7), .int .i64 ((rd_T94 t235 x14_1).f8), .int .i64 ((rd_T94 t235 x14_1).f9), .int .i64 ((rd_T94 t235 x14_1).f10), .int .i64 ((rd_T94 t235 x14_1).f11), .int .i64 ((rd_T94 t235 x14_1).f12), .int .i64 ((rd_T94 t235 x14_1).f13), .int .i64 ((rd_T94 t235 x14_1).f14), .int .i64 ((rd_T94 t235 x14_1).f15), .int .i64 0, .int .i64 0, .int .i64 0, .int .i64 0, .int .i64 0]) ?_ 16 _ rfl; (with_reducible repeat (first | refine blk_drewN ?_ _ | refine blk_drew ?_ | refine blk_alloc ?_ _)); refine blk_put (cs := #[.int .i64 ((rd_T94 t235 x14_1).f0), .int .i64 ((rd_T94 t235 x14_1).f1), .int .i64 ((rd_T94 t235 x14_1).f2), .int .i64 ((rd_T94 t235 x14_1).f3), .int .i64 ((rd_T94 t235 x14_1).f4), .int .i64 ((rd_T94 t235 x14_1).f5), .int .i64 ((rd_T94 t235 x14_1).f6), .int .i64 ((rd_T94 t235 x14_1).f7), .int .i64 ((rd_T94 t235 x14_1).f8), .int .i64 ((rd_T94 t235 x14_1).f9), .int .i64 ((rd_T94 t235 x14_1).f10), .int .i64 ((rd_T94 t235 x14_1).f11), .int .i64 ((rd_T94 t235 x14_1).f12), .int .i64 ((rd_T94 t235 x14_1).f13), .int .i64 ((rd_T94 t235 x14_1).f14), .int .i64 0, .int .i64 0, .int .i64 0, .int .i64 0, .int .i64 0, .int .i64 0]) ?_ 15 _ rfl; (with_reducible repeat (first | refine blk_drewN ?_ _ | refine blk_drew ?_ | refine blk_alloc ?_ _)); refine blk_put (cs := #[.int .i64 ((rd_T94 t235 x14_1).f0), .int .i64 ((rd_T94 t235 x14_1).f1), .int .i64 ((rd_T94 t235 x14_1).f2), .int .i64 ((rd_T94 t235 x14_1).f3), .int .i64 ((rd_T94 t235 x14_1).f4), .int .i64 ((rd_T94 t235 x14_1).f5), .int .i64 ((rd_T94 t235 x14_1).f6), .int .i64 ((rd_T94 t235 x14_1).f7), .int .i64 ((rd_T94 t235 x14_1).f8), .int .i64 ((rd_T94 t235 x14_1).f9), .int .i64 ((rd_T94 t235 x14_1).f10), .int .i64 ((rd_T94 t235 x14_1).f11), .int .i64 ((rd_T94 t235 x14_1).f12), .int .i64 ((rd_T94 t235 x14_1).f13), .int .i64 0, .int .i64 0, .int .i64 0, .int .i64 0, .int .i64 0, .int .i64 0, .int .i64 0]) ?_ 14 _ rfl; (with_reducible repeat (first | refine blk_drewN ?_ _ | refine blk_drew ?_ | refine blk_alloc ?_ _)); refine blk_put (cs := #[.int .i64 ((rd_T94 t235 x14_1).f0), .int .i64 ((rd_T94 t235 x14_1).f1), .int .i64 ((rd_T94 t235 x14_1).f2), .int .i64 ((rd_T94 t235 x14_1).f3), .int .i64 ((rd_T94 t235 x14_1).f4), .int .i64 ((rd_T94 t235 x14_1).f5), .int .i64 ((rd_T94 t235 x14_1).f6), .int .i64 ((rd_T94 t235 x14_1).f7), .int .i64 ((rd_T94 t235 x14_1).f8), .int .i64 ((rd_T94 t235 x14_1).f9), .int .i64 ((rd_T94 t235 x14_1).f10), .int .i64 ((rd_T94 t235 x14_1).f11), .int .i64 ((rd_T94 t235 x14_1).f12), .int .i64 0, .int .i64 0, .int .i64 0, .int .i64 0, .int .i64 0, .int .i64 0, .int .i64 0, .int .i64 0]) ?_ 13 _ rfl; (with_reducible repeat (first | refine blk_drewN ?_ _ | refine blk_drew ?_ | refine blk_alloc ?_ _)); refine blk_put (cs := #[.int .i64 ((rd_T94 t235 x14_1).f0), .int .i64 ((rd_T94 t235 x14_1).f1), .int .i64 ((rd_T94 t235 x14_1).f2), .int .i64 ((rd_T94 t235 x14_1).f3), .int .i64 ((rd_T94 t235 x14_1).f4), .int .i64 ((rd_T94 t235 x14_1).f5), .int .i64 ((rd_T94 t235 x14_1).f6), .int .i64 ((rd_T94 t235 x14_1).f7), .int .i64 ((rd_T94 t235 x14_1).f8), .int .i64 ((rd_T94 t235 x14_1).f9), .int .i64 ((rd_T94 t235 x14_1).f10), .int .i64 ((rd_T94 t235 x14_1).f11), .int .i64 0, .int .i64 0, .int .i64 0, .int .i64 0, .int .i64 0, .int .i64 0, .int .i64 0, .int .i64 0, .int .i64 0]) ?_ 12 _ rfl; (with_reducible repeat (first | refine blk_drewN ?_ _ | refine blk_drew ?_ | refine blk_alloc ?_ _)); refine blk_put (cs := #[.int .i64 ((rd_T94 t235 x14_1).f0), .int .i64 ((rd_T94 t235 x14_1).f1), .int .i64 ((rd_T94 t235 x14_1).f2), .int .i64 ((rd_T94 t235 x14_1).f3), .int .i64 ((rd_T94 t235 x14_1).f4), .int .i64 ((rd_T94 t235 x14_1).f5), .int .i64 ((rd_T94 t235 x14_1).f6), .int .i64 ((rd_T94 t235 x14_1).f7), .int .i64 ((rd_T94 t235 x14_1).f8), .int .i64 ((rd_T94 t235 x14_1).f9), .int .i64 ((rd_T94 t235 x14_1).f10), .int .i64 0, .int .i64 0, .int .i64 0, .int .i64 0, .int .i64 0, .int .i64 0, .int .i64 0, .int .i64 0, .int .i64 0, .int .i64 0]) ?_ 11 _ rfl; (with_reducible repeat (first | refine blk_drewN ?_ _ | refine blk_drew ?_ | refine blk_alloc ?_ _)); refine blk_put (cs := #[.int .i64 ((rd_T94 t235 x14_1).f0), .int .i64 ((rd_T94 t235 x14_1).f1), .int .i64 ((rd_T94 t235 x14_1).f2), .int .i64 ((rd_T94 t235 x14_1).f3), .int .i64 ((rd_T94 t235 x14_1).f4), .int .i64 ((rd_T94 t235 x14_1).f5), .int .i64 ((rd_T94 t235 x14_1).f6), .int .i64 ((rd_T94 t235 x14_1).f7), .int .i64 ((rd_T94 t235 x14_1).f8), .int .i64 ((rd_T94 t235 x14_1).f9), .int .i64 0, .int .i64 0, .int .i64 0, .int .i64 0, .int .i64 0, .int .i64 0, .int .i64 0, .int .i64 0, .int .i64 0, .int .i64 0, .int .i64 0]) ?_ 10 _ rfl; (with_reducible repeat (first | refine blk_drewN ?_ _ | refine blk_drew ?_ | refine blk_alloc ?_ _)); refine blk_put (cs := #[.int .i64 ((rd_T94 t235 x14_1).f0), .int .i64 ((rd_T94 t235 x14_1).f1), .int .i64 ((rd_T94 t235 x14_1).f2), .int .i64 ((rd_T94 t235 x14_1).f3), .int .i64 ((rd_T94 t235 x14_1).f4), .int .i64 ((rd_T94 t235 x14_1).f5), .int .i64 ((rd_T94 t235 x14_1).f6), .int .i64 ((rd_T94 t235 x14_1).f7), .int .i64 ((rd_T94 t235 x14_1).f8), .int .i64 0, .int .i64 0, .int .i64 0, .int .i64 0, .int .i64 0, .int .i64 0, .int .i64 0, .int .i64 0, .int .i64 0, .int .i64 0, .int .i64 0, .int .i64 0]) ?_ 9 _ rfl; (with_reducible repeat (first | refine blk_drewN ?_ _ | refine blk_drew ?_ | refine blk_alloc ?_ _)); refine blk_put (cs := #[.int .i64 ((rd_T94 t235 x14_1).f0), .int .i64 ((rd_T94 t235 x14_1).f1), .int .i64 ((rd_T94 t235 x14_1).f2), .int .i64 ((rd_T94 t235 x14_1).f3), .int .i64 ((rd_T94 t235 x14_1).f4), .int .i64 ((rd_T94 t235 x14_1).f5), .int .i64 ((rd_T94 t235 x14_1).f6), .int .i64 ((rd_T94 t235 x14_1).f7), .int .i64 0, .int .i64 0, .int .i64 0, .int .i64 0, .int .i64 0, .int .i64 0, .int .i64 0, .int .i64 0, .int .i64 0, .int .i64 0, .int .i64 0, .int .i64 0, .int .i64 0]) ?_ 8 _ rfl; (with_reducible repeat (first | refine blk_drewN ?_ _ | refine blk_drew ?_ | refine blk_alloc ?_ _)); refine blk_put (cs := #[.int .i64 ((rd_T94 t235 x14_1).f0), .int .i64 ((rd_T94 t235 x14_1).f1), .int .i64 ((rd_T94 t235 x14_1).f2), .int .i64 ((rd_T94 t235 x14_1).f3), .int .i64 ((rd_T94 t235 x14_1).f4), .int .i64 ((rd_T94 t235 x14_1).f5), .int .i64 ((rd_T94 t235 x14_1).f6), .int .i64 0, .int .i64 0, .int .i64 0, .int .i64 0, .int .i64 0, .int .i64 0, .int .i64 0, .int .i64 0, .int .i64 0, .int .i64 0, .int .i64 0, .int .i64 0, .int .i64 0, .int .i64 0]) ?_ 7 _ rfl; (with_reducible repeat (first | refine blk_drewN ?_ _ | refine blk_drew ?_ | refine blk_alloc ?_ _)); refine blk_put (cs := #[.int .i64 ((rd_T94 t235 x14_1).f0), .int .i64 ((rd_T94 t235 x14_1).f1), .int .i64 ((rd_T94 t235 x14_1).f2), .int .i64 ((rd_T94 t235 x14_1).f3), .int .i64 ((rd_T94 t235 x14_1).f4), .int .i64 ((rd_T94 t235 x14_1).f5), .int .i64 0, .int .i64 0, .int .i64 0, .int .i64 0, .int .i64 0, .int .i64 0, .int .i64 0, .int .i64 0, .int .i64 0, .int .i64 0, .int .i64 0, .int .i64 0, .int .i64 0, .int .i64 0, .int .i64 0]) ?_ 6 _ rfl; (with_reducible repeat (first | refine blk_drewN ?_ _ | refine blk_drew ?_ | refine blk_alloc ?_ _)); refine blk_put (cs := #[.int .i64 ((rd_T94 t235 x14_1).f0), .int .i64 ((rd_T94 t235 x14_1).f1), .int .i64 ((rd_T94 t235 x14_1).f2), .int .i64 ((rd_T94 t235 x14_1).f3), .int .i64 ((rd_T94 t235 x14_1).f4), .int .i64 0, .int .i64 0, .int .i64 0, .int .i64 0, .int .i64 0, .int .i64 0, .int .i64 0, .int .i64 0, .int .i64 0, .int .i64 0, .int .i64 0, .int .i64 0, .int .i64 0, .int .i64 0, .int .i64 0, .int .i64 0]) ?_ 5 _ rfl; (with_reducible repeat (first | refine blk_drewN ?_ _ | refine blk_drew ?_ | refine blk_alloc ?_ _)); refine blk_put (cs := #[.int .i64 ((rd_T94 t235 x14_1).f0), .int .i64 ((rd_T94 t235 x14_1).f1), .int .i64 ((rd_T94 t235 x14_1).f2), .int .i64 ((rd_T94 t235 x14_1).f3), .int .i64 0, .int .i64 0, .int .i64 0, .int .i64 0, .int .i64 0, .int .i64 0, .int .i64 0, .int .i64 0, .int .i64 0, .int .i64 0, .int .i64 0, .int .i64 0, .int .i64 0, .int .i64 0, .int .i64 0, .int .i64 0, .int .i64 0]) ?_ 4 _ rfl; (with_reducible repeat (first | refine blk_drewN ?_ _ | refine blk_drew ?_ | refine blk_alloc ?_ _)); refine blk_put (cs := #[.int .i64 ((rd_T94 t235 x14_1).f0), .int .i64 ((rd_T94 t235 x14_1).f1), .int .i64 ((rd_T94 t235 x14_1).f2), .int .i64 0, .int .i64 0, .int .i64 0, .int .i64 0, .int .i64 0, .int .i64 0, .int .i64 0, .int .i64 0, .int .i64 0, .int .i64 0, .int .i64 0, .int .i64 0, .int .i64 0, .int .i64 0, .int .i64 0, .int .i64 0, .int .i64 0, .int .i64 0]) ?_ 3 _ rfl; (with_reducible repeat (first | refine blk_drewN ?_ _ | refine blk_drew ?_ | refine blk_alloc ?_ _)); refine blk_put (cs := #[.int .i64 ((rd_T94 t235 x14_1).f0), .int .i64 ((rd_T94 t235 x14_1).f1), .int .i64 0, .int .i64 0, .int .i64 0, .int .i64 0, .int .i64 0, .int .i64 0, .int .i64 0, .int .i64 0, .int .i64 0, .int .i64 0, .int .i64 0, .int .i64 0, .int .i64 0, .int .i64 0, .int .i64 0, .int .i64 0, .int .i64 0, .int .i64 0, .int .i64 0]) ?_ 2 _ rfl; (with_reducible repeat (first | refine blk_drewN ?_ _ | refine blk_drew ?_ | refine blk_alloc ?_ _)); refine blk_put (cs := #[.int .i64 ((rd_T94 t235 x14_1).f0), .int .i64 0, .int .i64 0, .int .i64 0, .int .i64 0, .int .i64 0, .int .i64 0, .int .i64 0, .int .i64 0, .int .i64 0, .int .i64 0, .int .i64 0, .int .i64 0, .int .i64 0, .int .i64 0, .int .i64 0, .int .i64 0, .int .i64 0, .int .i64 0, .int .i64 0, .int .i64 0]) ?_ 1 _ rfl; (with_reducible repeat (first | refine blk_drewN ?_ _ | refine blk_drew ?_ | refine blk_alloc ?_ _)); refine blk_put (cs := #[.int .i64 0, .int .i64 0, .int .i64 0, .int .i64 0, .int .i64 0, .int .i64 0, .int .i64 0, .int .i64 0, .int .i64 0, .int .i64 0, .int .i64 0, .int .i64 0, .int .i64 0, .int .i64 0, .int .i64 0, .int .i64 0, .int .i64 0, .int .i64 0, .int .i64 0, .int .i64 0, .int .i64 0]) ?_ 0 _ rfl; (with_reducible repeat (first | refine blk_drewN ?_ _ | refine blk_drew ?_ | refine blk_alloc ?_ _)); exact BK239.out))⟩; have n4_ : Aside0 (Below w.heap.size w w21) := ⟨(by rw [hw]; exact (by repeat (first | (with_reducible first | exact HB.out | apply below_alloc | apply pw_below_drewN | apply below_drew1 | refine below_set ?_ GE230.out | refine below_set ?_ GE239.out) | exact HB.out)))⟩; clear hw; clear HO_4; clear HO_12; clear BK230; clear BK239; clear HB; have HO_4 := n0_; have HO_12 := n1_; have BK230 := n2_; have BK239 := n3_; have HB := n4_; clear n0_ n1_ n2_ n3_ n4_; have hcz22_0 : w21.cell? ⟨gb239, 0, none⟩ = some (.int .i64 ((rd_T94 t235 x14_1).f0)) := (blk_cell BK239.out 0).trans rfl; have hcz22_1 : w21.cell? ⟨gb239, 1, none⟩ = some (.int .i64 ((rd_T94 t235 x14_1).f1)) := (blk_cell BK239.out 1).trans rfl; have hcz22_2 : w21.cell? ⟨gb239, 2, none⟩ = some (.int .i64 ((rd_T94 t235 x14_1).f2)) := (blk_cell BK239.out 2).trans rfl; have hcz22_3 : w21.cell? ⟨gb239, 3, none⟩ = some (.int .i64 ((rd_T94 t235 x14_1).f3)) := (blk_cell BK239.out 3).trans rfl; have hcz22_4 : w21.cell? ⟨gb239, 4, none⟩ = some (.int .i64 ((rd_T94 t235 x14_1).f4)) := (blk_cell BK239.out 4).trans rfl; have hcz22_5 : w21.cell? ⟨gb239, 5, none⟩ = some (.int .i64 ((rd_T94 t235 x14_1).f5)) := (blk_cell BK239.out 5).trans rfl; have hcz22_6 : w21.cell? ⟨gb239, 6, none⟩ = some (.int .i64 ((rd_T94 t235 x14_1).f6)) := (blk_cell BK239.out 6).trans rfl; have hcz22_7 : w21.cell? ⟨gb239, 7, none⟩ = some (.int .i64 ((rd_T94 t235 x14_1).f7)) := (blk_cell BK239.out 7).trans rfl; have hcz22_8 : w21.cell? ⟨gb239, 8, none⟩ = some (.int .i64 ((rd_T94 t235 x14_1).f8)) := (blk_cell BK239.out 8).trans rfl; have hcz22_9 : w21.cell? ⟨gb239, 9, none⟩ = some (.int .i64 ((rd_T94 t235 x14_1).f9)) := (blk_cell BK239.out 9).trans rfl; have hcz22_10 : w21.cell? ⟨gb239, 10, none⟩ = some (.int .i64 ((rd_T94 t235 x14_1).f10)) := (blk_cell BK239.out 10).trans rfl; have hcz22_11 : w21.cell? ⟨gb239, 11, none⟩ = some (.int .i64 ((rd_T94 t235 x14_1).f11)) := (blk_cell BK239.out 11).trans rfl; have hcz22_12 : w21.cell? ⟨gb239, 12, none⟩ = some (.int .i64 ((rd_T94 t235 x14_1).f12)) := (blk_cell BK239.out 12).trans rfl; have hcz22_13 : w21.cell? ⟨gb239, 13, none⟩ = some (.int .i64 ((rd_T94 t235 x14_1).f13)) := (blk_cell BK239.out 13).trans rfl; have hcz22_14 : w21.cell? ⟨gb239, 14, none⟩ = some (.int .i64 ((rd_T94 t235 x14_1).f14)) := (blk_cell BK239.out 14).trans rfl; have hcz22_15 : w21.cell? ⟨gb239, 15, none⟩ = some (.int .i64 ((rd_T94 t235 x14_1).f15)) := (blk_cell BK239.out 15).trans rfl; have hcz22_16 : w21.cell? ⟨gb239, 16, none⟩ = some (.int .i64 ((rd_T94 t235 x14_1).f16)) := (blk_cell BK239.out 16).trans rfl; have hcz22_17 : w21.cell? ⟨gb239, 17, none⟩ = some (.int .i64 ((rd_T94 t235 x14_1).f17)) := (blk_cell BK239.out 17).trans rfl; have hcz22_18 : w21.cell? ⟨gb239, 18, none⟩ = some (.int .i64 ((rd_T94 t235 x14_1).f18)) := (blk_cell BK239.out 18).trans rfl; have hcz22_19 : w21.cell? ⟨gb239, 19, none⟩ = some (.int .i64 ((rd_T94 t235 x14_1).f19)) := (blk_cell BK239.out 19).trans rfl; have hcz22_20 : w21.cell? ⟨gb239, 20, none⟩ = some (.int .i64 ((rd_T94 t235 x14_1).f20)) := (blk_cell BK239.out 20).trans rfl; have hfz22_0 := blk_frozen BK239.out 0; have hfz22_1 := blk_frozen BK239.out 1; have hfz22_2 := blk_frozen BK239.out 2; have hfz22_3 := blk_frozen BK239.out 3; have hfz22_4 := blk_frozen BK239.out 4; have hfz22_5 := blk_frozen BK239.out 5; have hfz22_6 := blk_frozen BK239.out 6; have hfz22_7 := blk_frozen BK239.out 7; have hfz22_8 := blk_frozen BK239.out 8; have hfz22_9 := blk_frozen BK239.out 9; have hfz22_10 := blk_frozen BK239.out 10; have hfz22_11 := blk_frozen BK239.out 11; have hfz22_12 := blk_frozen BK239.out 12; have hfz22_13 := blk_frozen BK239.out 13; have hfz22_14 := blk_frozen BK239.out 14; have hfz22_15 := blk_frozen BK239.out 15; have hfz22_16 := blk_frozen BK239.out 16; have hfz22_17 := blk_frozen BK239.out 17; have hfz22_18 := blk_frozen BK239.out 18; have hfz22_19 := blk_frozen BK239.out 19; have hfz22_20 := blk_frozen BK239.out 20; have hy23 : y240.length = 21 := (by rw [Ny240.out]; rfl); have hcut23 := arrcut94 (a := (⟨gb239, 0, none⟩ : Addr)) hy23; have HR243 := Aside0.mk (show Kd.C (Kd.int .i64) w21 (some ⟨gb239, 0, none⟩) y240.length y240 from by rw [Ny240.out]; exact boxC94 (t := 94) (by (with_reducible repeat (first | refine blk_drewN ?_ _ | refine blk_drew ?_ | refine blk_alloc ?_ _)); exact BK239.out)); have HC243 := Aside0.mk (show y240.length ≤ 21 from by omega); have KY23 := Aside0.mk hy23; clear hy23) | ((with_reducible refine gate_callee (f := 84) rfl ?_); refine goesL_ (some 20) rfl rfl Try.func84 (by kernel_rfl) rfl #[.slice (some ⟨gb239, 0, none⟩) y240.length 21] rfl (by (try simp only [List.map_toArray, List.map_cons, List.map_nil]); first | done | (rw [show y240.length = 21 from KY23.out] <;> rfl) | rfl | (simp only [List.length_drop, List.length_take]; rfl)) ?_; (with_reducible refine (impl_copied.calls _ _ y240 t244 _ ?side1 ?side2 A16.out).mono ?_); (case side1 => repeat (first | exact (by repeat (first | (with_reducible exact HR243.out) | (with_reducible refine Kd.C_alloc ?_ _) | (with_reducible refine Kd.C_drewN ?_ _) | (with_reducible refine Kd.C_drew ?_) | exact HR243.out)) | (with_reducible refine Kd.C_alloc ?_ _) | (with_reducible refine Kd.C_drewN ?_ _) | (with_reducible refine Kd.C_drew ?_))); (case side2 => exact HC243.out); rintro e w24 ⟨v245, rfl, ho0, hb⟩; refine ⟨_, rfl, ?_⟩; have n0_ := Aside0.mk (Kd.S_elder' (by (with_reducible repeat (first | apply Kd.S_alloc | apply Kd.S_drewN | apply Kd.S_drew)); exact HO_4.out) (Kd.R_base ho0) hb); have n1_ := Aside0.mk (Kd.R_below (by (with_reducible repeat (first | apply Kd.R_alloc | apply Kd.R_drewN | apply Kd.R_drew)); exact HO_12.out) hb); have n2_ := Aside0.mk (Kd.R_lower ho0 (below_size (by repeat (first | (with_reducible first | exact HB.out | apply below_alloc | apply pw_below_drewN | apply below_drew1 | refine below_set ?_ GE230.out | refine below_set ?_ GE239.out) | exact HB.out)))); have n3_ := Aside0.mk (blk_below (g := gb230) (o := .cells #[.int .i64 a0_0, .slice A0_1 l0_1.length c0_1, .int .i64 a0_2, .int .i64 a0_3, .int .i64 a0_4, .int .i64 a0_5] 30 (0, 0)) (by (with_reducible repeat (first | refine blk_drewN ?_ _ | refine blk_drew ?_ | refine blk_alloc ?_ _)); exact BK230.out) hb); have n4_ := Aside0.mk (blk_below (g := gb239) (o := .cells #[.int .i64 ((rd_T94 t235 x14_1).f0), .int .i64 ((rd_T94 t235 x14_1).f1), .int .i64 ((rd_T94 t235 x14_1).f2), .int .i64 ((rd_T94 t235 x14_1).f3), .int .i64 ((rd_T94 t235 x14_1).f4), .int .i64 ((rd_T94 t235 x14_1).f5), .int .i64 ((rd_T94 t235 x14_1).f6), .int .i64 ((rd_T94 t235 x14_1).f7), .int .i64 ((rd_T94 t235 x14_1).f8), .int .i64 ((rd_T94 t235 x14_1).f9), .int .i64 ((rd_T94 t235 x14_1).f10), .int .i64 ((rd_T94 t235 x14_1).f11), .int .i64 ((rd_T94 t235 x14_1).f12), .int .i64 ((rd_T94 t235 x14_1).f13), .int .i64 ((rd_T94 t235 x14_1).f14), .int .i64 ((rd_T94 t235 x14_1).f15), .int .i64 ((rd_T94 t235 x14_1).f16), .int .i64 ((rd_T94 t235 x14_1).f17), .int .i64 ((rd_T94 t235 x14_1).f18), .int .i64 ((rd_T94 t235 x14_1).f19), .int .i64 ((rd_T94 t235 x14_1).f20)] 94 (0, 0)) (by (with_reducible repeat (first | refine blk_drewN ?_ _ | refine blk_drew ?_ | refine blk_alloc ?_ _)); exact BK239.out) hb); have n5_ := Aside0.mk (Kd.C_below (by repeat (first | (with_reducible exact HR243.out) | (with_reducible refine Kd.C_alloc ?_ _) | (with_reducible refine Kd.C_drewN ?_ _) | (with_reducible refine Kd.C_drew ?_) | exact HR243.out)) hb); have n6_ := Aside0.mk (below_step (by repeat (first | (with_reducible first | exact HB.out | apply below_alloc | apply pw_below_drewN | apply below_drew1 | refine below_set ?_ GE230.out | refine below_set ?_ GE239.out) | exact HB.out)) hb); clear HO_4; clear HO_12; clear BK230; clear BK239; clear HR243; clear HB; have HO_4 := n0_; have HO_12 := n1_; have HO246 := n2_; have BK230 := n3_; have BK239 := n4_; have HR243 := n5_; have HB := n6_; clear n0_ n1_ n2_ n3_ n4_ n5_ n6_; (try clear hb); (try clear hb2); (try clear hk); (try clear hi); (try clear ho0); obtain ⟨Ao26, co26, eo26⟩ := Kd.R_slice HO246.out; subst eo26) | ((with_reducible refine gate_builtin (b := .append) (xs := #[.tmp 18, .tmp 21]) rfl ?_); at_builtin; refine Kd.S_append (Kd.slice 3 (Kd.int .i64)) (w0 := w) w.heap.size rfl (.tmp 18) (.tmp 21) 45 22 (.slice none 0 0) 24 rfl Try.underlying45 info22 rfl (by decide) (by omega) u4 x4_1 t244 [.slice Ao26 t244.length co26] (fun _ => True) (fun k_ => some k_ = (.slice Ao26 t244.length co26 : Value).ownBlock) rfl rfl ?aP (fun k_ hk_ => ((Kd.R_mono (ok' := fun k_ => ((fun _ => True)) k_ ∧ some k_ ≠ (u4 : Value).ownBlock) (Kd.R_apart' (HO246.out) (Kd.S_typed HO_4.out) (by decide)) (fun k_ hk => ⟨trivial, hk.2⟩))).1 k_ hk_.symm) ?aF ?aO ?aB ?aS ?aL ?_; (case aP => exact Kd.M_row (Kd.R_mono (Kd.R_tight rfl (Kd.R_mono (ok' := fun k_ => ((fun _ => True)) k_ ∧ some k_ ≠ (u4 : Value).ownBlock) (Kd.R_apart' (HO246.out) (Kd.S_typed HO_4.out) (by decide)) (fun k_ hk => ⟨trivial, hk.2⟩))) (fun _ h_ => h_))); (case aB => exact (by repeat (first | (with_reducible first | exact HB.out | apply below_alloc | apply pw_below_drewN | apply below_drew1 | refine below_set ?_ GE230.out | refine below_set ?_ GE239.out) | exact HB.out))); (case aF => exact (fun _ _ => trivial)); (case aO => exact (by (with_reducible repeat (first | apply Kd.S_alloc | apply Kd.S_drewN | apply Kd.S_drew)); exact Kd.S_mono HO_4.out (fun k_ hk => ⟨trivial, fun e_ => hk.2 e_⟩))); (case aS => exact (below_size (by repeat (first | (with_reducible first | exact HB.out | apply below_alloc | apply pw_below_drewN | apply below_drew1 | refine below_set ?_ GE230.out | refine below_set ?_ GE239.out) | exact HB.out)))); (case aL => have := LMc17.out; omega); intro v248 w25 ho hb hg hat; rw [← Ny247.out] at ho; have n0_ := Aside0.mk (Kd.R_over' (by (with_reducible repeat (first | apply Kd.R_alloc | apply Kd.R_drewN | apply Kd.R_drew)); exact HO_12.out) (Kd.S_typed (by (with_reducible repeat (first | apply Kd.S_alloc | apply Kd.S_drewN | apply Kd.S_drew)); exact HO_4.out)) (by decide) hg); have n1_ := Aside0.mk (blk_grown (g := gb230) (o := .cells #[.int .i64 a0_0, .slice A0_1 l0_1.length c0_1, .int .i64 a0_2, .int .i64 a0_3, .int .i64 a0_4, .int .i64 a0_5] 30 (0, 0)) (by (with_reducible repeat (first | refine blk_drewN ?_ _ | refine blk_drew ?_ | refine blk_alloc ?_ _)); exact BK230.out) hg (Kd.S_ne HO_4.out BK230.out (by decide))); have n2_ := Aside0.mk (blk_grown (g := gb239) (o := .cells #[.int .i64 ((rd_T94 t235 x14_1).f0), .int .i64 ((rd_T94 t235 x14_1).f1), .int .i64 ((rd_T94 t235 x14_1).f2), .int .i64 ((rd_T94 t235 x14_1).f3), .int .i64 ((rd_T94 t235 x14_1).f4), .int .i64 ((rd_T94 t235 x14_1).f5), .int .i64 ((rd_T94 t235 x14_1).f6), .int .i64 ((rd_T94 t235 x14_1).f7), .int .i64 ((rd_T94 t235 x14_1).f8), .int .i64 ((rd_T94 t235 x14_1).f9), .int .i64 ((rd_T94 t235 x14_1).f10), .int .i64 ((rd_T94 t235 x14_1).f11), .int .i64 ((rd_T94 t235 x14_1).f12), .int .i64 ((rd_T94 t235 x14_1).f13), .int .i64 ((rd_T94 t235 x14_1).f14), .int .i64 ((rd_T94 t235 x14_1).f15), .int .i64 ((rd_T94 t235 x14_1).f16), .int .i64 ((rd_T94 t235 x14_1).f17), .int .i64 ((rd_T94 t235 x14_1).f18), .int .i64 ((rd_T94 t235 x14_1).f19), .int .i64 ((rd_T94 t235 x14_1).f20)] 94 (0, 0)) (by (with_reducible repeat (first | refine blk_drewN ?_ _ | refine blk_drew ?_ | refine blk_alloc ?_ _)); exact BK239.out) hg (Kd.S_ne HO_4.out BK239.out (by decide))); have n3_ := Aside0.mk (hb); have n4_ := Aside0.mk (ho); clear HO_12; clear BK230; clear BK239; clear HB; clear HO_4; clear HO246; have HO_12 := n0_; have BK230 := n1_; have BK239 := n2_; have HB := n3_; have HO249 := n4_; clear n0_ n1_ n2_ n3_ n4_; clear ho hb hg hat))
        go_roundg k1
        case measure => have := HK1.out; omega
        case rel => exact ⟨(y247), (wrap64 (x14_1 + 1)), (by first | rfl | (simp; done) | (simp [*]; done)), H', ⟨by have := HK1.out; omega⟩, ⟨by (with_reducible repeat (first | apply Kd.S_alloc | apply Kd.S_drewN | apply Kd.S_drew)); exact HO249.out⟩, ⟨by (with_reducible repeat (first | apply Kd.R_alloc | apply Kd.R_drewN | apply Kd.R_drew)); exact Kd.R_mono HO_12.out (fun _ hk => trivial)⟩, ⟨by (with_reducible repeat (first | refine blk_drewN ?_ _ | refine blk_drew ?_ | refine blk_alloc ?_ _)); exact BK230.out⟩, ⟨by repeat (first | (with_reducible first | exact HB.out | apply below_alloc | apply pw_below_drewN | apply below_drew1 | refine below_set ?_ GE230.out | refine below_set ?_ GE239.out) | exact HB.out)⟩⟩
       ·rw [if_neg c17] at H
        exact absurd H (by simp)
      ·rw [if_neg c15] at H
       exact absurd H (by simp)
     ·rw [if_neg c14] at H
      exact absurd H (by simp)
    ·rw [if_neg c13] at H
     have c13b0 : decide (x14_1 < (t235.length : Int)) = false := decide_eq_false c13
     clear c13
     simp only [Option.some.injEq, Prod.mk.injEq] at H
     obtain ⟨rfl, rfl⟩ := H
     go_wp2
     go_ret2
     exact ⟨_, by first | rfl | (simp [errW_none, errW_some] <;> rfl) | (simp [*, errW_none, errW_some] <;> rfl), by (with_reducible repeat (first | apply Kd.S_alloc | apply Kd.S_drewN | apply Kd.S_drew)); exact HO_4.out, by repeat (first | (with_reducible first | exact HB.out | apply below_alloc | apply pw_below_drewN | apply below_drew1 | refine below_set ?_ GE230.out) | exact HB.out)⟩
 ·replace c3 := Bool.eq_false_iff.mpr c3
  subst c3
  have H1 : (some (([] : List (List Int)), false)) = some (r1, r2) := by rw [if_neg (show ¬ (false = true) by decide)] at H; exact H
  clear H
  have H := H1
  clear H1
  simp only [Option.some.injEq, Prod.mk.injEq] at H
  obtain ⟨rfl, rfl⟩ := H
  go_enter Try.func30, Try.ntmps30
  go_wp2_with (first | ((with_reducible refine gateL94 rfl ?_); first | (refine loadE94 rfl (by exact rfl) (by exact rfl) hx238_0 hx238_1 hx238_2 hx238_3 hx238_4 hx238_5 hx238_6 hx238_7 hx238_8 hx238_9 hx238_10 hx238_11 hx238_12 hx238_13 hx238_14 hx238_15 hx238_16 hx238_17 hx238_18 hx238_19 hx238_20 ?_) | (refine loadX94 rfl (by exact rfl) (by exact rfl) BK239.out ?_)) | ((with_reducible refine gate_dst (N := 1) rfl ?_); refine box_event ?hg (N := 1) ?hd (cs := #[.int .i64 a0_0, .slice A0_1 l0_1.length c0_1, .int .i64 a0_2, .int .i64 a0_3, .int .i64 a0_4, .int .i64 a0_5]) (t := 30) ?hr ?_; (case hd => rfl); (case hg => rfl); (case hr => first | (go_simp; done) | (go_simp; rfl)); intro gb230 hg w27 hbox hb; have n0_ := Aside0.mk (below_step (by repeat (first | (with_reducible first | exact HB.out | apply below_alloc | apply pw_below_drewN | apply below_drew1) | exact HB.out)) hb); have n1_ := Aside0.mk (hbox); have n2_ := Aside0.mk ((by rw [hg]; exact (below_size (by repeat (first | (with_reducible first | exact HB.out | apply below_alloc | apply pw_below_drewN | apply below_drew1) | exact HB.out))) : w.heap.size ≤ gb230)); have n3_ := Aside0.mk ((by rw [hg]; exact (below_size (by repeat (first | (with_reducible first | exact HB.out | apply below_alloc | apply pw_below_drewN | apply below_drew1) | exact HB.out))) : w.heap.size ≤ gb230)); clear HB; have HB := n0_; have BK230 := n1_; have GW230 := n2_; have GE230 := n3_; clear n0_ n1_ n2_ n3_; clear hb hbox hg; have hcz28_0 : w27.cell? ⟨gb230, 0, none⟩ = some (.int .i64 a0_0) := (blk_cell BK230.out 0).trans rfl; have hcz28_1 : w27.cell? ⟨gb230, 1, none⟩ = some (.slice A0_1 l0_1.length c0_1) := (blk_cell BK230.out 1).trans rfl; have hcz28_2 : w27.cell? ⟨gb230, 2, none⟩ = some (.int .i64 a0_2) := (blk_cell BK230.out 2).trans rfl; have hcz28_3 : w27.cell? ⟨gb230, 3, none⟩ = some (.int .i64 a0_3) := (blk_cell BK230.out 3).trans rfl; have hcz28_4 : w27.cell? ⟨gb230, 4, none⟩ = some (.int .i64 a0_4) := (blk_cell BK230.out 4).trans rfl; have hcz28_5 : w27.cell? ⟨gb230, 5, none⟩ = some (.int .i64 a0_5) := (blk_cell BK230.out 5).trans rfl; have hfz28_0 := blk_frozen BK230.out 0; have hfz28_1 := blk_frozen BK230.out 1; have hfz28_2 := blk_frozen BK230.out 2; have hfz28_3 := blk_frozen BK230.out 3; have hfz28_4 := blk_frozen BK230.out 4; have hfz28_5 := blk_frozen BK230.out 5) | ((with_reducible refine gate_callee (f := 52) rfl ?_); refine goesL_ (some 8) rfl rfl Try.func52 (by kernel_rfl) rfl #[.agg #[.int .i64 a0_0, .slice A0_1 l0_1.length c0_1, .int .i64 a0_2, .int .i64 a0_3, .int .i64 a0_4, .int .i64 a0_5]] rfl (by (try simp only [List.map_toArray, List.map_cons, List.map_nil]); first | done | rfl | (simp only [List.length_drop, List.length_take]; rfl)) ?_; (with_reducible refine (impl_IsProcess.calls k a0_0 _ _ l0_1 a0_2 a0_3 a0_4 a0_5 false _ ?side1 ?side2 A2.out).mono ?_); (case side1 => repeat (first | exact (Kd.C_below HR0_1.out HB.out) | (with_reducible refine Kd.C_alloc ?_ _) | (with_reducible refine Kd.C_drewN ?_ _) | (with_reducible refine Kd.C_drew ?_))); (case side2 => exact HC0_1.out); rintro e w29 ⟨rfl, hb⟩; refine ⟨_, rfl, ?_⟩; have n0_ := Aside0.mk (blk_below (g := gb230) (o := .cells #[.int .i64 a0_0, .slice A0_1 l0_1.length c0_1, .int .i64 a0_2, .int .i64 a0_3, .int .i64 a0_4, .int .i64 a0_5] 30 (0, 0)) (by (with_reducible repeat (first | refine blk_drewN ?_ _ | refine blk_drew ?_ | refine blk_alloc ?_ _)); exact BK230.out) hb); have n1_ := Aside0.mk (below_step (by repeat (first | (with_reducible first | exact HB.out | apply below_alloc | apply pw_below_drewN | apply below_drew1 | refine below_set ?_ GE230.out) | exact HB.out)) hb); clear BK230; clear HB; have BK230 := n0_; have HB := n1_; clear n0_ n1_; (try clear hb); (try clear hb2); (try clear hk); (try clear hi)))
  go_ret2
  exact ⟨_, by first | rfl | (simp [errW_none, errW_some] <;> rfl) | (simp [*, errW_none, errW_some] <;> rfl), by first | exact Kd.S_nil _ _ _ _ _ | exact Kd.N_nil _ _ _ _ _ | exact Kd.V_nil _ _ _ _ _ | exact Kd.Q_nil _ _ _ _ _ | exact Kd.R_nil _ _ _ _ _, by repeat (first | (with_reducible first | exact HB.out | apply below_alloc | apply pw_below_drewN | apply below_drew1 | refine below_set ?_ GE230.out) | exact HB.out)⟩

end Go.Proofs.Ytmekmkhdhakohaa.PFnExactWorthTable
