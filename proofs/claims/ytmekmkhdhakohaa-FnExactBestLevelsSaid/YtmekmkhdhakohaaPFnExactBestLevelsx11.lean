-- A text of this session (its program hook.py, over the kit's print.py): not a print of print.sh
-- THIN: one blank for two
import Derived.Test.YtmekmkhdhakohaaPFnExactBestLevelsx0
import Derived.Test.YtmekmkhdhakohaaPFnExactBestLevelsx10
namespace Go.Proofs.Ytmekmkhdhakohaa.PFnExactBestLevels
open Go.RowKit Go.Proofs.YtmekmkhdhakohaaW.PrintWords Go.Proofs.YtmekmkhdhakohaaW.PrintLast Go.Proofs.YtmekmkhdhakohaaW.PrintMore
attribute [local go_sem] max2_int min2_int max_two min_two max_three min_three max_four min_four   -- for this text's walks alone
set_option linter.unusedVariables false
set_option linter.unusedSimpArgs false

/-! ### impl_Process_worths: function 80 -/
mutual
def impl_Process_worths.l0 : Nat → List (S94) → Int → Int → List Int → Int → Int → Int → Int → Option ((List (S94)))
 | 0, _, _, _, _, _, _, _, _ => none
 | k + 1, x3, x4, x254000, x254001, x254002, x254003, x254004, x254005 => if x4 ≥ 0 then (impl_Process_worths.l1 k x3 x4 (-10) x254000 x254001 x254002 x254003 x254004 x254005) else (some x3)
def impl_Process_worths.l1 : Nat → List (S94) → Int → Int → Int → List Int → Int → Int → Int → Int → Option ((List (S94)))
 | 0, _, _, _, _, _, _, _, _, _ => none
 | k + 1, x3, x4, x5, x254000, x254001, x254002, x254003, x254004, x254005 => if x5 ≤ 10 then (if 0 ≤ (wrap64 (x4 + 1)) then (if (wrap64 (x4 + 1)) < (x3.length : Int) then ((impl_Process_least.f k x254000 x254001 x254002 x254003 x254004 x254005 (wrap64 (x254000 - x4)) x5 ((rd_T94 x3 (wrap64 (x4 + 1))).f0) ((rd_T94 x3 (wrap64 (x4 + 1))).f1) ((rd_T94 x3 (wrap64 (x4 + 1))).f2) ((rd_T94 x3 (wrap64 (x4 + 1))).f3) ((rd_T94 x3 (wrap64 (x4 + 1))).f4) ((rd_T94 x3 (wrap64 (x4 + 1))).f5) ((rd_T94 x3 (wrap64 (x4 + 1))).f6) ((rd_T94 x3 (wrap64 (x4 + 1))).f7) ((rd_T94 x3 (wrap64 (x4 + 1))).f8) ((rd_T94 x3 (wrap64 (x4 + 1))).f9) ((rd_T94 x3 (wrap64 (x4 + 1))).f10) ((rd_T94 x3 (wrap64 (x4 + 1))).f11) ((rd_T94 x3 (wrap64 (x4 + 1))).f12) ((rd_T94 x3 (wrap64 (x4 + 1))).f13) ((rd_T94 x3 (wrap64 (x4 + 1))).f14) ((rd_T94 x3 (wrap64 (x4 + 1))).f15) ((rd_T94 x3 (wrap64 (x4 + 1))).f16) ((rd_T94 x3 (wrap64 (x4 + 1))).f17) ((rd_T94 x3 (wrap64 (x4 + 1))).f18) ((rd_T94 x3 (wrap64 (x4 + 1))).f19) ((rd_T94 x3 (wrap64 (x4 + 1))).f20)).bind fun bt258 => (if 0 ≤ x4 then (if x4 < (x3.length : Int) then (if 0 ≤ (wrap64 (x5 + 10)) then (if (wrap64 (x5 + 10)) < 21 then (impl_Process_worths.l1 k (x3.set (x4 : Int).toNat (putA94 (rd_T94 x3 x4) ((wrap64 (x5 + 10)) : Int).toNat bt258.1)) x4 (wrap64 (x5 + 1)) x254000 x254001 x254002 x254003 x254004 x254005) else (none)) else (none)) else (none)) else (none))) else (none)) else (none)) else (impl_Process_worths.l0 k x3 (wrap64 (x4 - 1)) x254000 x254001 x254002 x254003 x254004 x254005)
end
def impl_Process_worths.f (k : Nat) (a0_0 : Int) (l0_1 : List Int) (a0_2 : Int) (a0_3 : Int) (a0_4 : Int) (a0_5 : Int) : Option ((List (S94))) := if 0 ≤ (wrap64 (a0_0 + 1)) then (if (wrap64 (a0_0 + 1) : Int).toNat ≤ 1675446289944 then (impl_Process_worths.l0 k (List.replicate (wrap64 (a0_0 + 1) : Int).toNat z94) (wrap64 (a0_0 - 1)) a0_0 l0_1 a0_2 a0_3 a0_4 a0_5) else (none)) else (none)
theorem impl_Process_worths.mono_l : ∀ k, (∀ y0 y1 y2 y3 y4 y5 y6 y7, LeO (impl_Process_worths.l0 k y0 y1 y2 y3 y4 y5 y6 y7) (impl_Process_worths.l0 (k + 1) y0 y1 y2 y3 y4 y5 y6 y7)) ∧ (∀ y0 y1 y2 y3 y4 y5 y6 y7 y8, LeO (impl_Process_worths.l1 k y0 y1 y2 y3 y4 y5 y6 y7 y8) (impl_Process_worths.l1 (k + 1) y0 y1 y2 y3 y4 y5 y6 y7 y8))
 | 0 => ⟨fun _ _ _ _ _ _ _ _ r h => by simp [impl_Process_worths.l0] at h, fun _ _ _ _ _ _ _ _ _ r h => by simp [impl_Process_worths.l1] at h⟩
 | k + 1 => by
  obtain ⟨ih0, ih1⟩ := impl_Process_worths.mono_l k
  refine ⟨?_, ?_⟩
  ·intro y0 y1 y2 y3 y4 y5 y6 y7
   unfold impl_Process_worths.l0
   repeat' first
   | (with_reducible exact ih0 _ _ _ _ _ _ _ _)
   | (with_reducible exact ih1 _ _ _ _ _ _ _ _ _)
   | (with_reducible exact impl_Process_least.mono _ _ _ _ _ _ _ _ _ _ _ _ _ _ _ _ _ _ _ _ _ _ _ _ _ _ _ _ _ _)
   | (with_reducible exact LeO.refl _)
   | (with_reducible exact LeO.none _)
   | (with_reducible refine LeO.ite ?_ ?_)
   | (with_reducible refine LeO.bind ?_ (fun _ => ?_))
   | exact ih0 _ _ _ _ _ _ _ _
   | exact ih1 _ _ _ _ _ _ _ _ _
   | exact impl_Process_least.mono _ _ _ _ _ _ _ _ _ _ _ _ _ _ _ _ _ _ _ _ _ _ _ _ _ _ _ _ _ _
   | exact LeO.none _
   | refine LeO.ite ?_ ?_
   | refine LeO.bind ?_ (fun _ => ?_)
  ·intro y0 y1 y2 y3 y4 y5 y6 y7 y8
   unfold impl_Process_worths.l1
   repeat' first
   | (with_reducible exact ih0 _ _ _ _ _ _ _ _)
   | (with_reducible exact ih1 _ _ _ _ _ _ _ _ _)
   | (with_reducible exact impl_Process_least.mono _ _ _ _ _ _ _ _ _ _ _ _ _ _ _ _ _ _ _ _ _ _ _ _ _ _ _ _ _ _)
   | (with_reducible exact LeO.refl _)
   | (with_reducible exact LeO.none _)
   | (with_reducible refine LeO.ite ?_ ?_)
   | (with_reducible refine LeO.bind ?_ (fun _ => ?_))
   | exact ih0 _ _ _ _ _ _ _ _
   | exact ih1 _ _ _ _ _ _ _ _ _
   | exact impl_Process_least.mono _ _ _ _ _ _ _ _ _ _ _ _ _ _ _ _ _ _ _ _ _ _ _ _ _ _ _ _ _ _
   | exact LeO.none _
   | refine LeO.ite ?_ ?_
   | refine LeO.bind ?_ (fun _ => ?_)
theorem impl_Process_worths.mono : ∀ a0 a1 a2 a3 a4 a5 k, LeO (impl_Process_worths.f k a0 a1 a2 a3 a4 a5) (impl_Process_worths.f (k + 1) a0 a1 a2 a3 a4 a5) := by
 intro a0 a1 a2 a3 a4 a5 k
 obtain ⟨ih0, ih1⟩ := impl_Process_worths.mono_l k
 unfold impl_Process_worths.f
 repeat' first
   | (with_reducible exact ih0 _ _ _ _ _ _ _ _)
   | (with_reducible exact ih1 _ _ _ _ _ _ _ _ _)
   | (with_reducible exact impl_Process_least.mono _ _ _ _ _ _ _ _ _ _ _ _ _ _ _ _ _ _ _ _ _ _ _ _ _ _ _ _ _ _)
   | (with_reducible exact LeO.refl _)
   | (with_reducible exact LeO.none _)
   | (with_reducible refine LeO.ite ?_ ?_)
   | (with_reducible refine LeO.bind ?_ (fun _ => ?_))
   | exact ih0 _ _ _ _ _ _ _ _
   | exact ih1 _ _ _ _ _ _ _ _ _
   | exact impl_Process_least.mono _ _ _ _ _ _ _ _ _ _ _ _ _ _ _ _ _ _ _ _ _ _ _ _ _ _ _ _ _ _
   | exact LeO.none _
   | refine LeO.ite ?_ ?_
   | refine LeO.bind ?_ (fun _ => ?_)
def impl_Process_worths.T8 : Bool × List (List Nat × List Nat) := (true, [([], []), ([], []), ([], []), ([2], [2]), ([], []), ([], []), ([5], [5]), ([], []), ([6, 7], [6, 7]), ([], []), ([], []), ([], []), ([11], [11]), ([10, 12], [10, 12]), ([13], [13]), ([4, 8, 9, 14], [4, 8, 9, 14]), ([15], [15]), ([16], [16]), ([16], [16]), ([0, 1], [0, 1]), ([19, 3, 0, 1, 2, 3, 4, 5, 6, 7, 8, 9, 10, 11, 12, 13, 14, 15, 16, 17], [3, 19]), ([20, 17, 15, 0, 1, 2, 3, 4, 5, 6, 7, 8, 9, 10, 11, 12, 13, 14, 15, 16, 17], [17, 20])])
def impl_Process_worths.B8 : List Nat := [0, 0, 0, 4, 0, 0, 32, 0, 224, 0, 0, 0, 2048, 7168, 15360, 32752, 65520, 131056, 131056, 3, 786431, 1835007]
theorem impl_Process_worths.tab8 : rtab .any (opsOf Try.f80 8) = impl_Process_worths.T8 := by kernel_rfl
theorem impl_Process_worths.bits8 : waitsOk impl_Process_worths.T8.2 impl_Process_worths.B8 = true := by kernel_rfl
set_option maxHeartbeats 8000000 in
set_option maxRecDepth 100000 in
theorem impl_Process_worths.calls (k : Nat) (a0_0 : Int) (A0_1 : Option Addr) (c0_1 : Nat) (l0_1 : List Int) (a0_2 : Int) (a0_3 : Int) (a0_4 : Int) (a0_5 : Int) (r : List (S94)) (w : World) (hr0_1 : Kd.C (Kd.int .i64) w A0_1 l0_1.length l0_1) (hc0_1 : l0_1.length ≤ c0_1) (h : impl_Process_worths.f k a0_0 l0_1 a0_2 a0_3 a0_4 a0_5 = some r) :
  Calls Try.prog 80 #[.agg #[.int .i64 a0_0, .slice A0_1 l0_1.length c0_1, .int .i64 a0_2, .int .i64 a0_3, .int .i64 a0_4, .int .i64 a0_5]] w fun e w' => ∃ v0_ : Value, e = .returned (v0_) ∧ Kd.R k94 94 w' w.heap.size (fun _ => True) v0_ r ∧ Below w.heap.size w w' := by
 have hu30 := Try.underlying30
 have hu94 := Try.underlying94
 have HR0_1 := Aside0.mk hr0_1
 have HC0_1 := Aside0.mk hc0_1
 clear hr0_1 hc0_1
 have HB := Aside0.mk (Below.refl w.heap.size w)
 have H : (if 0 ≤ (wrap64 (a0_0 + 1)) then (if (wrap64 (a0_0 + 1) : Int).toNat ≤ 1675446289944 then (impl_Process_worths.l0 k (List.replicate (wrap64 (a0_0 + 1) : Int).toNat z94) (wrap64 (a0_0 - 1)) a0_0 l0_1 a0_2 a0_3 a0_4 a0_5) else (none)) else (none)) = some r := h
 clear h
 obtain ⟨ji2, hji2⟩ : ∃ j_ : Int, (wrap64 (a0_0 + 1)) = j_ := ⟨_, rfl⟩
 replace H : (if 0 ≤ (ji2) then (if (ji2 : Int).toNat ≤ 1675446289944 then (impl_Process_worths.l0 k (List.replicate (ji2 : Int).toNat z94) (wrap64 (a0_0 - 1)) a0_0 l0_1 a0_2 a0_3 a0_4 a0_5) else (none)) else (none)) = some r := by first | (rw [hji2] at H; exact H) | (simp only [hji2] at H ⊢; exact H)
 have hji2w : (IntKind.i64.wrap (a0_0 + 1)) = ji2 := (i64_w _).trans hji2
 by_cases c3 : 0 ≤ (ji2)
 ·rw [if_pos c3] at H
  have c3b0 := eq_true c3
  have c3b1 : decide (0 ≤ (ji2)) = true := decide_eq_true c3
  clear c3
  by_cases c4 : (ji2 : Int).toNat ≤ 1675446289944
  ·rw [if_pos c4] at H
   have c4b0 := eq_true c4
   have c4b1 : decide ((ji2 : Int).toNat ≤ 1675446289944) = true := decide_eq_true c4
   clear c4
   obtain ⟨y254, hy254⟩ : ∃ y_ : List (S94), y_ = (List.replicate (ji2 : Int).toNat z94) := ⟨_, rfl⟩
   replace H : (impl_Process_worths.l0 k y254 (wrap64 (a0_0 - 1)) a0_0 l0_1 a0_2 a0_3 a0_4 a0_5) = some r := by first | (rw [hy254]; with_reducible exact H) | (have H2_ := (Option.bind_some _ _).symm.trans H; rw [hy254]; with_reducible exact H2_) | (have H2_ := (Option.bind_some _ _).symm.trans H; with_reducible exact H2_) | with_reducible exact H | (rw [hy254]; exact H) | exact H
   have Ny254 := Aside0.mk hy254
   clear hy254
   have H' := Aside0.mk H
   clear H
   go_enter Try.func80, Try.ntmps80
   go_wp2_with (first | ((with_reducible refine gate_dst (N := 1) rfl ?_); refine box_event ?hg (N := 1) ?hd (cs := #[.int .i64 a0_0, .slice A0_1 l0_1.length c0_1, .int .i64 a0_2, .int .i64 a0_3, .int .i64 a0_4, .int .i64 a0_5]) (t := 30) ?hr ?_; (case hd => rfl); (case hg => rfl); (case hr => first | (go_simp; done) | (go_simp; rfl)); intro gb253 hg w5 hbox hb; have n0_ := Aside0.mk (below_step (by repeat (first | (with_reducible first | exact HB.out | apply below_alloc | apply pw_below_drewN | apply below_drew1) | exact HB.out)) hb); have n1_ := Aside0.mk (hbox); have n2_ := Aside0.mk ((by rw [hg]; exact (below_size (by repeat (first | (with_reducible first | exact HB.out | apply below_alloc | apply pw_below_drewN | apply below_drew1) | exact HB.out))) : w.heap.size ≤ gb253)); have n3_ := Aside0.mk ((by rw [hg]; exact (below_size (by repeat (first | (with_reducible first | exact HB.out | apply below_alloc | apply pw_below_drewN | apply below_drew1) | exact HB.out))) : w.heap.size ≤ gb253)); clear HB; have HB := n0_; have BK253 := n1_; have GW253 := n2_; have GE253 := n3_; clear n0_ n1_ n2_ n3_; clear hb hbox hg; have hcz6_0 : w5.cell? ⟨gb253, 0, none⟩ = some (.int .i64 a0_0) := (blk_cell BK253.out 0).trans rfl; have hcz6_1 : w5.cell? ⟨gb253, 1, none⟩ = some (.slice A0_1 l0_1.length c0_1) := (blk_cell BK253.out 1).trans rfl; have hcz6_2 : w5.cell? ⟨gb253, 2, none⟩ = some (.int .i64 a0_2) := (blk_cell BK253.out 2).trans rfl; have hcz6_3 : w5.cell? ⟨gb253, 3, none⟩ = some (.int .i64 a0_3) := (blk_cell BK253.out 3).trans rfl; have hcz6_4 : w5.cell? ⟨gb253, 4, none⟩ = some (.int .i64 a0_4) := (blk_cell BK253.out 4).trans rfl; have hcz6_5 : w5.cell? ⟨gb253, 5, none⟩ = some (.int .i64 a0_5) := (blk_cell BK253.out 5).trans rfl; have hfz6_0 := blk_frozen BK253.out 0; have hfz6_1 := blk_frozen BK253.out 1; have hfz6_2 := blk_frozen BK253.out 2; have hfz6_3 := blk_frozen BK253.out 3; have hfz6_4 := blk_frozen BK253.out 4; have hfz6_5 := blk_frozen BK253.out 5) | ((with_reducible refine gate_dst (N := 9) rfl ?_); refine Kd.R_make k94 _ 94 rfl (N := 9) rfl 95 _ _ rfl ji2 rfl rfl Try.underlying95 (.agg #[(.int .i64 0), (.int .i64 0), (.int .i64 0), (.int .i64 0), (.int .i64 0), (.int .i64 0), (.int .i64 0), (.int .i64 0), (.int .i64 0), (.int .i64 0), (.int .i64 0), (.int .i64 0), (.int .i64 0), (.int .i64 0), (.int .i64 0), (.int .i64 0), (.int .i64 0), (.int .i64 0), (.int .i64 0), (.int .i64 0), (.int .i64 0)]) 168 info94 rfl (by decide) (by omega) z94 (ok := fun _ => True) (okp := fun _ => True) (k94_mkM _ _ _ z94 ) (fun _ hk => hk) trivial (of_decide_eq_true (by first | (with_reducible assumption) | assumption)) (Nat.le_trans (Nat.mul_le_mul_right _ (of_decide_eq_true (by first | (with_reducible assumption) | assumption) : ji2.toNat ≤ 1675446289944)) (by omega)) (Below.refl _ _) (Nat.le_refl _) ?_; intro v255 w7 ho8 hb hg_ hnew_; clear hg_ hnew_; (first | rw [← Ny254.out] at ho8 | (simp only [Int.reduceToNat] at ho8; rw [← Ny254.out] at ho8)); have n0_ := Aside0.mk (Kd.R_lower ho8 (below_size (by repeat (first | (with_reducible first | exact HB.out | apply below_alloc | apply pw_below_drewN | apply below_drew1 | refine below_set ?_ GE253.out) | exact HB.out)))); have n1_ := Aside0.mk (blk_below (g := gb253) (o := .cells #[.int .i64 a0_0, .slice A0_1 l0_1.length c0_1, .int .i64 a0_2, .int .i64 a0_3, .int .i64 a0_4, .int .i64 a0_5] 30 (0, 0)) (by (with_reducible repeat (first | refine blk_drewN ?_ _ | refine blk_drew ?_ | refine blk_alloc ?_ _)); exact BK253.out) hb); have n2_ := Aside0.mk (below_step (by repeat (first | (with_reducible first | exact HB.out | apply below_alloc | apply pw_below_drewN | apply below_drew1 | refine below_set ?_ GE253.out) | exact HB.out)) hb); clear BK253; clear HB; have HO256 := n0_; have BK253 := n1_; have HB := n2_; clear n0_ n1_ n2_; clear hb ho8; have hcz9_0 : w7.cell? ⟨gb253, 0, none⟩ = some (.int .i64 a0_0) := (blk_cell BK253.out 0).trans rfl; have hcz9_1 : w7.cell? ⟨gb253, 1, none⟩ = some (.slice A0_1 l0_1.length c0_1) := (blk_cell BK253.out 1).trans rfl; have hcz9_2 : w7.cell? ⟨gb253, 2, none⟩ = some (.int .i64 a0_2) := (blk_cell BK253.out 2).trans rfl; have hcz9_3 : w7.cell? ⟨gb253, 3, none⟩ = some (.int .i64 a0_3) := (blk_cell BK253.out 3).trans rfl; have hcz9_4 : w7.cell? ⟨gb253, 4, none⟩ = some (.int .i64 a0_4) := (blk_cell BK253.out 4).trans rfl; have hcz9_5 : w7.cell? ⟨gb253, 5, none⟩ = some (.int .i64 a0_5) := (blk_cell BK253.out 5).trans rfl; have hfz9_0 := blk_frozen BK253.out 0; have hfz9_1 := blk_frozen BK253.out 1; have hfz9_2 := blk_frozen BK253.out 2; have hfz9_3 := blk_frozen BK253.out 3; have hfz9_4 := blk_frozen BK253.out 4; have hfz9_5 := blk_frozen BK253.out 5))
   go_loopg [4] k (fun kq v4 w' => ∃ (x3_1 : List (S94)) (x4_1 : Int), v4 = .int .i64 x4_1 ∧ Aside0 (impl_Process_worths.l0 kq x3_1 x4_1 a0_0 l0_1 a0_2 a0_3 a0_4 a0_5 = some r) ∧ Aside0 (kq ≤ k) ∧ Aside0 (Kd.R k94 94 w' w.heap.size (fun _ => True) v255 x3_1) ∧ Aside0 (w'.heap[gb253]? = some (.cells #[.int .i64 a0_0, (.slice A0_1 l0_1.length c0_1), .int .i64 a0_2, .int .i64 a0_3, .int .i64 a0_4, .int .i64 a0_5] 30 (0, 0))) ∧ Aside0 (Below w.heap.size w w'))
   case atStart => exact ⟨(y254), (wrap64 (a0_0 - 1)), (by first | rfl | (simp; done) | (simp [*]; done)), H', ⟨Nat.le_refl _⟩, ⟨by (with_reducible repeat (first | apply Kd.R_alloc | apply Kd.R_drewN | apply Kd.R_drew)); exact HO256.out⟩, ⟨by (with_reducible repeat (first | refine blk_drewN ?_ _ | refine blk_drew ?_ | refine blk_alloc ?_ _)); exact BK253.out⟩, ⟨by repeat (first | (with_reducible first | exact HB.out | apply below_alloc | apply pw_below_drewN | apply below_drew1 | refine below_set ?_ GE253.out) | exact HB.out)⟩⟩
   case round =>
    clear H'
    try clear p2
    try clear c3
    try clear c3b0
    try clear c3b1
    try clear c4
    try clear c4b0
    try clear c4b1
    try clear p6
    try clear c8
    try clear hcz6_0
    try clear hcz6_1
    try clear hcz6_2
    try clear hcz6_3
    try clear hcz6_4
    try clear hcz6_5
    try clear hcz9_0
    try clear hcz9_1
    try clear hcz9_2
    try clear hcz9_3
    try clear hcz9_4
    try clear hcz9_5
    try clear hfz6_0
    try clear hfz6_1
    try clear hfz6_2
    try clear hfz6_3
    try clear hfz6_4
    try clear hfz6_5
    try clear hfz9_0
    try clear hfz9_1
    try clear hfz9_2
    try clear hfz9_3
    try clear hfz9_4
    try clear hfz9_5
    obtain ⟨x3_1, x4_1, rfl, HA, HK1, HO_3, BK253, HB⟩ := hrel
    cases gk with
    | zero => exact absurd HA.out (by simp [impl_Process_worths.l0])
    | succ k1 =>
     have H := HA.out
     clear HA
     simp only [impl_Process_worths.l0] at H
     by_cases c10 : x4_1 ≥ 0
     ·rw [if_pos c10] at H
      have c10b0 : decide (0 ≤ x4_1) = true := decide_eq_true c10
      clear c10
      have H' := Aside0.mk H
      clear H
      go_wp2
      go_loopg [5] k1 (fun kq v5 w' => ∃ (x3_2 : List (S94)) (x5_2 : Int), v5 = .int .i64 x5_2 ∧ Aside0 (impl_Process_worths.l1 kq x3_2 x4_1 x5_2 a0_0 l0_1 a0_2 a0_3 a0_4 a0_5 = some r) ∧ Aside0 (kq ≤ k1) ∧ Aside0 (Kd.R k94 94 w' w.heap.size (fun _ => True) v255 x3_2) ∧ Aside0 (w'.heap[gb253]? = some (.cells #[.int .i64 a0_0, (.slice A0_1 l0_1.length c0_1), .int .i64 a0_2, .int .i64 a0_3, .int .i64 a0_4, .int .i64 a0_5] 30 (0, 0))) ∧ Aside0 (Below w.heap.size w w'))
      case atStart => exact ⟨(x3_1), ((-10)), (by first | rfl | (simp; done) | (simp [*]; done)), H', ⟨Nat.le_refl _⟩, ⟨by (with_reducible repeat (first | apply Kd.R_alloc | apply Kd.R_drewN | apply Kd.R_drew)); exact HO_3.out⟩, ⟨by (with_reducible repeat (first | refine blk_drewN ?_ _ | refine blk_drew ?_ | refine blk_alloc ?_ _)); exact BK253.out⟩, ⟨by repeat (first | (with_reducible first | exact HB.out | apply below_alloc | apply pw_below_drewN | apply below_drew1 | refine below_set ?_ GE253.out) | exact HB.out)⟩⟩
      case round =>
       clear H'
       try clear c1
       try clear p2
       try clear c3
       try clear c3b0
       try clear c3b1
       try clear c4
       try clear c4b0
       try clear c4b1
       try clear p6
       try clear c8
       try clear c10
       try clear c10b0
       try clear hcz6_0
       try clear hcz6_1
       try clear hcz6_2
       try clear hcz6_3
       try clear hcz6_4
       try clear hcz6_5
       try clear hcz9_0
       try clear hcz9_1
       try clear hcz9_2
       try clear hcz9_3
       try clear hcz9_4
       try clear hcz9_5
       try clear hfz6_0
       try clear hfz6_1
       try clear hfz6_2
       try clear hfz6_3
       try clear hfz6_4
       try clear hfz6_5
       try clear hfz9_0
       try clear hfz9_1
       try clear hfz9_2
       try clear hfz9_3
       try clear hfz9_4
       try clear hfz9_5
       try clear p2
       try clear p6
       obtain ⟨x3_2, x5_2, rfl, HA, HK2, HO_3, BK253, HB⟩ := hrel
       cases gk with
       | zero => exact absurd HA.out (by simp [impl_Process_worths.l1])
       | succ k2 =>
        have H := HA.out
        clear HA
        simp only [impl_Process_worths.l1] at H
        by_cases c11 : x5_2 ≤ 10
        ·rw [if_pos c11] at H
         have c11b0 : decide (x5_2 ≤ 10) = true := decide_eq_true c11
         clear c11
         obtain ⟨ji12, hji12⟩ : ∃ j_ : Int, (wrap64 (x4_1 + 1)) = j_ := ⟨_, rfl⟩
         replace H : (if 0 ≤ (ji12) then (if (ji12) < (x3_2.length : Int) then ((impl_Process_least.f k2 a0_0 l0_1 a0_2 a0_3 a0_4 a0_5 (wrap64 (a0_0 - x4_1)) x5_2 ((rd_T94 x3_2 (ji12)).f0) ((rd_T94 x3_2 (ji12)).f1) ((rd_T94 x3_2 (ji12)).f2) ((rd_T94 x3_2 (ji12)).f3) ((rd_T94 x3_2 (ji12)).f4) ((rd_T94 x3_2 (ji12)).f5) ((rd_T94 x3_2 (ji12)).f6) ((rd_T94 x3_2 (ji12)).f7) ((rd_T94 x3_2 (ji12)).f8) ((rd_T94 x3_2 (ji12)).f9) ((rd_T94 x3_2 (ji12)).f10) ((rd_T94 x3_2 (ji12)).f11) ((rd_T94 x3_2 (ji12)).f12) ((rd_T94 x3_2 (ji12)).f13) ((rd_T94 x3_2 (ji12)).f14) ((rd_T94 x3_2 (ji12)).f15) ((rd_T94 x3_2 (ji12)).f16) ((rd_T94 x3_2 (ji12)).f17) ((rd_T94 x3_2 (ji12)).f18) ((rd_T94 x3_2 (ji12)).f19) ((rd_T94 x3_2 (ji12)).f20)).bind fun bt258 => (if 0 ≤ x4_1 then (if x4_1 < (x3_2.length : Int) then (if 0 ≤ (wrap64 (x5_2 + 10)) then (if (wrap64 (x5_2 + 10)) < 21 then (impl_Process_worths.l1 k2 (x3_2.set (x4_1 : Int).toNat (putA94 (rd_T94 x3_2 x4_1) ((wrap64 (x5_2 + 10)) : Int).toNat bt258.1)) x4_1 (wrap64 (x5_2 + 1)) a0_0 l0_1 a0_2 a0_3 a0_4 a0_5) else (none)) else (none)) else (none)) else (none))) else (none)) else (none)) = some r := by first | (rw [hji12] at H; exact H) | (simp only [hji12] at H ⊢; exact H)
         have hji12w : (IntKind.i64.wrap (x4_1 + 1)) = ji12 := (i64_w _).trans hji12
         by_cases c13 : 0 ≤ (ji12)
         ·rw [if_pos c13] at H
          have c13b0 : decide (0 ≤ (ji12)) = true := decide_eq_true c13
          clear c13
          by_cases c14 : (ji12) < (x3_2.length : Int)
          ·rw [if_pos c14] at H
           have c14b0 : decide ((ji12) < (x3_2.length : Int)) = true := decide_eq_true c14
           clear c14
           replace H := Option.bind_eq_some_iff.mp H
           obtain ⟨⟨t258, t259⟩, A150, H⟩ := H
           replace H : (if 0 ≤ x4_1 then (if x4_1 < (x3_2.length : Int) then (if 0 ≤ (wrap64 (x5_2 + 10)) then (if (wrap64 (x5_2 + 10)) < 21 then (impl_Process_worths.l1 k2 (x3_2.set (x4_1 : Int).toNat (putA94 (rd_T94 x3_2 x4_1) ((wrap64 (x5_2 + 10)) : Int).toNat t258)) x4_1 (wrap64 (x5_2 + 1)) a0_0 l0_1 a0_2 a0_3 a0_4 a0_5) else (none)) else (none)) else (none)) else (none)) = some r := H
           have A15 := Aside0.mk A150
           clear A150
           by_cases c16 : 0 ≤ x4_1
           ·rw [if_pos c16] at H
            have c16b0 : decide (0 ≤ x4_1) = true := decide_eq_true c16
            clear c16
            by_cases c17 : x4_1 < (x3_2.length : Int)
            ·rw [if_pos c17] at H
             have c17b0 : decide (x4_1 < (x3_2.length : Int)) = true := decide_eq_true c17
             clear c17
             obtain ⟨ji19, hji19⟩ : ∃ j_ : Int, (wrap64 (x5_2 + 10)) = j_ := ⟨_, rfl⟩
             replace H : (if 0 ≤ (ji19) then (if (ji19) < 21 then (impl_Process_worths.l1 k2 (x3_2.set (x4_1 : Int).toNat (putA94 (rd_T94 x3_2 x4_1) ((ji19) : Int).toNat t258)) x4_1 (wrap64 (x5_2 + 1)) a0_0 l0_1 a0_2 a0_3 a0_4 a0_5) else (none)) else (none)) = some r := by first | (rw [hji19] at H; exact H) | (simp only [hji19] at H ⊢; exact H)
             (try rw [hji19] at A15)
             have hji19w : (IntKind.i64.wrap (x5_2 + 10)) = ji19 := (i64_w _).trans hji19
             by_cases c20 : 0 ≤ (ji19)
             ·rw [if_pos c20] at H
              have c20b0 : decide (0 ≤ (ji19)) = true := decide_eq_true c20
              clear c20
              by_cases c21 : (ji19) < 21
              ·rw [if_pos c21] at H
               have c21b0 : decide ((ji19) < 21) = true := decide_eq_true c21
               clear c21
               obtain ⟨y260, hy260⟩ : ∃ y_ : List (S94), y_ = (x3_2.set (x4_1 : Int).toNat (putA94 (rd_T94 x3_2 x4_1) ((ji19) : Int).toNat t258)) := ⟨_, rfl⟩
               replace H : (impl_Process_worths.l1 k2 y260 x4_1 (wrap64 (x5_2 + 1)) a0_0 l0_1 a0_2 a0_3 a0_4 a0_5) = some r := by first | (rw [hy260]; with_reducible exact H) | (have H2_ := (Option.bind_some _ _).symm.trans H; rw [hy260]; with_reducible exact H2_) | (have H2_ := (Option.bind_some _ _).symm.trans H; with_reducible exact H2_) | with_reducible exact H | (rw [hy260]; exact H) | exact H
               have Ny260 := Aside0.mk hy260
               clear hy260
               have H' := Aside0.mk H
               clear H
               try go_wp2
               have n0_ := Aside0.mk (Kd.R_drew HO_3.out)
               have n1_ := Aside0.mk (blk_drew BK253.out)
               have n2_ := Aside0.mk (below_drew1 HB.out)
               clear HO_3
               clear BK253
               clear HB
               have HO_3 := n0_
               have BK253 := n1_
               have HB := n2_
               clear n0_ n1_ n2_
               obtain ⟨Ao23, co23, eo23⟩ := Kd.R_slice HO_3.out
               (first | subst eo23 | (injection eo23 with f1_ f2_ f3_; have f4_ := f1_.symm; have f5_ := f3_.symm; clear f1_ f2_ f3_; subst f4_; subst f5_))
               have p257 : 0 ≤ ((ji12) : Int) := of_decide_eq_true (by first | (with_reducible assumption) | assumption)
               have q257 : (ji12) < (x3_2.length : Int) := of_decide_eq_true (by first | (with_reducible assumption) | assumption)
               obtain ⟨ad257, e257, hx257_0, hx257_1, hx257_2, hx257_3, hx257_4, hx257_5, hx257_6, hx257_7, hx257_8, hx257_9, hx257_10, hx257_11, hx257_12, hx257_13, hx257_14, hx257_15, hx257_16, hx257_17, hx257_18, hx257_19, hx257_20⟩ := at_T94 (Kd.R_reads' HO_3.out).2.2 (ji12) p257 q257
               cases e257
               replace p257 := eq_true p257
               replace q257 := eq_true q257
               have p18 : 0 ≤ (x4_1 : Int) := of_decide_eq_true (by first | (with_reducible assumption) | assumption)
               have q18 : (x4_1 : Int) < ((x3_2.length : Int) : Int) := of_decide_eq_true (by first | (with_reducible assumption) | assumption)
               obtain ⟨go18, co18, eo18, gb18, gl18, cl18, HG18⟩ := Kd.R_form HO_3.out (by omega)
               (first | cases eo18 | (injection eo18 with ea_ en_ ec_; (first | subst ea_ | (injection ea_ with ea_; subst ea_)); subst ec_; clear en_))
               have GB18 := Aside0.mk gb18
               have GG18 := Aside0.mk HG18
               clear gb18 gl18 HG18
               (first | simp only [add_plain] at hx257_0 | skip)
               (first | simp only [add_plain] at hx257_1 | skip)
               (first | simp only [add_plain] at hx257_2 | skip)
               (first | simp only [add_plain] at hx257_3 | skip)
               (first | simp only [add_plain] at hx257_4 | skip)
               (first | simp only [add_plain] at hx257_5 | skip)
               (first | simp only [add_plain] at hx257_6 | skip)
               (first | simp only [add_plain] at hx257_7 | skip)
               (first | simp only [add_plain] at hx257_8 | skip)
               (first | simp only [add_plain] at hx257_9 | skip)
               (first | simp only [add_plain] at hx257_10 | skip)
               (first | simp only [add_plain] at hx257_11 | skip)
               (first | simp only [add_plain] at hx257_12 | skip)
               (first | simp only [add_plain] at hx257_13 | skip)
               (first | simp only [add_plain] at hx257_14 | skip)
               (first | simp only [add_plain] at hx257_15 | skip)
               (first | simp only [add_plain] at hx257_16 | skip)
               (first | simp only [add_plain] at hx257_17 | skip)
               (first | simp only [add_plain] at hx257_18 | skip)
               (first | simp only [add_plain] at hx257_19 | skip)
               (first | simp only [add_plain] at hx257_20 | skip)
               obtain ⟨ce18, hcl18, hM18, hcc18, hfr18⟩ := Kd.R_elem HO_3.out z94 (x4_1 : Int) p18 q18
               obtain rfl := k94_openM hM18
               have hx18_0 : World.cell? _ ⟨go18, (x4_1 : Int).toNat * 21, none⟩ = some (.int .i64 ((rd_T94 x3_2 x4_1).f0)) := hcc18 0 _ rfl
               have hx18_1 : World.cell? _ ⟨go18, (x4_1 : Int).toNat * 21 + 1, none⟩ = some (.int .i64 ((rd_T94 x3_2 x4_1).f1)) := hcc18 1 _ rfl
               have hx18_2 : World.cell? _ ⟨go18, (x4_1 : Int).toNat * 21 + 2, none⟩ = some (.int .i64 ((rd_T94 x3_2 x4_1).f2)) := hcc18 2 _ rfl
               have hx18_3 : World.cell? _ ⟨go18, (x4_1 : Int).toNat * 21 + 3, none⟩ = some (.int .i64 ((rd_T94 x3_2 x4_1).f3)) := hcc18 3 _ rfl
               have hx18_4 : World.cell? _ ⟨go18, (x4_1 : Int).toNat * 21 + 4, none⟩ = some (.int .i64 ((rd_T94 x3_2 x4_1).f4)) := hcc18 4 _ rfl
               have hx18_5 : World.cell? _ ⟨go18, (x4_1 : Int).toNat * 21 + 5, none⟩ = some (.int .i64 ((rd_T94 x3_2 x4_1).f5)) := hcc18 5 _ rfl
               have hx18_6 : World.cell? _ ⟨go18, (x4_1 : Int).toNat * 21 + 6, none⟩ = some (.int .i64 ((rd_T94 x3_2 x4_1).f6)) := hcc18 6 _ rfl
               have hx18_7 : World.cell? _ ⟨go18, (x4_1 : Int).toNat * 21 + 7, none⟩ = some (.int .i64 ((rd_T94 x3_2 x4_1).f7)) := hcc18 7 _ rfl
               have hx18_8 : World.cell? _ ⟨go18, (x4_1 : Int).toNat * 21 + 8, none⟩ = some (.int .i64 ((rd_T94 x3_2 x4_1).f8)) := hcc18 8 _ rfl
               have hx18_9 : World.cell? _ ⟨go18, (x4_1 : Int).toNat * 21 + 9, none⟩ = some (.int .i64 ((rd_T94 x3_2 x4_1).f9)) := hcc18 9 _ rfl
               have hx18_10 : World.cell? _ ⟨go18, (x4_1 : Int).toNat * 21 + 10, none⟩ = some (.int .i64 ((rd_T94 x3_2 x4_1).f10)) := hcc18 10 _ rfl
               have hx18_11 : World.cell? _ ⟨go18, (x4_1 : Int).toNat * 21 + 11, none⟩ = some (.int .i64 ((rd_T94 x3_2 x4_1).f11)) := hcc18 11 _ rfl
               have hx18_12 : World.cell? _ ⟨go18, (x4_1 : Int).toNat * 21 + 12, none⟩ = some (.int .i64 ((rd_T94 x3_2 x4_1).f12)) := hcc18 12 _ rfl
               have hx18_13 : World.cell? _ ⟨go18, (x4_1 : Int).toNat * 21 + 13, none⟩ = some (.int .i64 ((rd_T94 x3_2 x4_1).f13)) := hcc18 13 _ rfl
               have hx18_14 : World.cell? _ ⟨go18, (x4_1 : Int).toNat * 21 + 14, none⟩ = some (.int .i64 ((rd_T94 x3_2 x4_1).f14)) := hcc18 14 _ rfl
               have hx18_15 : World.cell? _ ⟨go18, (x4_1 : Int).toNat * 21 + 15, none⟩ = some (.int .i64 ((rd_T94 x3_2 x4_1).f15)) := hcc18 15 _ rfl
               have hx18_16 : World.cell? _ ⟨go18, (x4_1 : Int).toNat * 21 + 16, none⟩ = some (.int .i64 ((rd_T94 x3_2 x4_1).f16)) := hcc18 16 _ rfl
               have hx18_17 : World.cell? _ ⟨go18, (x4_1 : Int).toNat * 21 + 17, none⟩ = some (.int .i64 ((rd_T94 x3_2 x4_1).f17)) := hcc18 17 _ rfl
               have hx18_18 : World.cell? _ ⟨go18, (x4_1 : Int).toNat * 21 + 18, none⟩ = some (.int .i64 ((rd_T94 x3_2 x4_1).f18)) := hcc18 18 _ rfl
               have hx18_19 : World.cell? _ ⟨go18, (x4_1 : Int).toNat * 21 + 19, none⟩ = some (.int .i64 ((rd_T94 x3_2 x4_1).f19)) := hcc18 19 _ rfl
               have hx18_20 : World.cell? _ ⟨go18, (x4_1 : Int).toNat * 21 + 20, none⟩ = some (.int .i64 ((rd_T94 x3_2 x4_1).f20)) := hcc18 20 _ rfl
               have hf18_0 : World.frozen? _ ⟨go18, (x4_1 : Int).toNat * 21, none⟩ = false := hfr18 0
               have hf18_1 : World.frozen? _ ⟨go18, (x4_1 : Int).toNat * 21 + 1, none⟩ = false := hfr18 1
               have hf18_2 : World.frozen? _ ⟨go18, (x4_1 : Int).toNat * 21 + 2, none⟩ = false := hfr18 2
               have hf18_3 : World.frozen? _ ⟨go18, (x4_1 : Int).toNat * 21 + 3, none⟩ = false := hfr18 3
               have hf18_4 : World.frozen? _ ⟨go18, (x4_1 : Int).toNat * 21 + 4, none⟩ = false := hfr18 4
               have hf18_5 : World.frozen? _ ⟨go18, (x4_1 : Int).toNat * 21 + 5, none⟩ = false := hfr18 5
               have hf18_6 : World.frozen? _ ⟨go18, (x4_1 : Int).toNat * 21 + 6, none⟩ = false := hfr18 6
               have hf18_7 : World.frozen? _ ⟨go18, (x4_1 : Int).toNat * 21 + 7, none⟩ = false := hfr18 7
               have hf18_8 : World.frozen? _ ⟨go18, (x4_1 : Int).toNat * 21 + 8, none⟩ = false := hfr18 8
               have hf18_9 : World.frozen? _ ⟨go18, (x4_1 : Int).toNat * 21 + 9, none⟩ = false := hfr18 9
               have hf18_10 : World.frozen? _ ⟨go18, (x4_1 : Int).toNat * 21 + 10, none⟩ = false := hfr18 10
               have hf18_11 : World.frozen? _ ⟨go18, (x4_1 : Int).toNat * 21 + 11, none⟩ = false := hfr18 11
               have hf18_12 : World.frozen? _ ⟨go18, (x4_1 : Int).toNat * 21 + 12, none⟩ = false := hfr18 12
               have hf18_13 : World.frozen? _ ⟨go18, (x4_1 : Int).toNat * 21 + 13, none⟩ = false := hfr18 13
               have hf18_14 : World.frozen? _ ⟨go18, (x4_1 : Int).toNat * 21 + 14, none⟩ = false := hfr18 14
               have hf18_15 : World.frozen? _ ⟨go18, (x4_1 : Int).toNat * 21 + 15, none⟩ = false := hfr18 15
               have hf18_16 : World.frozen? _ ⟨go18, (x4_1 : Int).toNat * 21 + 16, none⟩ = false := hfr18 16
               have hf18_17 : World.frozen? _ ⟨go18, (x4_1 : Int).toNat * 21 + 17, none⟩ = false := hfr18 17
               have hf18_18 : World.frozen? _ ⟨go18, (x4_1 : Int).toNat * 21 + 18, none⟩ = false := hfr18 18
               have hf18_19 : World.frozen? _ ⟨go18, (x4_1 : Int).toNat * 21 + 19, none⟩ = false := hfr18 19
               have hf18_20 : World.frozen? _ ⟨go18, (x4_1 : Int).toNat * 21 + 20, none⟩ = false := hfr18 20
               have p24 : 0 ≤ ((ji19) : Int) := of_decide_eq_true (by first | (with_reducible assumption) | assumption)
               have q24 : ((ji19) : Int) < 21 := of_decide_eq_true (by first | (with_reducible assumption) | assumption)
               have hx24_0 : World.cell? _ ⟨go18, (x4_1 : Int).toNat * 21 + ((ji19) : Int).toNat, none⟩ = some (.int .i64 (getA94 (rd_T94 x3_2 x4_1) ((ji19) : Int).toNat)) := hcc18 ((ji19) : Int).toNat _ (cellA94 _ (by omega))
               have hf24_0 : World.frozen? _ ⟨go18, (x4_1 : Int).toNat * 21 + ((ji19) : Int).toNat, none⟩ = false := hfr18 ((ji19) : Int).toNat
               replace p24 := eq_true p24
               replace q24 := eq_true q24
               clear hcl18 hcc18 hfr18 hM18
               replace p18 := eq_true p18
               replace q18 := eq_true q18
               refine start_ (n := 22) (S := fun w' => w'.cell? ⟨gb253, 0, none⟩ = some (.int .i64 a0_0) ∧ w'.cell? ⟨gb253, 1, none⟩ = some (.slice A0_1 l0_1.length c0_1) ∧ w'.cell? ⟨gb253, 2, none⟩ = some (.int .i64 a0_2) ∧ w'.cell? ⟨gb253, 3, none⟩ = some (.int .i64 a0_3) ∧ w'.cell? ⟨gb253, 4, none⟩ = some (.int .i64 a0_4) ∧ w'.cell? ⟨gb253, 5, none⟩ = some (.int .i64 a0_5) ∧ w'.cell? ⟨go18, (((ji12)).toNat * 21), none⟩ = some (.int .i64 ((rd_T94 x3_2 (ji12)).f0)) ∧ w'.cell? ⟨go18, (((ji12)).toNat * 21) + 1, none⟩ = some (.int .i64 ((rd_T94 x3_2 (ji12)).f1)) ∧ w'.cell? ⟨go18, (((ji12)).toNat * 21) + 2, none⟩ = some (.int .i64 ((rd_T94 x3_2 (ji12)).f2)) ∧ w'.cell? ⟨go18, (((ji12)).toNat * 21) + 3, none⟩ = some (.int .i64 ((rd_T94 x3_2 (ji12)).f3)) ∧ w'.cell? ⟨go18, (((ji12)).toNat * 21) + 4, none⟩ = some (.int .i64 ((rd_T94 x3_2 (ji12)).f4)) ∧ w'.cell? ⟨go18, (((ji12)).toNat * 21) + 5, none⟩ = some (.int .i64 ((rd_T94 x3_2 (ji12)).f5)) ∧ w'.cell? ⟨go18, (((ji12)).toNat * 21) + 6, none⟩ = some (.int .i64 ((rd_T94 x3_2 (ji12)).f6)) ∧ w'.cell? ⟨go18, (((ji12)).toNat * 21) + 7, none⟩ = some (.int .i64 ((rd_T94 x3_2 (ji12)).f7)) ∧ w'.cell? ⟨go18, (((ji12)).toNat * 21) + 8, none⟩ = some (.int .i64 ((rd_T94 x3_2 (ji12)).f8)) ∧ w'.cell? ⟨go18, (((ji12)).toNat * 21) + 9, none⟩ = some (.int .i64 ((rd_T94 x3_2 (ji12)).f9)) ∧ w'.cell? ⟨go18, (((ji12)).toNat * 21) + 10, none⟩ = some (.int .i64 ((rd_T94 x3_2 (ji12)).f10)) ∧ w'.cell? ⟨go18, (((ji12)).toNat * 21) + 11, none⟩ = some (.int .i64 ((rd_T94 x3_2 (ji12)).f11)) ∧ w'.cell? ⟨go18, (((ji12)).toNat * 21) + 12, none⟩ = some (.int .i64 ((rd_T94 x3_2 (ji12)).f12)) ∧ w'.cell? ⟨go18, (((ji12)).toNat * 21) + 13, none⟩ = some (.int .i64 ((rd_T94 x3_2 (ji12)).f13)) ∧ w'.cell? ⟨go18, (((ji12)).toNat * 21) + 14, none⟩ = some (.int .i64 ((rd_T94 x3_2 (ji12)).f14)) ∧ w'.cell? ⟨go18, (((ji12)).toNat * 21) + 15, none⟩ = some (.int .i64 ((rd_T94 x3_2 (ji12)).f15)) ∧ w'.cell? ⟨go18, (((ji12)).toNat * 21) + 16, none⟩ = some (.int .i64 ((rd_T94 x3_2 (ji12)).f16)) ∧ w'.cell? ⟨go18, (((ji12)).toNat * 21) + 17, none⟩ = some (.int .i64 ((rd_T94 x3_2 (ji12)).f17)) ∧ w'.cell? ⟨go18, (((ji12)).toNat * 21) + 18, none⟩ = some (.int .i64 ((rd_T94 x3_2 (ji12)).f18)) ∧ w'.cell? ⟨go18, (((ji12)).toNat * 21) + 19, none⟩ = some (.int .i64 ((rd_T94 x3_2 (ji12)).f19)) ∧ w'.cell? ⟨go18, (((ji12)).toNat * 21) + 20, none⟩ = some (.int .i64 ((rd_T94 x3_2 (ji12)).f20))) (ds := [21]) #[false, false, false, false, false, false, false, false, false, false, false, false, false, false, false, false, false, false, false, false, false, false] (by kernel_rfl) rfl rfl ⟨(blk_cell BK253.out 0).trans rfl, (blk_cell BK253.out 1).trans rfl, (blk_cell BK253.out 2).trans rfl, (blk_cell BK253.out 3).trans rfl, (blk_cell BK253.out 4).trans rfl, (blk_cell BK253.out 5).trans rfl, hx257_0, hx257_1, hx257_2, hx257_3, hx257_4, hx257_5, hx257_6, hx257_7, hx257_8, hx257_9, hx257_10, hx257_11, hx257_12, hx257_13, hx257_14, hx257_15, hx257_16, hx257_17, hx257_18, hx257_19, hx257_20⟩ (fun hHeld => ?_); refine with_tabW impl_Process_worths.tab8 impl_Process_worths.bits8 (fun HT_ HW_ => ?_)
               generalize wr.drew = w22 at HO_3 BK253 HB GG18 hf18_0 hf18_1 hf18_10 hf18_11 hf18_12 hf18_13 hf18_14 hf18_15 hf18_16 hf18_17 hf18_18 hf18_19 hf18_2 hf18_20 hf18_3 hf18_4 hf18_5 hf18_6 hf18_7 hf18_8 hf18_9 hf24_0 hx18_0 hx18_1 hx18_10 hx18_11 hx18_12 hx18_13 hx18_14 hx18_15 hx18_16 hx18_17 hx18_18 hx18_19 hx18_2 hx18_20 hx18_3 hx18_4 hx18_5 hx18_6 hx18_7 hx18_8 hx18_9 hx24_0 hx257_0 hx257_1 hx257_10 hx257_11 hx257_12 hx257_13 hx257_14 hx257_15 hx257_16 hx257_17 hx257_18 hx257_19 hx257_2 hx257_20 hx257_3 hx257_4 hx257_5 hx257_6 hx257_7 hx257_8 hx257_9 hHeld ⊢
               refine pure_ (i := 0) (N := some 22) (v := ?_) (a' := ?_) #[true, false, false, false, false, false, false, false, false, false, false, false, false, false, false, false, false, false, false, false, false, false] rfl rfl (any_of HT_.out (by kernel_rfl)) (fun _ _ _ h => h) (Or.inl ⟨by rfl, ?_⟩) ?_ ?_
               rotate_left
               ·intro w'
                go_simp
                with_reducible rfl
               rotate_left
               ·simp only [Act.put, List.setIfInBounds_toArray, List.set_cons_zero, List.set_cons_succ, i64_w, i32_w]
                rfl
               refine pure_ (i := 1) (N := some 23) (v := ?_) (a' := ?_) #[true, true, false, false, false, false, false, false, false, false, false, false, false, false, false, false, false, false, false, false, false, false] rfl rfl (any_of HT_.out (by kernel_rfl)) (fun _ _ _ h => h) (Or.inl ⟨by rfl, ?_⟩) ?_ ?_
               rotate_left
               ·intro w'
                go_simp
                with_reducible rfl
               rotate_left
               ·simp only [Act.put, List.setIfInBounds_toArray, List.set_cons_zero, List.set_cons_succ, i64_w, i32_w]
                rfl
               refine pure_ (i := 2) (N := some 24) (v := ?_) (a' := ?_) #[true, true, true, false, false, false, false, false, false, false, false, false, false, false, false, false, false, false, false, false, false, false] rfl rfl (any_of HT_.out (by kernel_rfl)) (fun _ _ _ h => h) (Or.inl ⟨by rfl, ?_⟩) ?_ ?_
               rotate_left
               ·intro w'
                go_simp
                with_reducible rfl
               rotate_left
               ·simp only [Act.put, List.setIfInBounds_toArray, List.set_cons_zero, List.set_cons_succ, i64_w, i32_w]
                rfl
               refine pure_ (i := 3) (N := some 25) (v := ?_) (a' := ?_) #[true, true, true, true, false, false, false, false, false, false, false, false, false, false, false, false, false, false, false, false, false, false] rfl rfl (any_of HT_.out (by kernel_rfl)) (fun _ _ _ h => h) (Or.inl ⟨by rfl, ?_⟩) ?_ ?_
               rotate_left
               ·intro w'
                go_simp
                with_reducible rfl
               rotate_left
               ·simp only [Act.put, List.setIfInBounds_toArray, List.set_cons_zero, List.set_cons_succ, i64_w, i32_w]
                rfl
               refine pure_ (i := 5) (N := some 27) (v := ?_) (a' := ?_) #[true, true, true, true, false, true, false, false, false, false, false, false, false, false, false, false, false, false, false, false, false, false] rfl rfl (any_of HT_.out (by kernel_rfl)) (fun _ _ _ h => h) (Or.inl ⟨by rfl, ?_⟩) ?_ ?_
               rotate_left
               ·intro w'
                go_simp
                with_reducible rfl
               rotate_left
               ·simp only [Act.put, List.setIfInBounds_toArray, List.set_cons_zero, List.set_cons_succ, i64_w, i32_w]
                rfl
               refine pure_ (i := 7) (N := some 29) (v := ?_) (a' := ?_) #[true, true, true, true, false, true, false, true, false, false, false, false, false, false, false, false, false, false, false, false, false, false] rfl rfl (any_of HT_.out (by kernel_rfl)) (fun _ _ _ h => h) (Or.inl ⟨by rfl, ?_⟩) ?_ ?_
               rotate_left
               ·intro w'
                go_simp
                with_reducible rfl
               rotate_left
               ·simp only [Act.put, List.setIfInBounds_toArray, List.set_cons_zero, List.set_cons_succ, i64_w, i32_w]
                rfl
               refine pure_ (i := 9) (N := some 31) (v := ?_) (a' := ?_) #[true, true, true, true, false, true, false, true, false, true, false, false, false, false, false, false, false, false, false, false, false, false] rfl rfl (any_of HT_.out (by kernel_rfl)) (fun _ _ _ h => h) (Or.inl ⟨by rfl, ?_⟩) ?_ ?_
               rotate_left
               ·intro w'
                go_simp
                with_reducible rfl
               rotate_left
               ·simp only [Act.put, List.setIfInBounds_toArray, List.set_cons_zero, List.set_cons_succ, i64_w, i32_w]
                rfl
               refine pure_ (i := 10) (N := some 32) (v := ?_) (a' := ?_) #[true, true, true, true, false, true, false, true, false, true, true, false, false, false, false, false, false, false, false, false, false, false] rfl rfl (any_of HT_.out (by kernel_rfl)) (fun _ _ _ h => h) (Or.inl ⟨by rfl, ?_⟩) ?_ ?_
               rotate_left
               ·intro w'
                go_simp
                with_reducible rfl
               rotate_left
               ·simp only [Act.put, List.setIfInBounds_toArray, List.set_cons_zero, List.set_cons_succ, i64_w, i32_w]
                rfl
               refine pure_ (i := 11) (N := some 33) (v := ?_) (a' := ?_) #[true, true, true, true, false, true, false, true, false, true, true, true, false, false, false, false, false, false, false, false, false, false] rfl rfl (any_of HT_.out (by kernel_rfl)) (fun _ _ _ h => h) (Or.inl ⟨by rfl, ?_⟩) ?_ ?_
               rotate_left
               ·intro w'
                go_simp
                with_reducible rfl
               rotate_left
               ·simp only [Act.put, List.setIfInBounds_toArray, List.set_cons_zero, List.set_cons_succ, i64_w, i32_w]
                rfl
               refine pure_ (i := 12) (N := some 34) (v := ?_) (a' := ?_) #[true, true, true, true, false, true, false, true, false, true, true, true, true, false, false, false, false, false, false, false, false, false] rfl rfl (any_of HT_.out (by kernel_rfl)) (fun _ _ _ h => h) (Or.inl ⟨by rfl, ?_⟩) ?_ ?_
               rotate_left
               ·intro w'
                go_simp
                with_reducible rfl
               rotate_left
               ·simp only [Act.put, List.setIfInBounds_toArray, List.set_cons_zero, List.set_cons_succ, i64_w, i32_w]
                rfl
               refine pure_ (i := 13) (N := some 35) (v := ?_) (a' := ?_) #[true, true, true, true, false, true, false, true, false, true, true, true, true, true, false, false, false, false, false, false, false, false] rfl rfl (any_of HT_.out (by kernel_rfl)) (fun _ _ _ h => h) (Or.inl ⟨by rfl, ?_⟩) ?_ ?_
               rotate_left
               ·intro w'
                go_simp
                with_reducible rfl
               rotate_left
               ·simp only [Act.put, List.setIfInBounds_toArray, List.set_cons_zero, List.set_cons_succ, i64_w, i32_w]
                rfl
               refine pure_ (i := 19) (N := some 40) (v := ?_) (a' := ?_) #[true, true, true, true, false, true, false, true, false, true, true, true, true, true, false, false, false, false, false, true, false, false] rfl rfl (any_of HT_.out (by kernel_rfl)) (fun _ _ _ h => h) (Or.inl ⟨by rfl, ?_⟩) ?_ ?_
               rotate_left
               ·intro w'
                go_simp
                with_reducible rfl
               rotate_left
               ·simp only [Act.put, List.setIfInBounds_toArray, List.set_cons_zero, List.set_cons_succ, i64_w, i32_w]
                rfl
               refine take_ (i := 4) (N := some 26) (v := ?_) (a' := ?_) #[true, true, true, true, true, true, false, true, false, true, true, true, true, true, false, false, false, false, false, true, false, false] rfl rfl (take_ofW HT_.out HW_.out (by kernel_rfl)) (fun _ _ _ h => h) (Or.inl ⟨by rfl, ?_⟩) hHeld ?_ ?_
               rotate_left
               ·rintro w' ⟨s0, s1, s2, s3, s4, s5, s6, s7, s8, s9, s10, s11, s12, s13, s14, s15, s16, s17, s18, s19, s20, s21, s22, s23, s24, s25, s26⟩
                first | (refine (loadA94 (by exact rfl) (by exact rfl) s6 s7 s8 s9 s10 s11 s12 s13 s14 s15 s16 s17 s18 s19 s20 s21 s22 s23 s24 s25 s26).trans ?_; with_reducible rfl) | (go_simp; with_reducible rfl)
               rotate_left
               ·simp only [Act.put, List.setIfInBounds_toArray, List.set_cons_zero, List.set_cons_succ, i64_w, i32_w]
                rfl
               refine take_ (i := 6) (N := some 28) (v := ?_) (a' := ?_) #[true, true, true, true, true, true, true, true, false, true, true, true, true, true, false, false, false, false, false, true, false, false] rfl rfl (take_ofW HT_.out HW_.out (by kernel_rfl)) (fun _ _ _ h => h) (Or.inl ⟨by rfl, ?_⟩) hHeld ?_ ?_
               rotate_left
               ·rintro w' ⟨s0, s1, s2, s3, s4, s5, s6, s7, s8, s9, s10, s11, s12, s13, s14, s15, s16, s17, s18, s19, s20, s21, s22, s23, s24, s25, s26⟩
                first | (refine (loadA94 (by exact rfl) (by exact rfl) s6 s7 s8 s9 s10 s11 s12 s13 s14 s15 s16 s17 s18 s19 s20 s21 s22 s23 s24 s25 s26).trans ?_; with_reducible rfl) | (go_simp; with_reducible rfl)
               rotate_left
               ·simp only [Act.put, List.setIfInBounds_toArray, List.set_cons_zero, List.set_cons_succ, i64_w, i32_w]
                rfl
               refine pure_ (i := 8) (N := some 30) (v := ?_) (a' := ?_) #[true, true, true, true, true, true, true, true, true, true, true, true, true, true, false, false, false, false, false, true, false, false] rfl rfl (any_of HT_.out (by kernel_rfl)) (fun _ _ _ h => h) (Or.inl ⟨by rfl, ?_⟩) ?_ ?_
               rotate_left
               ·intro w'
                go_simp
                with_reducible rfl
               rotate_left
               ·simp only [Act.put, List.setIfInBounds_toArray, List.set_cons_zero, List.set_cons_succ, i64_w, i32_w]
                rfl
               refine take_ (i := 14) (N := some 36) (v := ?_) (a' := ?_) #[true, true, true, true, true, true, true, true, true, true, true, true, true, true, true, false, false, false, false, true, false, false] rfl rfl (take_ofW HT_.out HW_.out (by kernel_rfl)) (fun _ _ _ h => h) (Or.inl ⟨by rfl, ?_⟩) hHeld ?_ ?_
               rotate_left
               ·rintro w' ⟨s0, s1, s2, s3, s4, s5, s6, s7, s8, s9, s10, s11, s12, s13, s14, s15, s16, s17, s18, s19, s20, s21, s22, s23, s24, s25, s26⟩
                first | (refine (loadA94 (by exact rfl) (by exact rfl) s6 s7 s8 s9 s10 s11 s12 s13 s14 s15 s16 s17 s18 s19 s20 s21 s22 s23 s24 s25 s26).trans ?_; with_reducible rfl) | (go_simp; with_reducible rfl)
               rotate_left
               ·simp only [Act.put, List.setIfInBounds_toArray, List.set_cons_zero, List.set_cons_succ, i64_w, i32_w]
                rfl
               refine one_ (i := 15) (N := some 37) #[true, true, true, true, true, true, true, true, true, true, true, true, true, true, true, true, false, false, false, true, false, false] rfl rfl (one_of HT_.out (by kernel_rfl)) (by decide) (fun K hK => ?_)
               refine goes_ Try.func79 (by kernel_rfl) rfl #[.agg #[.int .i64 a0_0, .slice A0_1 l0_1.length c0_1, .int .i64 a0_2, .int .i64 a0_3, .int .i64 a0_4, .int .i64 a0_5], .int .i64 (wrap64 (a0_0 - x4_1)), .int .i64 x5_2, .agg #[.int .i64 ((rd_T94 x3_2 (ji12)).f0), .int .i64 ((rd_T94 x3_2 (ji12)).f1), .int .i64 ((rd_T94 x3_2 (ji12)).f2), .int .i64 ((rd_T94 x3_2 (ji12)).f3), .int .i64 ((rd_T94 x3_2 (ji12)).f4), .int .i64 ((rd_T94 x3_2 (ji12)).f5), .int .i64 ((rd_T94 x3_2 (ji12)).f6), .int .i64 ((rd_T94 x3_2 (ji12)).f7), .int .i64 ((rd_T94 x3_2 (ji12)).f8), .int .i64 ((rd_T94 x3_2 (ji12)).f9), .int .i64 ((rd_T94 x3_2 (ji12)).f10), .int .i64 ((rd_T94 x3_2 (ji12)).f11), .int .i64 ((rd_T94 x3_2 (ji12)).f12), .int .i64 ((rd_T94 x3_2 (ji12)).f13), .int .i64 ((rd_T94 x3_2 (ji12)).f14), .int .i64 ((rd_T94 x3_2 (ji12)).f15), .int .i64 ((rd_T94 x3_2 (ji12)).f16), .int .i64 ((rd_T94 x3_2 (ji12)).f17), .int .i64 ((rd_T94 x3_2 (ji12)).f18), .int .i64 ((rd_T94 x3_2 (ji12)).f19), .int .i64 ((rd_T94 x3_2 (ji12)).f20)]] (by rfl) rfl rfl (by (try simp only [List.map_toArray, List.map_cons, List.map_nil]); first | done | (simp only [hji12]; rfl) | rfl | (simp only [List.length_drop, List.length_take]; rfl)) ?_
               with_reducible refine (impl_Process_least.calls k2 a0_0 _ _ l0_1 a0_2 a0_3 a0_4 a0_5 (wrap64 (a0_0 - x4_1)) x5_2 ((rd_T94 x3_2 (ji12)).f0) ((rd_T94 x3_2 (ji12)).f1) ((rd_T94 x3_2 (ji12)).f2) ((rd_T94 x3_2 (ji12)).f3) ((rd_T94 x3_2 (ji12)).f4) ((rd_T94 x3_2 (ji12)).f5) ((rd_T94 x3_2 (ji12)).f6) ((rd_T94 x3_2 (ji12)).f7) ((rd_T94 x3_2 (ji12)).f8) ((rd_T94 x3_2 (ji12)).f9) ((rd_T94 x3_2 (ji12)).f10) ((rd_T94 x3_2 (ji12)).f11) ((rd_T94 x3_2 (ji12)).f12) ((rd_T94 x3_2 (ji12)).f13) ((rd_T94 x3_2 (ji12)).f14) ((rd_T94 x3_2 (ji12)).f15) ((rd_T94 x3_2 (ji12)).f16) ((rd_T94 x3_2 (ji12)).f17) ((rd_T94 x3_2 (ji12)).f18) ((rd_T94 x3_2 (ji12)).f19) ((rd_T94 x3_2 (ji12)).f20) t258 t259 _ ?side1 ?side2 A15.out).mono ?_
               (case side1 => repeat (first | exact (Kd.C_below HR0_1.out HB.out) | (with_reducible refine Kd.C_alloc ?_ _) | (with_reducible refine Kd.C_drewN ?_ _) | (with_reducible refine Kd.C_drew ?_)))
               (case side2 => exact HC0_1.out)
               rintro e w25 ⟨rfl, hb⟩
               have HS6_ := (hb.cell (World.block_lt_of_cell? _ _ (hHeld.2.2.2.2.2.2.1))).trans (hHeld.2.2.2.2.2.2.1)
               have HS7_ := (hb.cell (World.block_lt_of_cell? _ _ (hHeld.2.2.2.2.2.2.2.1))).trans (hHeld.2.2.2.2.2.2.2.1)
               have HS8_ := (hb.cell (World.block_lt_of_cell? _ _ (hHeld.2.2.2.2.2.2.2.2.1))).trans (hHeld.2.2.2.2.2.2.2.2.1)
               have HS9_ := (hb.cell (World.block_lt_of_cell? _ _ (hHeld.2.2.2.2.2.2.2.2.2.1))).trans (hHeld.2.2.2.2.2.2.2.2.2.1)
               have HS10_ := (hb.cell (World.block_lt_of_cell? _ _ (hHeld.2.2.2.2.2.2.2.2.2.2.1))).trans (hHeld.2.2.2.2.2.2.2.2.2.2.1)
               have HS11_ := (hb.cell (World.block_lt_of_cell? _ _ (hHeld.2.2.2.2.2.2.2.2.2.2.2.1))).trans (hHeld.2.2.2.2.2.2.2.2.2.2.2.1)
               have HS12_ := (hb.cell (World.block_lt_of_cell? _ _ (hHeld.2.2.2.2.2.2.2.2.2.2.2.2.1))).trans (hHeld.2.2.2.2.2.2.2.2.2.2.2.2.1)
               have HS13_ := (hb.cell (World.block_lt_of_cell? _ _ (hHeld.2.2.2.2.2.2.2.2.2.2.2.2.2.1))).trans (hHeld.2.2.2.2.2.2.2.2.2.2.2.2.2.1)
               have HS14_ := (hb.cell (World.block_lt_of_cell? _ _ (hHeld.2.2.2.2.2.2.2.2.2.2.2.2.2.2.1))).trans (hHeld.2.2.2.2.2.2.2.2.2.2.2.2.2.2.1)
               have HS15_ := (hb.cell (World.block_lt_of_cell? _ _ (hHeld.2.2.2.2.2.2.2.2.2.2.2.2.2.2.2.1))).trans (hHeld.2.2.2.2.2.2.2.2.2.2.2.2.2.2.2.1)
               have HS16_ := (hb.cell (World.block_lt_of_cell? _ _ (hHeld.2.2.2.2.2.2.2.2.2.2.2.2.2.2.2.2.1))).trans (hHeld.2.2.2.2.2.2.2.2.2.2.2.2.2.2.2.2.1)
               have HS17_ := (hb.cell (World.block_lt_of_cell? _ _ (hHeld.2.2.2.2.2.2.2.2.2.2.2.2.2.2.2.2.2.1))).trans (hHeld.2.2.2.2.2.2.2.2.2.2.2.2.2.2.2.2.2.1)
               have HS18_ := (hb.cell (World.block_lt_of_cell? _ _ (hHeld.2.2.2.2.2.2.2.2.2.2.2.2.2.2.2.2.2.2.1))).trans (hHeld.2.2.2.2.2.2.2.2.2.2.2.2.2.2.2.2.2.2.1)
               have HS19_ := (hb.cell (World.block_lt_of_cell? _ _ (hHeld.2.2.2.2.2.2.2.2.2.2.2.2.2.2.2.2.2.2.2.1))).trans (hHeld.2.2.2.2.2.2.2.2.2.2.2.2.2.2.2.2.2.2.2.1)
               have HS20_ := (hb.cell (World.block_lt_of_cell? _ _ (hHeld.2.2.2.2.2.2.2.2.2.2.2.2.2.2.2.2.2.2.2.2.1))).trans (hHeld.2.2.2.2.2.2.2.2.2.2.2.2.2.2.2.2.2.2.2.2.1)
               have HS21_ := (hb.cell (World.block_lt_of_cell? _ _ (hHeld.2.2.2.2.2.2.2.2.2.2.2.2.2.2.2.2.2.2.2.2.2.1))).trans (hHeld.2.2.2.2.2.2.2.2.2.2.2.2.2.2.2.2.2.2.2.2.2.1)
               have HS22_ := (hb.cell (World.block_lt_of_cell? _ _ (hHeld.2.2.2.2.2.2.2.2.2.2.2.2.2.2.2.2.2.2.2.2.2.2.1))).trans (hHeld.2.2.2.2.2.2.2.2.2.2.2.2.2.2.2.2.2.2.2.2.2.2.1)
               have HS23_ := (hb.cell (World.block_lt_of_cell? _ _ (hHeld.2.2.2.2.2.2.2.2.2.2.2.2.2.2.2.2.2.2.2.2.2.2.2.1))).trans (hHeld.2.2.2.2.2.2.2.2.2.2.2.2.2.2.2.2.2.2.2.2.2.2.2.1)
               have HS24_ := (hb.cell (World.block_lt_of_cell? _ _ (hHeld.2.2.2.2.2.2.2.2.2.2.2.2.2.2.2.2.2.2.2.2.2.2.2.2.1))).trans (hHeld.2.2.2.2.2.2.2.2.2.2.2.2.2.2.2.2.2.2.2.2.2.2.2.2.1)
               have HS25_ := (hb.cell (World.block_lt_of_cell? _ _ (hHeld.2.2.2.2.2.2.2.2.2.2.2.2.2.2.2.2.2.2.2.2.2.2.2.2.2.1))).trans (hHeld.2.2.2.2.2.2.2.2.2.2.2.2.2.2.2.2.2.2.2.2.2.2.2.2.2.1)
               have HS26_ := (hb.cell (World.block_lt_of_cell? _ _ (hHeld.2.2.2.2.2.2.2.2.2.2.2.2.2.2.2.2.2.2.2.2.2.2.2.2.2.2))).trans (hHeld.2.2.2.2.2.2.2.2.2.2.2.2.2.2.2.2.2.2.2.2.2.2.2.2.2.2)
               refine ⟨_, rfl, ?_⟩
               have n0_ := Aside0.mk (Kd.R_below (by (with_reducible repeat (first | apply Kd.R_alloc | apply Kd.R_drewN | apply Kd.R_drew)); exact HO_3.out) hb)
               have n1_ := Aside0.mk (blk_below (g := gb253) (o := .cells #[.int .i64 a0_0, .slice A0_1 l0_1.length c0_1, .int .i64 a0_2, .int .i64 a0_3, .int .i64 a0_4, .int .i64 a0_5] 30 (0, 0)) (by (with_reducible repeat (first | refine blk_drewN ?_ _ | refine blk_drew ?_ | refine blk_alloc ?_ _)); exact BK253.out) hb)
               have n2_ := Aside0.mk (below_step (by repeat (first | (with_reducible first | exact HB.out | apply below_alloc | apply pw_below_drewN | apply below_drew1 | refine below_set ?_ GE253.out) | exact HB.out)) hb)
               clear HO_3
               clear BK253
               clear HB
               have HO_3 := n0_
               have BK253 := n1_
               have HB := n2_
               clear n0_ n1_ n2_
               (try clear hb)
               (try clear hb2)
               (try clear hk)
               (try clear hi)
               obtain ⟨ce26, hcl26, hM26, hcc26, hfr26⟩ := Kd.R_elem HO_3.out z94 (x4_1 : Int) (of_decide_eq_true (by first | (with_reducible assumption) | assumption)) (by have h_ : (x4_1 : Int) < ((x3_2.length : Int) : Int) := of_decide_eq_true (by first | (with_reducible assumption) | assumption); first | exact h_ | (have e_ := (Kd.R_reads' HO_3.out).1; omega) | simpa using h_)
               obtain rfl := k94_openM hM26
               have qd26 : ((ji19) : Int) < 21 := of_decide_eq_true (by first | (with_reducible assumption) | assumption)
               have hx26_0 : World.cell? _ ⟨go18, (x4_1 : Int).toNat * 21 + ((ji19) : Int).toNat, none⟩ = some (.int .i64 (getA94 (rd_T94 x3_2 x4_1) ((ji19) : Int).toNat)) := hcc26 ((ji19) : Int).toNat _ (cellA94 _ (by omega))
               have hf26_0 : World.frozen? _ ⟨go18, (x4_1 : Int).toNat * 21 + ((ji19) : Int).toNat, none⟩ = false := hfr26 ((ji19) : Int).toNat
               have HP26 := (Kd.R_seg HO_3.out (x4_1 : Int) (of_decide_eq_true (by first | (with_reducible assumption) | assumption)) (by have h_ : (x4_1 : Int) < ((x3_2.length : Int) : Int) := of_decide_eq_true (by first | (with_reducible assumption) | assumption); first | exact h_ | (have e_ := (Kd.R_reads' HO_3.out).1; omega) | simpa using h_) (seg := [.int .i64 t258]) (j := ((ji19) : Int).toNat) hcl26 hcc26 (show ((ji19) : Int).toNat + 1 ≤ 21 from by omega) (x' := putA94 (rd_T94 x3_2 x4_1) ((ji19) : Int).toNat t258) (putA94_M _ _ _ _ _ (by omega)) (fun _ hk => hk)).1
               rw [← Ny260.out] at HP26
               have HQ26 := Aside0.mk HP26
               clear hcl26 hcc26 hfr26 hM26 HP26 qd26
               refine hK.out _ _ ⟨(blk_cell BK253.out 0).trans rfl, (blk_cell BK253.out 1).trans rfl, (blk_cell BK253.out 2).trans rfl, (blk_cell BK253.out 3).trans rfl, (blk_cell BK253.out 4).trans rfl, (blk_cell BK253.out 5).trans rfl, HS6_, HS7_, HS8_, HS9_, HS10_, HS11_, HS12_, HS13_, HS14_, HS15_, HS16_, HS17_, HS18_, HS19_, HS20_, HS21_, HS22_, HS23_, HS24_, HS25_, HS26_⟩ (fun hHeld => ?_)
               clear hK K
               refine norm_ (a' := ?_) ?_ ?_
               rotate_left
               ·show Act.put _ (some 37) _ = _
                simp only [Act.put, List.setIfInBounds_toArray, List.set_cons_zero, List.set_cons_succ, i64_w, i32_w]
                rfl
               refine pure_ (i := 16) (N := some 21) (v := ?_) (a' := ?_) #[true, true, true, true, true, true, true, true, true, true, true, true, true, true, true, true, true, false, false, true, false, false] rfl rfl (any_of HT_.out (by kernel_rfl)) (fun _ _ _ h => h) (Or.inl ⟨by rfl, ?_⟩) ?_ ?_
               rotate_left
               ·intro w'
                go_simp
                with_reducible rfl
               rotate_left
               ·simp only [Act.put, List.setIfInBounds_toArray, List.set_cons_zero, List.set_cons_succ, i64_w, i32_w]
                rfl
               refine pure_ (i := 17) (N := some 38) (v := ?_) (a' := ?_) #[true, true, true, true, true, true, true, true, true, true, true, true, true, true, true, true, true, true, false, true, false, false] rfl rfl (any_of HT_.out (by kernel_rfl)) (fun _ _ _ h => h) (Or.inl ⟨by rfl, ?_⟩) ?_ ?_
               rotate_left
               ·intro w'
                go_simp
                with_reducible rfl
               rotate_left
               ·simp only [Act.put, List.setIfInBounds_toArray, List.set_cons_zero, List.set_cons_succ, i64_w, i32_w]
                rfl
               refine pure_ (i := 18) (N := some 39) (v := ?_) (a' := ?_) #[true, true, true, true, true, true, true, true, true, true, true, true, true, true, true, true, true, true, true, true, false, false] rfl rfl (any_of HT_.out (by kernel_rfl)) (fun _ _ _ h => h) (Or.inl ⟨by rfl, ?_⟩) ?_ ?_
               rotate_left
               ·intro w'
                go_simp
                with_reducible rfl
               rotate_left
               ·simp only [Act.put, List.setIfInBounds_toArray, List.set_cons_zero, List.set_cons_succ, i64_w, i32_w]
                rfl
               refine pure_ (i := 20) (N := some 41) (v := ?_) (a' := ?_) #[true, true, true, true, true, true, true, true, true, true, true, true, true, true, true, true, true, true, true, true, true, false] rfl rfl (any_of HT_.out (by kernel_rfl)) (fun _ _ _ h => h) (Or.inl ⟨by rfl, ?_⟩) ?_ ?_
               rotate_left
               ·intro w'
                go_simp
                with_reducible rfl
               rotate_left
               ·simp only [Act.put, List.setIfInBounds_toArray, List.set_cons_zero, List.set_cons_succ, i64_w, i32_w]
                rfl
               refine last_ (i := 21) (N := none) #[true, true, true, true, true, true, true, true, true, true, true, true, true, true, true, true, true, true, true, true, true, true] rfl rfl (one_of HT_.out (by kernel_rfl)) (by decide) (fun K hK => ?_)
               refine skip_ (w1 := ?_) (by rfl) rfl ?_ ?_
               rotate_left
               ·go_simp
                rfl
               refine hK.out _ _ ?_
               clear hK K
               refine done_ (done_of HT_.out (by kernel_rfl)) ?_
               try go_wp2
               go_roundg k2
               case measure => have := HK1.out; have := HK2.out; omega
               case rel => exact ⟨(y260), (wrap64 (x5_2 + 1)), (by first | rfl | (simp; done) | (simp [*]; done)), H', ⟨by have := HK1.out; have := HK2.out; omega⟩, ⟨by (with_reducible repeat (first | apply Kd.R_alloc | apply Kd.R_drewN | apply Kd.R_drew)); exact HQ26.out⟩, ⟨by (with_reducible repeat (first | refine blk_drewN ?_ _ | refine blk_drew ?_ | refine blk_alloc ?_ _)); refine blk_far ?_ (by have h_ := Kd.R_ne HO_3.out BK253.out (by decide); intro e_; exact h_ (by rw [e_]; rfl)) _; (with_reducible repeat (first | refine blk_drewN ?_ _ | refine blk_drew ?_ | refine blk_alloc ?_ _)); exact BK253.out⟩, ⟨by repeat (first | (with_reducible first | exact HB.out | apply below_alloc | apply pw_below_drewN | apply below_drew1 | refine below_set ?_ GB18.out | refine below_set ?_ GE253.out) | exact HB.out)⟩⟩
              ·rw [if_neg c21] at H
               exact absurd H (by simp)
             ·rw [if_neg c20] at H
              exact absurd H (by simp)
            ·rw [if_neg c17] at H
             exact absurd H (by simp)
           ·rw [if_neg c16] at H
            exact absurd H (by simp)
          ·rw [if_neg c14] at H
           exact absurd H (by simp)
         ·rw [if_neg c13] at H
          exact absurd H (by simp)
        ·rw [if_neg c11] at H
         have c11b0 : decide (x5_2 ≤ 10) = false := decide_eq_false c11
         clear c11
         have H' := Aside0.mk H
         clear H
         go_wp2
         go_roundg k2
         case measure => have := HK1.out; have := HK2.out; omega
         case rel => exact ⟨(x3_2), (wrap64 (x4_1 - 1)), (by first | rfl | (simp; done) | (simp [*]; done)), H', ⟨by have := HK1.out; have := HK2.out; omega⟩, ⟨by (with_reducible repeat (first | apply Kd.R_alloc | apply Kd.R_drewN | apply Kd.R_drew)); exact HO_3.out⟩, ⟨by (with_reducible repeat (first | refine blk_drewN ?_ _ | refine blk_drew ?_ | refine blk_alloc ?_ _)); exact BK253.out⟩, ⟨by repeat (first | (with_reducible first | exact HB.out | apply below_alloc | apply pw_below_drewN | apply below_drew1 | refine below_set ?_ GE253.out) | exact HB.out)⟩⟩
     ·rw [if_neg c10] at H
      have c10b0 : decide (0 ≤ x4_1) = false := decide_eq_false c10
      clear c10
      obtain rfl := Option.some.inj H
      go_wp2
      go_ret
      exact ⟨_, by first | rfl | (simp [errW_none, errW_some] <;> rfl) | (simp only [← hji2]; first | rfl | (simp [errW_none, errW_some] <;> rfl)) | (simp [*, errW_none, errW_some] <;> rfl), by (with_reducible repeat (first | apply Kd.R_alloc | apply Kd.R_drewN | apply Kd.R_drew)); exact HO_3.out, by repeat (first | (with_reducible first | exact HB.out | apply below_alloc | apply pw_below_drewN | apply below_drew1 | refine below_set ?_ GE253.out) | exact HB.out)⟩
  ·rw [if_neg c4] at H
   exact absurd H (by simp)
 ·rw [if_neg c3] at H
  exact absurd H (by simp)

end Go.Proofs.Ytmekmkhdhakohaa.PFnExactBestLevels
