-- A text of this session (its program hook.py, over the kit's print.py): not a print of print.sh
-- THIN: one blank for two
import Derived.Test.YtfgclhojgaaepaaPFnExactServiceOfx0
import Derived.Test.YtfgclhojgaaepaaPFnExactServiceOfx1
import Derived.Test.YtfgclhojgaaepaaPFnExactServiceOfx2
namespace Go.Proofs.Ytfgclhojgaaepaa.PFnExactServiceOf
open Go.RowKit Go.Proofs.YtfgclhojgaaepaaW.PrintWords Go.Proofs.YtfgclhojgaaepaaW.PrintLast Go.Proofs.YtfgclhojgaaepaaW.PrintMore
attribute [local go_sem] max2_int min2_int max_two min_two max_three min_three max_four min_four   -- for this text's walks alone
set_option linter.unusedVariables false
set_option linter.unusedSimpArgs false

-- LIGHT
theorem zA3 {p : Prop} (h : p) : Aside0 p := Aside0.mk h
theorem bN3 {w : World} {g : Nat} {o : Obj} (h : w.heap[g]? = some o) (m : Nat) : (w.drewN m).heap[g]? = some o := blk_drewN h m
theorem bD3 {w : World} {g : Nat} {o : Obj} (h : w.heap[g]? = some o) : w.drew.heap[g]? = some o := blk_drew h
theorem bA3 {w : World} {g : Nat} {o : Obj} (h : w.heap[g]? = some o) (o2 : Obj) : (w.alloc o2).heap[g]? = some o := blk_alloc h o2

/-! ### spec_l11Run: function 64 -/
mutual
def spec_l11Run.j0 : Nat → List Int → Bool → Int → List Int → Int → Int → Int → List Int → List Int → Int → Option (List Int × List Int × Int × Bool)
 | 0, _, _, _, _, _, _, _, _, _, _ => none
 | k + 1, x2, x30, x147000, x147001, x148000, x148001, x148002, x156000, x156001, x156002 => if x30 = true then (some (x156000, x156001, x156002, false)) else (spec_l11Run.l0 k x2 0 x148000 x148001 x148002 x156000 x156001 x156002 x147000 x147001)
def spec_l11Run.l0 : Nat → List Int → Int → Int → Int → Int → List Int → List Int → Int → Int → List Int → Option (List Int × List Int × Int × Bool)
 | 0, _, _, _, _, _, _, _, _, _, _ => none
 | k + 1, x2, x10, x148000, x148001, x148002, x156000, x156001, x156002, x160000, x160001 => if x10 < (x2.length : Int) then ((spec_RuleOrder.f k x160000 x160001 x148000 x148001 x148002).bind fun bt160 => (if bt160.2 = true then (if 0 ≤ x10 then ((spec_l11Day.f x160000 x160001 bt160.1 (rd x2 x10)).bind fun bt169 => ((spec_l11Flow.f k bt169.1 bt169.2.1).bind fun t175 => (if t175 = true then (if x156000.length < 17592186044416 then (if x156001.length < 17592186044416 then ((spec_l1Least.f (rd x2 x10) bt169.2.2).bind fun t183 => ((spec_l1Most.f t183 0).bind fun t184 => (spec_l11Run.l0 k x2 (wrap64 (x10 + 1)) x148000 x148001 x148002 (x156000 ++ [bt160.1]) (x156001 ++ [bt169.1]) (wrap64 (x156002 + t184)) bt169.1 bt169.2.1))) else (none)) else (none)) else (some ((([] : List Int)), (([] : List Int)), 0, false))))) else (none)) else (some ((([] : List Int)), (([] : List Int)), 0, false)))) else (some (x156000, x156001, x156002, true))
end
def spec_l11Run.f (k : Nat) (a0_0 : Int) (l0_1 : List Int) (a1_0 : Int) (a1_1 : Int) (a1_2 : Int) (l2 : List Int) : Option (List Int × List Int × Int × Bool) := (some (([] : List Int) : List Int)).bind fun y149 => ((some (([] : List Int) : List Int)).bind fun y152 => ((spec_l11Flow.f k a0_0 l0_1).bind fun t156 => (if t156 = true then ((spec_l11Rule.f k a1_0 a1_1 a1_2).bind fun t157 => (if t157 = true then ((spec_l11Numbers.f k l2 20 20).bind fun t158 => (spec_l11Run.j0 k l2 (!t158) a0_0 l0_1 a1_0 a1_1 a1_2 y149 y152 0)) else (spec_l11Run.j0 k l2 true a0_0 l0_1 a1_0 a1_1 a1_2 y149 y152 0))) else (spec_l11Run.j0 k l2 true a0_0 l0_1 a1_0 a1_1 a1_2 y149 y152 0))))
theorem spec_l11Run.mono_l : ∀ k, (∀ y0 y1 y2 y3 y4 y5 y6 y7 y8 y9, LeO (spec_l11Run.j0 k y0 y1 y2 y3 y4 y5 y6 y7 y8 y9) (spec_l11Run.j0 (k + 1) y0 y1 y2 y3 y4 y5 y6 y7 y8 y9)) ∧ (∀ y0 y1 y2 y3 y4 y5 y6 y7 y8 y9, LeO (spec_l11Run.l0 k y0 y1 y2 y3 y4 y5 y6 y7 y8 y9) (spec_l11Run.l0 (k + 1) y0 y1 y2 y3 y4 y5 y6 y7 y8 y9))
 | 0 => ⟨fun _ _ _ _ _ _ _ _ _ _ r h => by simp [spec_l11Run.j0] at h, fun _ _ _ _ _ _ _ _ _ _ r h => by simp [spec_l11Run.l0] at h⟩
 | k + 1 => by
  obtain ⟨ih0, ih1⟩ := spec_l11Run.mono_l k
  refine ⟨?_, ?_⟩
  ·intro y0 y1 y2 y3 y4 y5 y6 y7 y8 y9
   unfold spec_l11Run.j0
   repeat' first
   | (with_reducible exact ih0 _ _ _ _ _ _ _ _ _ _)
   | (with_reducible exact ih1 _ _ _ _ _ _ _ _ _ _)
   | (with_reducible exact spec_RuleOrder.mono _ _ _ _ _ _)
   | (with_reducible exact spec_l11Flow.mono _ _ _)
   | (with_reducible exact spec_l11Numbers.mono _ _ _ _)
   | (with_reducible exact spec_l11Rule.mono _ _ _ _)
   | (with_reducible exact LeO.refl _)
   | (with_reducible exact LeO.none _)
   | (with_reducible refine LeO.ite ?_ ?_)
   | (with_reducible refine LeO.bind ?_ (fun _ => ?_))
   | exact ih0 _ _ _ _ _ _ _ _ _ _
   | exact ih1 _ _ _ _ _ _ _ _ _ _
   | exact spec_RuleOrder.mono _ _ _ _ _ _
   | exact spec_l11Flow.mono _ _ _
   | exact spec_l11Numbers.mono _ _ _ _
   | exact spec_l11Rule.mono _ _ _ _
   | exact LeO.none _
   | refine LeO.ite ?_ ?_
   | refine LeO.bind ?_ (fun _ => ?_)
  ·intro y0 y1 y2 y3 y4 y5 y6 y7 y8 y9
   unfold spec_l11Run.l0
   repeat' first
   | (with_reducible exact ih0 _ _ _ _ _ _ _ _ _ _)
   | (with_reducible exact ih1 _ _ _ _ _ _ _ _ _ _)
   | (with_reducible exact spec_RuleOrder.mono _ _ _ _ _ _)
   | (with_reducible exact spec_l11Flow.mono _ _ _)
   | (with_reducible exact spec_l11Numbers.mono _ _ _ _)
   | (with_reducible exact spec_l11Rule.mono _ _ _ _)
   | (with_reducible exact LeO.refl _)
   | (with_reducible exact LeO.none _)
   | (with_reducible refine LeO.ite ?_ ?_)
   | (with_reducible refine LeO.bind ?_ (fun _ => ?_))
   | exact ih0 _ _ _ _ _ _ _ _ _ _
   | exact ih1 _ _ _ _ _ _ _ _ _ _
   | exact spec_RuleOrder.mono _ _ _ _ _ _
   | exact spec_l11Flow.mono _ _ _
   | exact spec_l11Numbers.mono _ _ _ _
   | exact spec_l11Rule.mono _ _ _ _
   | exact LeO.none _
   | refine LeO.ite ?_ ?_
   | refine LeO.bind ?_ (fun _ => ?_)
theorem spec_l11Run.mono : ∀ a0 a1 a2 a3 a4 a5 k, LeO (spec_l11Run.f k a0 a1 a2 a3 a4 a5) (spec_l11Run.f (k + 1) a0 a1 a2 a3 a4 a5) := by
 intro a0 a1 a2 a3 a4 a5 k
 obtain ⟨ih0, ih1⟩ := spec_l11Run.mono_l k
 unfold spec_l11Run.f
 repeat' first
   | (with_reducible exact ih0 _ _ _ _ _ _ _ _ _ _)
   | (with_reducible exact ih1 _ _ _ _ _ _ _ _ _ _)
   | (with_reducible exact spec_RuleOrder.mono _ _ _ _ _ _)
   | (with_reducible exact spec_l11Flow.mono _ _ _)
   | (with_reducible exact spec_l11Numbers.mono _ _ _ _)
   | (with_reducible exact spec_l11Rule.mono _ _ _ _)
   | (with_reducible exact LeO.refl _)
   | (with_reducible exact LeO.none _)
   | (with_reducible refine LeO.ite ?_ ?_)
   | (with_reducible refine LeO.bind ?_ (fun _ => ?_))
   | exact ih0 _ _ _ _ _ _ _ _ _ _
   | exact ih1 _ _ _ _ _ _ _ _ _ _
   | exact spec_RuleOrder.mono _ _ _ _ _ _
   | exact spec_l11Flow.mono _ _ _
   | exact spec_l11Numbers.mono _ _ _ _
   | exact spec_l11Rule.mono _ _ _ _
   | exact LeO.none _
   | refine LeO.ite ?_ ?_
   | refine LeO.bind ?_ (fun _ => ?_)
def spec_l11Run.T11 : Bool × List (List Nat × List Nat) := (true, [([], []), ([], []), ([], []), ([], []), ([2, 3], [2, 3]), ([4], [4]), ([0, 1, 5], [0, 1, 5]), ([6], [6]), ([7], [7]), ([7], [7]), ([], []), ([10, 8, 6, 0, 1, 2, 3, 4, 5, 6, 7, 8, 10], [8, 10]), ([9, 11, 0, 1, 2, 3, 4, 5, 6, 7, 8, 9, 10, 11], [9])])
def spec_l11Run.B11 : List Nat := [0, 0, 0, 0, 12, 28, 63, 127, 255, 255, 0, 1535, 4095]
theorem spec_l11Run.tab11 : rtab .any (opsOf Try.f64 11) = spec_l11Run.T11 := by kernel_rfl
theorem spec_l11Run.bits11 : waitsOk spec_l11Run.T11.2 spec_l11Run.B11 = true := by kernel_rfl
def spec_l11Run.T16 : Bool × List (List Nat × List Nat) := (true, [([], []), ([0], [0]), ([], []), ([], []), ([2, 3], [2, 3]), ([4], [4]), ([], []), ([5, 6], [5, 6]), ([7, 7], [7]), ([1, 8], [1, 8]), ([0, 1, 2, 3, 4, 5, 6, 7, 8, 9], []), ([10, 9, 8, 0, 1, 2, 3, 4, 5, 6, 7, 8, 9], [9, 10])])
def spec_l11Run.B16 : List Nat := [0, 1, 0, 0, 12, 28, 0, 124, 252, 511, 1023, 2047]
theorem spec_l11Run.tab16 : rtab .any (opsOf Try.f64 16) = spec_l11Run.T16 := by kernel_rfl
theorem spec_l11Run.bits16 : waitsOk spec_l11Run.T16.2 spec_l11Run.B16 = true := by kernel_rfl
set_option maxHeartbeats 8000000 in
set_option maxRecDepth 100000 in
theorem spec_l11Run.calls (k : Nat) (a0_0 : Int) (P0_1_ : Nat → Prop) (A0_1 : Option Addr) (c0_1 : Nat) (l0_1 : List Int) (a1_0 : Int) (a1_1 : Int) (a1_2 : Int) (A2 : Option Addr) (c2 : Nat) (l2 : List Int) (r1 : List Int) (r2 : List Int) (r3 : Int) (r4 : Bool) (w : World) (hs0_1 : Kd.V (Kd.int .i64) 3 w w.heap.size (fun k_ => P0_1_ k_) (.slice A0_1 l0_1.length c0_1) l0_1) (hr2 : Kd.C (Kd.int .i64) w A2 l2.length l2) (hc2 : l2.length ≤ c2) (h : spec_l11Run.f k a0_0 l0_1 a1_0 a1_1 a1_2 l2 = some (r1, r2, r3, r4)) :
  Calls Try.prog 64 #[.agg #[.int .i64 a0_0, .slice A0_1 l0_1.length c0_1], .agg #[.int .i64 a1_0, .int .i64 a1_1, .int .i64 a1_2], .slice A2 l2.length c2] w fun e w' => ∃ v0_ v1_ : Value, e = .returned (.tuple #[.agg #[v0_, v1_, .int .i64 r3], .bool r4]) ∧ Kd.R (Kd.int .i64) 3 w' w.heap.size (fun k_ => (w.heap.size ≤ k_) ∧ some k_ ≠ (v1_ : Value).ownBlock) v0_ r1 ∧ Kd.R (Kd.int .i64) 3 w' w.heap.size (fun k_ => (w.heap.size ≤ k_) ∧ some k_ ≠ (v0_ : Value).ownBlock) v1_ r2 ∧ Below w.heap.size w w' := by
 have hu30 := Try.underlying30
 have hu32 := Try.underlying32
 have hu89 := Try.underlying89
 have HO0_1 := zA3 (show Kd.V (Kd.int .i64) 3 w w.heap.size (fun k_ => (P0_1_ k_ ∨ w.heap.size ≤ k_)) (.slice A0_1 l0_1.length c0_1) l0_1 from Kd.V_mono hs0_1 (fun k_ hk => .inl hk))
 have HR2 := zA3 hr2
 have HC2 := zA3 hc2
 clear hr2 hc2
 have HB := zA3 (Below.refl w.heap.size w)
 have H : ((some (([] : List Int) : List Int)).bind fun y149 => ((some (([] : List Int) : List Int)).bind fun y152 => ((spec_l11Flow.f k a0_0 l0_1).bind fun t156 => (if t156 = true then ((spec_l11Rule.f k a1_0 a1_1 a1_2).bind fun t157 => (if t157 = true then ((spec_l11Numbers.f k l2 20 20).bind fun t158 => (spec_l11Run.j0 k l2 (!t158) a0_0 l0_1 a1_0 a1_1 a1_2 y149 y152 0)) else (spec_l11Run.j0 k l2 true a0_0 l0_1 a1_0 a1_1 a1_2 y149 y152 0))) else (spec_l11Run.j0 k l2 true a0_0 l0_1 a1_0 a1_1 a1_2 y149 y152 0))))) = some (r1, r2, r3, r4) := h
 clear h
 obtain ⟨y149, hy149⟩ : ∃ y_ : List Int, y_ = (([] : List Int)) := ⟨_, rfl⟩
 replace H : ((some (([] : List Int) : List Int)).bind fun y152 => ((spec_l11Flow.f k a0_0 l0_1).bind fun t156 => (if t156 = true then ((spec_l11Rule.f k a1_0 a1_1 a1_2).bind fun t157 => (if t157 = true then ((spec_l11Numbers.f k l2 20 20).bind fun t158 => (spec_l11Run.j0 k l2 (!t158) a0_0 l0_1 a1_0 a1_1 a1_2 y149 y152 0)) else (spec_l11Run.j0 k l2 true a0_0 l0_1 a1_0 a1_1 a1_2 y149 y152 0))) else (spec_l11Run.j0 k l2 true a0_0 l0_1 a1_0 a1_1 a1_2 y149 y152 0)))) = some (r1, r2, r3, r4) := by first | (rw [hy149]; with_reducible exact H) | (have H2_ := (Option.bind_some _ _).symm.trans H; rw [hy149]; with_reducible exact H2_) | (have H2_ := (Option.bind_some _ _).symm.trans H; with_reducible exact H2_) | with_reducible exact H | (rw [hy149]; exact H) | exact H
 have Ny149 := zA3 hy149
 clear hy149
 obtain ⟨y152, hy152⟩ : ∃ y_ : List Int, y_ = (([] : List Int)) := ⟨_, rfl⟩
 replace H : ((spec_l11Flow.f k a0_0 l0_1).bind fun t156 => (if t156 = true then ((spec_l11Rule.f k a1_0 a1_1 a1_2).bind fun t157 => (if t157 = true then ((spec_l11Numbers.f k l2 20 20).bind fun t158 => (spec_l11Run.j0 k l2 (!t158) a0_0 l0_1 a1_0 a1_1 a1_2 y149 y152 0)) else (spec_l11Run.j0 k l2 true a0_0 l0_1 a1_0 a1_1 a1_2 y149 y152 0))) else (spec_l11Run.j0 k l2 true a0_0 l0_1 a1_0 a1_1 a1_2 y149 y152 0))) = some (r1, r2, r3, r4) := by first | (rw [hy152]; with_reducible exact H) | (have H2_ := (Option.bind_some _ _).symm.trans H; rw [hy152]; with_reducible exact H2_) | (have H2_ := (Option.bind_some _ _).symm.trans H; with_reducible exact H2_) | with_reducible exact H | (rw [hy152]; exact H) | exact H
 have Ny152 := zA3 hy152
 clear hy152
 have HC4 := zA3 H
 clear H
 go_enter Try.func64, Try.ntmps64
 go_upto_region 2 with (first | ((with_reducible refine gate_dst (N := 3) rfl ?_); refine box_event ?hg (N := 3) ?hd (cs := #[.int .i64 a0_0, .slice A0_1 l0_1.length c0_1]) (t := 30) ?hr ?_; (case hd => rfl); (case hg => rfl); (case hr => first | (go_simp; done) | (go_simp; rfl)); intro gb146 hg w5 hbox hb; have n0_ := zA3 (Kd.V_below (Kd.V_elderB (by (with_reducible repeat (first | apply Kd.V_alloc | apply Kd.V_drewN | apply Kd.V_drew)); exact HO0_1.out) gb146 (Nat.le_of_eq hg.symm)) hb); have n1_ := zA3 (below_step (by repeat (first | (with_reducible first | exact HB.out | apply below_alloc | apply pw_below_drewN | apply below_drew1) | exact HB.out)) hb); have n2_ := zA3 (hbox); have n3_ := zA3 ((by rw [hg]; exact (below_size (by repeat (first | (with_reducible first | exact HB.out | apply below_alloc | apply pw_below_drewN | apply below_drew1) | exact HB.out))) : w.heap.size ≤ gb146)); have n4_ := zA3 ((by rw [hg]; exact (below_size (by repeat (first | (with_reducible first | exact HB.out | apply below_alloc | apply pw_below_drewN | apply below_drew1) | exact HB.out))) : w.heap.size ≤ gb146)); clear HO0_1; clear HB; have HO0_1 := n0_; have HB := n1_; have BK146 := n2_; have GW146 := n3_; have GE146 := n4_; clear n0_ n1_ n2_ n3_ n4_; clear hb hbox hg) | ((with_reducible refine gate_dst (N := 4) rfl ?_); refine box_event ?hg (N := 4) ?hd (cs := #[.int .i64 a1_0, .int .i64 a1_1, .int .i64 a1_2]) (t := 32) ?hr ?_; (case hd => rfl); (case hg => rfl); (case hr => first | (go_simp; done) | (go_simp; rfl)); intro gb147 hg w6 hbox hb; have n0_ := zA3 (Kd.V_below (Kd.V_elderB (by (with_reducible repeat (first | apply Kd.V_alloc | apply Kd.V_drewN | apply Kd.V_drew)); exact HO0_1.out) gb147 (Nat.le_of_eq hg.symm)) hb); have n1_ := zA3 (blk_below (g := gb146) (o := .cells #[.int .i64 a0_0, .slice A0_1 l0_1.length c0_1] 30 (0, 0)) (by (with_reducible repeat (first | refine bN3 ?_ _ | refine bD3 ?_ | refine bA3 ?_ _)); exact BK146.out) hb); have n2_ := zA3 (below_step (by repeat (first | (with_reducible first | exact HB.out | apply below_alloc | apply pw_below_drewN | apply below_drew1 | refine below_set ?_ GE146.out) | exact HB.out)) hb); have n3_ := zA3 (hbox); have n4_ := zA3 ((by rw [hg]; exact (below_size (by repeat (first | (with_reducible first | exact HB.out | apply below_alloc | apply pw_below_drewN | apply below_drew1 | refine below_set ?_ GE146.out) | exact HB.out))) : w.heap.size ≤ gb147)); have n5_ := zA3 ((by rw [hg]; exact (below_size (by repeat (first | (with_reducible first | exact HB.out | apply below_alloc | apply pw_below_drewN | apply below_drew1 | refine below_set ?_ GE146.out) | exact HB.out))) : w.heap.size ≤ gb147)); have n6_ := zA3 ((by rw [hg]; exact Nat.ne_of_lt (blk_lt (g := gb146) (o := .cells #[.int .i64 a0_0, .slice A0_1 l0_1.length c0_1] 30 (0, 0)) (by (with_reducible repeat (first | refine bN3 ?_ _ | refine bD3 ?_ | refine bA3 ?_ _)); exact BK146.out)) : gb146 ≠ gb147)); have n7_ := zA3 ((by rw [hg]; exact Nat.ne_of_gt (blk_lt (g := gb146) (o := .cells #[.int .i64 a0_0, .slice A0_1 l0_1.length c0_1] 30 (0, 0)) (by (with_reducible repeat (first | refine bN3 ?_ _ | refine bD3 ?_ | refine bA3 ?_ _)); exact BK146.out)) : gb147 ≠ gb146)); clear HO0_1; clear BK146; clear HB; have HO0_1 := n0_; have BK146 := n1_; have HB := n2_; have BK147 := n3_; have GW147 := n4_; have GE147 := n5_; have NB146_147 := n6_; have NB147_146 := n7_; clear n0_ n1_ n2_ n3_ n4_ n5_ n6_ n7_; clear hb hbox hg) | ((with_reducible refine gate_dst (N := 6) rfl ?_); refine box_event ?hg (N := 6) ?hd (cs := #[.slice none 0 0, .slice none 0 0, .int .i64 0]) (t := 89) ?hr ?_; (case hd => rfl); (case hg => rfl); (case hr => first | (go_simp; done) | (go_simp; rfl)); intro gb148 hg w7 hbox hb; have n0_ := zA3 (Kd.V_below (Kd.V_elderB (by (with_reducible repeat (first | apply Kd.V_alloc | apply Kd.V_drewN | apply Kd.V_drew)); exact HO0_1.out) gb148 (Nat.le_of_eq hg.symm)) hb); have n1_ := zA3 (blk_below (g := gb146) (o := .cells #[.int .i64 a0_0, .slice A0_1 l0_1.length c0_1] 30 (0, 0)) (by (with_reducible repeat (first | refine bN3 ?_ _ | refine bD3 ?_ | refine bA3 ?_ _)); exact BK146.out) hb); have n2_ := zA3 (blk_below (g := gb147) (o := .cells #[.int .i64 a1_0, .int .i64 a1_1, .int .i64 a1_2] 32 (0, 0)) (by (with_reducible repeat (first | refine bN3 ?_ _ | refine bD3 ?_ | refine bA3 ?_ _)); exact BK147.out) hb); have n3_ := zA3 (below_step (by repeat (first | (with_reducible first | exact HB.out | apply below_alloc | apply pw_below_drewN | apply below_drew1 | refine below_set ?_ GE146.out | refine below_set ?_ GE147.out) | exact HB.out)) hb); have n4_ := zA3 (hbox); have n5_ := zA3 ((by rw [hg]; exact (below_size (by repeat (first | (with_reducible first | exact HB.out | apply below_alloc | apply pw_below_drewN | apply below_drew1 | refine below_set ?_ GE146.out | refine below_set ?_ GE147.out) | exact HB.out))) : w.heap.size ≤ gb148)); have n6_ := zA3 ((by rw [hg]; exact (below_size (by repeat (first | (with_reducible first | exact HB.out | apply below_alloc | apply pw_below_drewN | apply below_drew1 | refine below_set ?_ GE146.out | refine below_set ?_ GE147.out) | exact HB.out))) : w.heap.size ≤ gb148)); have n7_ := zA3 ((by rw [hg]; exact Nat.ne_of_lt (blk_lt (g := gb146) (o := .cells #[.int .i64 a0_0, .slice A0_1 l0_1.length c0_1] 30 (0, 0)) (by (with_reducible repeat (first | refine bN3 ?_ _ | refine bD3 ?_ | refine bA3 ?_ _)); exact BK146.out)) : gb146 ≠ gb148)); have n8_ := zA3 ((by rw [hg]; exact Nat.ne_of_gt (blk_lt (g := gb146) (o := .cells #[.int .i64 a0_0, .slice A0_1 l0_1.length c0_1] 30 (0, 0)) (by (with_reducible repeat (first | refine bN3 ?_ _ | refine bD3 ?_ | refine bA3 ?_ _)); exact BK146.out)) : gb148 ≠ gb146)); have n9_ := zA3 ((by rw [hg]; exact Nat.ne_of_lt (blk_lt (g := gb147) (o := .cells #[.int .i64 a1_0, .int .i64 a1_1, .int .i64 a1_2] 32 (0, 0)) (by (with_reducible repeat (first | refine bN3 ?_ _ | refine bD3 ?_ | refine bA3 ?_ _)); exact BK147.out)) : gb147 ≠ gb148)); have n10_ := zA3 ((by rw [hg]; exact Nat.ne_of_gt (blk_lt (g := gb147) (o := .cells #[.int .i64 a1_0, .int .i64 a1_1, .int .i64 a1_2] 32 (0, 0)) (by (with_reducible repeat (first | refine bN3 ?_ _ | refine bD3 ?_ | refine bA3 ?_ _)); exact BK147.out)) : gb148 ≠ gb147)); clear HO0_1; clear BK146; clear BK147; clear HB; have HO0_1 := n0_; have BK146 := n1_; have BK147 := n2_; have HB := n3_; have BK148 := n4_; have GW148 := n5_; have GE148 := n6_; have NB146_148 := n7_; have NB148_146 := n8_; have NB147_148 := n9_; have NB148_147 := n10_; clear n0_ n1_ n2_ n3_ n4_ n5_ n6_ n7_ n8_ n9_ n10_; clear hb hbox hg) | ((with_reducible refine gate_dst (N := 15) rfl ?_); refine Kd.R_lit (Kd.int .i64) _ 3 ?hg (N := 15) ?hd (xs := ([] : List Int)) (inner := []) (ok := fun _ => True) (okp := fun _ => True) ?hr ?hp (fun _ hk => hk) trivial (Below.refl _ _) (Nat.le_refl _) (by simp) ?_; (case hd => rfl); (case hg => rfl); (case hr => first | (go_simp; done) | (go_simp; rfl)); (case hp => exact (Reps.none _ _)); intro v150 w8 ho9 hb hg_ hnew_; clear hg_ hnew_; (first | rw [← Ny149.out] at ho9 | (simp only [Int.reduceToNat] at ho9; rw [← Ny149.out] at ho9)); have n0_ := zA3 (Kd.V_elder' (by (with_reducible repeat (first | apply Kd.V_alloc | apply Kd.V_drewN | apply Kd.V_drew)); exact HO0_1.out) (Kd.R_base ho9) hb); have n1_ := zA3 (Kd.R_lower (Kd.R_newM (M := fun k_ => (w.heap.size ≤ k_)) ho9 (below_size (by repeat (first | (with_reducible first | exact HB.out | apply below_alloc | apply pw_below_drewN | apply below_drew1 | refine below_set ?_ GE146.out | refine below_set ?_ GE147.out | refine below_set ?_ GE148.out) | exact HB.out))) (fun k_ h_ => h_)) (below_size (by repeat (first | (with_reducible first | exact HB.out | apply below_alloc | apply pw_below_drewN | apply below_drew1 | refine below_set ?_ GE146.out | refine below_set ?_ GE147.out | refine below_set ?_ GE148.out) | exact HB.out)))); have n2_ := zA3 (blk_below (g := gb146) (o := .cells #[.int .i64 a0_0, .slice A0_1 l0_1.length c0_1] 30 (0, 0)) (by (with_reducible repeat (first | refine bN3 ?_ _ | refine bD3 ?_ | refine bA3 ?_ _)); exact BK146.out) hb); have n3_ := zA3 (blk_below (g := gb147) (o := .cells #[.int .i64 a1_0, .int .i64 a1_1, .int .i64 a1_2] 32 (0, 0)) (by (with_reducible repeat (first | refine bN3 ?_ _ | refine bD3 ?_ | refine bA3 ?_ _)); exact BK147.out) hb); have n4_ := zA3 (blk_below (g := gb148) (o := .cells #[.slice none 0 0, .slice none 0 0, .int .i64 0] 89 (0, 0)) (by (with_reducible repeat (first | refine bN3 ?_ _ | refine bD3 ?_ | refine bA3 ?_ _)); exact BK148.out) hb); have n5_ := zA3 (below_step (by repeat (first | (with_reducible first | exact HB.out | apply below_alloc | apply pw_below_drewN | apply below_drew1 | refine below_set ?_ GE146.out | refine below_set ?_ GE147.out | refine below_set ?_ GE148.out) | exact HB.out)) hb); clear HO0_1; clear BK146; clear BK147; clear BK148; clear HB; have HO0_1 := n0_; have HO151 := n1_; have BK146 := n2_; have BK147 := n3_; have BK148 := n4_; have HB := n5_; clear n0_ n1_ n2_ n3_ n4_ n5_; clear hb ho9) | ((with_reducible refine gate_dst (N := 16) rfl ?_); refine Kd.R_lit (Kd.int .i64) _ 3 ?hg (N := 16) ?hd (xs := ([] : List Int)) (inner := []) (ok := fun _ => True) (okp := fun _ => True) ?hr ?hp (fun _ hk => hk) trivial (Below.refl _ _) (Nat.le_refl _) (by simp) ?_; (case hd => rfl); (case hg => rfl); (case hr => first | (go_simp; done) | (go_simp; rfl)); (case hp => exact (Reps.none _ _)); intro v153 w10 ho11 hb hg_ hnew_; clear hg_ hnew_; (first | rw [← Ny152.out] at ho11 | (simp only [Int.reduceToNat] at ho11; rw [← Ny152.out] at ho11)); have n0_ := zA3 (Kd.V_elder' (by (with_reducible repeat (first | apply Kd.V_alloc | apply Kd.V_drewN | apply Kd.V_drew)); exact HO0_1.out) (Kd.R_base ho11) hb); have n1_ := zA3 (Kd.R_elder' (by (with_reducible repeat (first | apply Kd.R_alloc | apply Kd.R_drewN | apply Kd.R_drew)); exact HO151.out) (Kd.R_base ho11) hb); have n2_ := zA3 (Kd.R_lower (Kd.R_new' (Kd.R_newM (M := fun k_ => (w.heap.size ≤ k_)) ho11 (below_size (by repeat (first | (with_reducible first | exact HB.out | apply below_alloc | apply pw_below_drewN | apply below_drew1 | refine below_set ?_ GE146.out | refine below_set ?_ GE147.out | refine below_set ?_ GE148.out) | exact HB.out))) (fun k_ h_ => h_)) (Kd.R_lt (by (with_reducible repeat (first | apply Kd.R_alloc | apply Kd.R_drewN | apply Kd.R_drew)); exact HO151.out))) (below_size (by repeat (first | (with_reducible first | exact HB.out | apply below_alloc | apply pw_below_drewN | apply below_drew1 | refine below_set ?_ GE146.out | refine below_set ?_ GE147.out | refine below_set ?_ GE148.out) | exact HB.out)))); have n3_ := zA3 (blk_below (g := gb146) (o := .cells #[.int .i64 a0_0, .slice A0_1 l0_1.length c0_1] 30 (0, 0)) (by (with_reducible repeat (first | refine bN3 ?_ _ | refine bD3 ?_ | refine bA3 ?_ _)); exact BK146.out) hb); have n4_ := zA3 (blk_below (g := gb147) (o := .cells #[.int .i64 a1_0, .int .i64 a1_1, .int .i64 a1_2] 32 (0, 0)) (by (with_reducible repeat (first | refine bN3 ?_ _ | refine bD3 ?_ | refine bA3 ?_ _)); exact BK147.out) hb); have n5_ := zA3 (blk_below (g := gb148) (o := .cells #[.slice none 0 0, .slice none 0 0, .int .i64 0] 89 (0, 0)) (by (with_reducible repeat (first | refine bN3 ?_ _ | refine bD3 ?_ | refine bA3 ?_ _)); exact BK148.out) hb); have n6_ := zA3 (below_step (by repeat (first | (with_reducible first | exact HB.out | apply below_alloc | apply pw_below_drewN | apply below_drew1 | refine below_set ?_ GE146.out | refine below_set ?_ GE147.out | refine below_set ?_ GE148.out) | exact HB.out)) hb); clear HO0_1; clear HO151; clear BK146; clear BK147; clear BK148; clear HB; have HO0_1 := n0_; have HO151 := n1_; have HO154 := n2_; have BK146 := n3_; have BK147 := n4_; have BK148 := n5_; have HB := n6_; clear n0_ n1_ n2_ n3_ n4_ n5_ n6_; clear hb ho11; obtain ⟨Ao12, co12, eo12⟩ := Kd.R_slice HO154.out; subst eo12; obtain ⟨Ao13, co13, eo13⟩ := Kd.R_slice HO151.out; subst eo13) | ((with_reducible refine gate_dst (N := 8) rfl ?_); refine box_event ?hg (N := 8) ?hd (cs := #[.slice none 0 0, .slice none 0 0, .int .i64 0]) (t := 89) ?hr ?_; (case hd => rfl); (case hg => rfl); (case hr => first | (go_simp; done) | (go_simp; rfl)); intro gb155 hg w14 hbox hb; have n0_ := zA3 (Kd.V_below (Kd.V_elderB (by (with_reducible repeat (first | apply Kd.V_alloc | apply Kd.V_drewN | apply Kd.V_drew)); exact HO0_1.out) gb155 (Nat.le_of_eq hg.symm)) hb); have n1_ := zA3 (Kd.R_below (by (with_reducible repeat (first | apply Kd.R_alloc | apply Kd.R_drewN | apply Kd.R_drew)); exact HO151.out) hb); have n2_ := zA3 (Kd.R_below (by (with_reducible repeat (first | apply Kd.R_alloc | apply Kd.R_drewN | apply Kd.R_drew)); exact HO154.out) hb); have n3_ := zA3 (blk_below (g := gb146) (o := .cells #[.int .i64 a0_0, .slice A0_1 l0_1.length c0_1] 30 (0, 0)) (by (with_reducible repeat (first | refine bN3 ?_ _ | refine bD3 ?_ | refine bA3 ?_ _)); exact BK146.out) hb); have n4_ := zA3 (blk_below (g := gb147) (o := .cells #[.int .i64 a1_0, .int .i64 a1_1, .int .i64 a1_2] 32 (0, 0)) (by (with_reducible repeat (first | refine bN3 ?_ _ | refine bD3 ?_ | refine bA3 ?_ _)); exact BK147.out) hb); have n5_ := zA3 (blk_below (g := gb148) (o := .cells #[.slice none 0 0, .slice none 0 0, .int .i64 0] 89 (0, 0)) (by (with_reducible repeat (first | refine bN3 ?_ _ | refine bD3 ?_ | refine bA3 ?_ _)); exact BK148.out) hb); have n6_ := zA3 (below_step (by repeat (first | (with_reducible first | exact HB.out | apply below_alloc | apply pw_below_drewN | apply below_drew1 | refine below_set ?_ GE146.out | refine below_set ?_ GE147.out | refine below_set ?_ GE148.out) | exact HB.out)) hb); have n7_ := zA3 (hbox); have n8_ := zA3 ((by rw [hg]; exact (below_size (by repeat (first | (with_reducible first | exact HB.out | apply below_alloc | apply pw_below_drewN | apply below_drew1 | refine below_set ?_ GE146.out | refine below_set ?_ GE147.out | refine below_set ?_ GE148.out) | exact HB.out))) : w.heap.size ≤ gb155)); have n9_ := zA3 ((by rw [hg]; exact (below_size (by repeat (first | (with_reducible first | exact HB.out | apply below_alloc | apply pw_below_drewN | apply below_drew1 | refine below_set ?_ GE146.out | refine below_set ?_ GE147.out | refine below_set ?_ GE148.out) | exact HB.out))) : w.heap.size ≤ gb155)); have n10_ := zA3 ((by rw [hg]; exact Nat.ne_of_lt (blk_lt (g := gb146) (o := .cells #[.int .i64 a0_0, .slice A0_1 l0_1.length c0_1] 30 (0, 0)) (by (with_reducible repeat (first | refine bN3 ?_ _ | refine bD3 ?_ | refine bA3 ?_ _)); exact BK146.out)) : gb146 ≠ gb155)); have n11_ := zA3 ((by rw [hg]; exact Nat.ne_of_gt (blk_lt (g := gb146) (o := .cells #[.int .i64 a0_0, .slice A0_1 l0_1.length c0_1] 30 (0, 0)) (by (with_reducible repeat (first | refine bN3 ?_ _ | refine bD3 ?_ | refine bA3 ?_ _)); exact BK146.out)) : gb155 ≠ gb146)); have n12_ := zA3 ((by rw [hg]; exact Nat.ne_of_lt (blk_lt (g := gb147) (o := .cells #[.int .i64 a1_0, .int .i64 a1_1, .int .i64 a1_2] 32 (0, 0)) (by (with_reducible repeat (first | refine bN3 ?_ _ | refine bD3 ?_ | refine bA3 ?_ _)); exact BK147.out)) : gb147 ≠ gb155)); have n13_ := zA3 ((by rw [hg]; exact Nat.ne_of_gt (blk_lt (g := gb147) (o := .cells #[.int .i64 a1_0, .int .i64 a1_1, .int .i64 a1_2] 32 (0, 0)) (by (with_reducible repeat (first | refine bN3 ?_ _ | refine bD3 ?_ | refine bA3 ?_ _)); exact BK147.out)) : gb155 ≠ gb147)); have n14_ := zA3 ((by rw [hg]; exact Nat.ne_of_lt (blk_lt (g := gb148) (o := .cells #[.slice none 0 0, .slice none 0 0, .int .i64 0] 89 (0, 0)) (by (with_reducible repeat (first | refine bN3 ?_ _ | refine bD3 ?_ | refine bA3 ?_ _)); exact BK148.out)) : gb148 ≠ gb155)); have n15_ := zA3 ((by rw [hg]; exact Nat.ne_of_gt (blk_lt (g := gb148) (o := .cells #[.slice none 0 0, .slice none 0 0, .int .i64 0] 89 (0, 0)) (by (with_reducible repeat (first | refine bN3 ?_ _ | refine bD3 ?_ | refine bA3 ?_ _)); exact BK148.out)) : gb155 ≠ gb148)); clear HO0_1; clear HO151; clear HO154; clear BK146; clear BK147; clear BK148; clear HB; have HO0_1 := n0_; have HO151 := n1_; have HO154 := n2_; have BK146 := n3_; have BK147 := n4_; have BK148 := n5_; have HB := n6_; have BK155 := n7_; have GW155 := n8_; have GE155 := n9_; have NB146_155 := n10_; have NB155_146 := n11_; have NB147_155 := n12_; have NB155_147 := n13_; have NB148_155 := n14_; have NB155_148 := n15_; clear n0_ n1_ n2_ n3_ n4_ n5_ n6_ n7_ n8_ n9_ n10_ n11_ n12_ n13_ n14_ n15_; clear hb hbox hg; have hnb15 := NB155_146.out; have hnc15 := NB146_155.out; have hnb16 := NB155_147.out; have hnc16 := NB147_155.out; have hnb17 := NB155_148.out; have hnc17 := NB148_155.out; have hcz18_0 : w14.cell? ⟨gb155, 0, none⟩ = some (.slice none 0 0) := (blk_cell BK155.out 0).trans rfl; have hcz18_1 : w14.cell? ⟨gb155, 1, none⟩ = some (.slice none 0 0) := (blk_cell BK155.out 1).trans rfl; have hcz18_2 : w14.cell? ⟨gb155, 2, none⟩ = some (.int .i64 0) := (blk_cell BK155.out 2).trans rfl; have hfz18_0 := blk_frozen BK155.out 0; have hfz18_1 := blk_frozen BK155.out 1; have hfz18_2 := blk_frozen BK155.out 2))
 (try simp only [Act.put, List.setIfInBounds_toArray, List.set_cons_zero, List.set_cons_succ])
 go_cut [30] (fun v30 wc => ∃ (kq : Nat) (x30_3 : Bool), v30 = .bool x30_3 ∧ Aside0 (spec_l11Run.j0 kq l2 x30_3 a0_0 l0_1 a1_0 a1_1 a1_2 y149 y152 0 = some (r1, r2, r3, r4)) ∧ Aside0 (kq ≤ k) ∧ Aside0 (Kd.V (Kd.int .i64) 3 wc w.heap.size (fun k_ => (P0_1_ k_ ∨ w.heap.size ≤ k_) ∧ some k_ ≠ ((.slice Ao13 y149.length co13) : Value).ownBlock ∧ some k_ ≠ ((.slice Ao12 y152.length co12) : Value).ownBlock ∧ k_ ≠ gb146 ∧ k_ ≠ gb147 ∧ k_ ≠ gb148 ∧ k_ ≠ gb155) (.slice A0_1 l0_1.length c0_1) l0_1) ∧ Aside0 (Kd.R (Kd.int .i64) 3 wc w.heap.size (fun k_ => (w.heap.size ≤ k_) ∧ some k_ ≠ ((.slice Ao12 y152.length co12) : Value).ownBlock) (.slice Ao13 y149.length co13) y149) ∧ Aside0 (Kd.R (Kd.int .i64) 3 wc w.heap.size (fun k_ => (w.heap.size ≤ k_) ∧ some k_ ≠ ((.slice Ao13 y149.length co13) : Value).ownBlock) (.slice Ao12 y152.length co12) y152) ∧ Aside0 (wc.heap[gb146]? = some (.cells #[.int .i64 a0_0, (.slice A0_1 l0_1.length c0_1)] 30 (0, 0))) ∧ Aside0 (wc.heap[gb147]? = some (.cells #[.int .i64 a1_0, .int .i64 a1_1, .int .i64 a1_2] 32 (0, 0))) ∧ Aside0 (wc.heap[gb148]? = some (.cells #[(.slice none 0 0), (.slice none 0 0), .int .i64 0] 89 (0, 0))) ∧ Aside0 (wc.heap[gb155]? = some (.cells #[(.slice Ao13 y149.length co13), (.slice Ao12 y152.length co12), .int .i64 0] 89 (0, 0))) ∧ Aside0 (Below w.heap.size w wc))
 case first =>
  have H := HC4.out
  clear HC4
  replace H := Option.bind_eq_some_iff.mp H
  obtain ⟨t156, A190, H⟩ := H
  replace H : (if t156 = true then ((spec_l11Rule.f k a1_0 a1_1 a1_2).bind fun t157 => (if t157 = true then ((spec_l11Numbers.f k l2 20 20).bind fun t158 => (spec_l11Run.j0 k l2 (!t158) a0_0 l0_1 a1_0 a1_1 a1_2 y149 y152 0)) else (spec_l11Run.j0 k l2 true a0_0 l0_1 a1_0 a1_1 a1_2 y149 y152 0))) else (spec_l11Run.j0 k l2 true a0_0 l0_1 a1_0 a1_1 a1_2 y149 y152 0)) = some (r1, r2, r3, r4) := H
  have A19 := zA3 A190
  clear A190
  by_cases c20 : t156 = true
  ·subst c20
   have H1 : ((spec_l11Rule.f k a1_0 a1_1 a1_2).bind fun t157 => (if t157 = true then ((spec_l11Numbers.f k l2 20 20).bind fun t158 => (spec_l11Run.j0 k l2 (!t158) a0_0 l0_1 a1_0 a1_1 a1_2 y149 y152 0)) else (spec_l11Run.j0 k l2 true a0_0 l0_1 a1_0 a1_1 a1_2 y149 y152 0))) = some (r1, r2, r3, r4) := by rw [if_pos rfl] at H; exact H
   clear H
   have H := H1
   clear H1
   replace H := Option.bind_eq_some_iff.mp H
   obtain ⟨t157, A210, H⟩ := H
   replace H : (if t157 = true then ((spec_l11Numbers.f k l2 20 20).bind fun t158 => (spec_l11Run.j0 k l2 (!t158) a0_0 l0_1 a1_0 a1_1 a1_2 y149 y152 0)) else (spec_l11Run.j0 k l2 true a0_0 l0_1 a1_0 a1_1 a1_2 y149 y152 0)) = some (r1, r2, r3, r4) := H
   have A21 := zA3 A210
   clear A210
   by_cases c22 : t157 = true
   ·subst c22
    have H1 : ((spec_l11Numbers.f k l2 20 20).bind fun t158 => (spec_l11Run.j0 k l2 (!t158) a0_0 l0_1 a1_0 a1_1 a1_2 y149 y152 0)) = some (r1, r2, r3, r4) := by rw [if_pos rfl] at H; exact H
    clear H
    have H := H1
    clear H1
    replace H := Option.bind_eq_some_iff.mp H
    obtain ⟨t158, A230, H⟩ := H
    replace H : (spec_l11Run.j0 k l2 (!t158) a0_0 l0_1 a1_0 a1_1 a1_2 y149 y152 0) = some (r1, r2, r3, r4) := H
    have A23 := zA3 A230
    clear A230
    have H' := zA3 H
    clear H
    have hnb24 := NB146_147.out
    have hnc24 := NB147_146.out
    have hnb25 := NB146_148.out
    have hnc25 := NB148_146.out
    have hnb26 := NB146_155.out
    have hnc26 := NB155_146.out
    have hcz27_0 : w14.cell? ⟨gb146, 0, none⟩ = some (.int .i64 a0_0) := (blk_cell BK146.out 0).trans rfl
    have hcz27_1 : w14.cell? ⟨gb146, 1, none⟩ = some (.slice A0_1 l0_1.length c0_1) := (blk_cell BK146.out 1).trans rfl
    have hfz27_0 := blk_frozen BK146.out 0
    have hfz27_1 := blk_frozen BK146.out 1
    go_wp2_with (first | ((with_reducible refine gate_callee (f := 77) rfl ?_); refine goesL_ (some 19) rfl rfl Try.func77 (by kernel_rfl) rfl #[.agg #[.int .i64 a0_0, .slice A0_1 l0_1.length c0_1]] rfl (by (try simp only [List.map_toArray, List.map_cons, List.map_nil]); first | done | rfl | (simp only [List.length_drop, List.length_take]; rfl)) ?_; (with_reducible refine (spec_l11Flow.calls k a0_0 _ _ l0_1 true _ ?side1 ?side2 A19.out).mono ?_); (case side1 => refine (Kd.V_reads' (e := 3) (base := w.heap.size) (ok := fun k_ => (((((((P0_1_ k_ ∨ w.heap.size ≤ k_) ∧ k_ ≠ gb146) ∧ k_ ≠ gb147) ∧ k_ ≠ gb148) ∧ some k_ ≠ (.slice Ao13 y149.length co13 : Value).ownBlock) ∧ some k_ ≠ (.slice Ao12 y152.length co12 : Value).ownBlock) ∧ k_ ≠ gb155)) (n := l0_1.length) (c := c0_1) ?_).2.2; exact (by (with_reducible repeat (first | apply Kd.V_alloc | apply Kd.V_drewN | apply Kd.V_drew)); exact (Kd.V_mono (Kd.V_far (p := ⟨gb155, 2, none⟩) (Kd.V_far (p := ⟨gb155, 1, none⟩) (Kd.V_far (p := ⟨gb155, 0, none⟩) (Kd.V_mono HO0_1.out (fun k_ hk => (⟨hk, hk.2⟩ : _ ∧ k_ ≠ gb155))) (fun _ hk => hk.2) (.slice Ao13 y149.length co13)) (fun _ hk => hk.2) (.slice Ao12 y152.length co12)) (fun _ hk => hk.2) (.int .i64 0)) (fun _ h_ => h_.1)))); (case side2 => exact (Kd.V_reads' HO0_1.out).2.1); rintro e w28 ⟨rfl, hb⟩; refine ⟨_, rfl, ?_⟩; have n0_ := zA3 (Kd.V_below (by (with_reducible repeat (first | apply Kd.V_alloc | apply Kd.V_drewN | apply Kd.V_drew)); exact (Kd.V_mono (Kd.V_far (p := ⟨gb155, 2, none⟩) (Kd.V_far (p := ⟨gb155, 1, none⟩) (Kd.V_far (p := ⟨gb155, 0, none⟩) (Kd.V_mono HO0_1.out (fun k_ hk => (⟨hk, hk.2⟩ : _ ∧ k_ ≠ gb155))) (fun _ hk => hk.2) (.slice Ao13 y149.length co13)) (fun _ hk => hk.2) (.slice Ao12 y152.length co12)) (fun _ hk => hk.2) (.int .i64 0)) (fun _ h_ => h_.1))) hb); have n1_ := zA3 (Kd.R_below (by (with_reducible repeat (first | apply Kd.R_alloc | apply Kd.R_drewN | apply Kd.R_drew)); exact (Kd.R_mono (Kd.R_far (p := ⟨gb155, 2, none⟩) (Kd.R_far (p := ⟨gb155, 1, none⟩) (Kd.R_far (p := ⟨gb155, 0, none⟩) (Kd.R_types HO151.out BK155.out (by decide)) (fun _ hk => hk.2) (.slice Ao13 y149.length co13)) (fun _ hk => hk.2) (.slice Ao12 y152.length co12)) (fun _ hk => hk.2) (.int .i64 0)) (fun _ h_ => h_.1))) hb); have n2_ := zA3 (Kd.R_below (by (with_reducible repeat (first | apply Kd.R_alloc | apply Kd.R_drewN | apply Kd.R_drew)); exact (Kd.R_mono (Kd.R_far (p := ⟨gb155, 2, none⟩) (Kd.R_far (p := ⟨gb155, 1, none⟩) (Kd.R_far (p := ⟨gb155, 0, none⟩) (Kd.R_types HO154.out BK155.out (by decide)) (fun _ hk => hk.2) (.slice Ao13 y149.length co13)) (fun _ hk => hk.2) (.slice Ao12 y152.length co12)) (fun _ hk => hk.2) (.int .i64 0)) (fun _ h_ => h_.1))) hb); have n3_ := zA3 (blk_below (g := gb146) (o := .cells #[.int .i64 a0_0, .slice A0_1 l0_1.length c0_1] 30 (0, 0)) (by (with_reducible repeat (first | refine bN3 ?_ _ | refine bD3 ?_ | refine bA3 ?_ _)); refine blk_far ?_ NB146_155.out _; (with_reducible repeat (first | refine bN3 ?_ _ | refine bD3 ?_ | refine bA3 ?_ _)); refine blk_far ?_ NB146_155.out _; (with_reducible repeat (first | refine bN3 ?_ _ | refine bD3 ?_ | refine bA3 ?_ _)); refine blk_far ?_ NB146_155.out _; (with_reducible repeat (first | refine bN3 ?_ _ | refine bD3 ?_ | refine bA3 ?_ _)); exact BK146.out) hb); have n4_ := zA3 (blk_below (g := gb147) (o := .cells #[.int .i64 a1_0, .int .i64 a1_1, .int .i64 a1_2] 32 (0, 0)) (by (with_reducible repeat (first | refine bN3 ?_ _ | refine bD3 ?_ | refine bA3 ?_ _)); refine blk_far ?_ NB147_155.out _; (with_reducible repeat (first | refine bN3 ?_ _ | refine bD3 ?_ | refine bA3 ?_ _)); refine blk_far ?_ NB147_155.out _; (with_reducible repeat (first | refine bN3 ?_ _ | refine bD3 ?_ | refine bA3 ?_ _)); refine blk_far ?_ NB147_155.out _; (with_reducible repeat (first | refine bN3 ?_ _ | refine bD3 ?_ | refine bA3 ?_ _)); exact BK147.out) hb); have n5_ := zA3 (blk_below (g := gb148) (o := .cells #[.slice none 0 0, .slice none 0 0, .int .i64 0] 89 (0, 0)) (by (with_reducible repeat (first | refine bN3 ?_ _ | refine bD3 ?_ | refine bA3 ?_ _)); refine blk_far ?_ NB148_155.out _; (with_reducible repeat (first | refine bN3 ?_ _ | refine bD3 ?_ | refine bA3 ?_ _)); refine blk_far ?_ NB148_155.out _; (with_reducible repeat (first | refine bN3 ?_ _ | refine bD3 ?_ | refine bA3 ?_ _)); refine blk_far ?_ NB148_155.out _; (with_reducible repeat (first | refine bN3 ?_ _ | refine bD3 ?_ | refine bA3 ?_ _)); exact BK148.out) hb); have n6_ := zA3 (blk_below (g := gb155) (o := .cells #[.slice Ao13 y149.length co13, .slice Ao12 y152.length co12, .int .i64 0] 89 (0, 0)) (by (with_reducible repeat (first | refine bN3 ?_ _ | refine bD3 ?_ | refine bA3 ?_ _)); refine blk_put (cs := #[.slice Ao13 y149.length co13, .slice Ao12 y152.length co12, .int .i64 0]) ?_ 2 _ rfl; (with_reducible repeat (first | refine bN3 ?_ _ | refine bD3 ?_ | refine bA3 ?_ _)); refine blk_put (cs := #[.slice Ao13 y149.length co13, .slice none 0 0, .int .i64 0]) ?_ 1 _ rfl; (with_reducible repeat (first | refine bN3 ?_ _ | refine bD3 ?_ | refine bA3 ?_ _)); refine blk_put (cs := #[.slice none 0 0, .slice none 0 0, .int .i64 0]) ?_ 0 _ rfl; (with_reducible repeat (first | refine bN3 ?_ _ | refine bD3 ?_ | refine bA3 ?_ _)); exact BK155.out) hb); have n7_ := zA3 (below_step (by repeat (first | (with_reducible first | exact HB.out | apply below_alloc | apply pw_below_drewN | apply below_drew1 | refine below_set ?_ GE146.out | refine below_set ?_ GE147.out | refine below_set ?_ GE148.out | refine below_set ?_ GE155.out) | exact HB.out)) hb); clear HO0_1; clear HO151; clear HO154; clear BK146; clear BK147; clear BK148; clear BK155; clear HB; have HO0_1 := n0_; have HO151 := n1_; have HO154 := n2_; have BK146 := n3_; have BK147 := n4_; have BK148 := n5_; have BK155 := n6_; have HB := n7_; clear n0_ n1_ n2_ n3_ n4_ n5_ n6_ n7_; (try clear hb); (try clear hb2); (try clear hk); (try clear hi); have hnb29 := NB147_148.out; have hnc29 := NB148_147.out; have hnb30 := NB147_155.out; have hnc30 := NB155_147.out; have hcz31_0 : w28.cell? ⟨gb147, 0, none⟩ = some (.int .i64 a1_0) := (blk_cell BK147.out 0).trans rfl; have hcz31_1 : w28.cell? ⟨gb147, 1, none⟩ = some (.int .i64 a1_1) := (blk_cell BK147.out 1).trans rfl; have hcz31_2 : w28.cell? ⟨gb147, 2, none⟩ = some (.int .i64 a1_2) := (blk_cell BK147.out 2).trans rfl; have hfz31_0 := blk_frozen BK147.out 0; have hfz31_1 := blk_frozen BK147.out 1; have hfz31_2 := blk_frozen BK147.out 2) | (go_at_call 96; (with_reducible refine (spec_l11Rule.calls k a1_0 a1_1 a1_2 true _ A21.out).mono ?_); rintro e w32 ⟨rfl, hb⟩; have n0_ := zA3 (Kd.V_below (by (with_reducible repeat (first | apply Kd.V_alloc | apply Kd.V_drewN | apply Kd.V_drew)); exact HO0_1.out) hb); have n1_ := zA3 (Kd.R_below (by (with_reducible repeat (first | apply Kd.R_alloc | apply Kd.R_drewN | apply Kd.R_drew)); exact HO151.out) hb); have n2_ := zA3 (Kd.R_below (by (with_reducible repeat (first | apply Kd.R_alloc | apply Kd.R_drewN | apply Kd.R_drew)); exact HO154.out) hb); have n3_ := zA3 (blk_below (g := gb146) (o := .cells #[.int .i64 a0_0, .slice A0_1 l0_1.length c0_1] 30 (0, 0)) (by (with_reducible repeat (first | refine bN3 ?_ _ | refine bD3 ?_ | refine bA3 ?_ _)); exact BK146.out) hb); have n4_ := zA3 (blk_below (g := gb147) (o := .cells #[.int .i64 a1_0, .int .i64 a1_1, .int .i64 a1_2] 32 (0, 0)) (by (with_reducible repeat (first | refine bN3 ?_ _ | refine bD3 ?_ | refine bA3 ?_ _)); exact BK147.out) hb); have n5_ := zA3 (blk_below (g := gb148) (o := .cells #[.slice none 0 0, .slice none 0 0, .int .i64 0] 89 (0, 0)) (by (with_reducible repeat (first | refine bN3 ?_ _ | refine bD3 ?_ | refine bA3 ?_ _)); exact BK148.out) hb); have n6_ := zA3 (blk_below (g := gb155) (o := .cells #[.slice Ao13 y149.length co13, .slice Ao12 y152.length co12, .int .i64 0] 89 (0, 0)) (by (with_reducible repeat (first | refine bN3 ?_ _ | refine bD3 ?_ | refine bA3 ?_ _)); exact BK155.out) hb); have n7_ := zA3 (below_step (by repeat (first | (with_reducible first | exact HB.out | apply below_alloc | apply pw_below_drewN | apply below_drew1 | refine below_set ?_ GE146.out | refine below_set ?_ GE147.out | refine below_set ?_ GE148.out | refine below_set ?_ GE155.out) | exact HB.out)) hb); clear HO0_1; clear HO151; clear HO154; clear BK146; clear BK147; clear BK148; clear BK155; clear HB; have HO0_1 := n0_; have HO151 := n1_; have HO154 := n2_; have BK146 := n3_; have BK147 := n4_; have BK148 := n5_; have BK155 := n6_; have HB := n7_; clear n0_ n1_ n2_ n3_ n4_ n5_ n6_ n7_; (try clear hb); (try clear hb2); (try clear hk); (try clear hi)) | (go_at_call 102; (with_reducible refine (spec_l11Numbers.calls k _ _ l2 20 20 t158 _ ?side1 ?side2 A23.out).mono ?_); (case side1 => repeat (first | exact (Kd.C_below HR2.out HB.out) | (with_reducible refine Kd.C_alloc ?_ _) | (with_reducible refine Kd.C_drewN ?_ _) | (with_reducible refine Kd.C_drew ?_))); (case side2 => exact HC2.out); rintro e w' ⟨rfl, ⟨nd, rfl⟩⟩))
    go_meet
    case rel => exact ⟨_, (!t158), (by first | rfl | (simp; done) | (simp [*]; done)), H', ⟨by first | omega | exact Nat.le_refl _⟩, ⟨by (with_reducible repeat (first | apply Kd.V_alloc | apply Kd.V_drewN | apply Kd.V_drew)); exact Kd.V_mono HO0_1.out (fun _ hk => ⟨hk.1.1.1.1.1.1, ⟨hk.1.1.2, ⟨hk.1.2, ⟨hk.1.1.1.1.1.2, ⟨hk.1.1.1.1.2, ⟨hk.1.1.1.2, hk.2⟩⟩⟩⟩⟩⟩)⟩, ⟨by (with_reducible repeat (first | apply Kd.R_alloc | apply Kd.R_drewN | apply Kd.R_drew)); exact Kd.R_mono HO151.out (fun _ hk => ⟨hk.1.1, hk.2⟩)⟩, ⟨by (with_reducible repeat (first | apply Kd.R_alloc | apply Kd.R_drewN | apply Kd.R_drew)); exact Kd.R_mono HO154.out (fun _ hk => ⟨hk.1.1, hk.2⟩)⟩, ⟨by (with_reducible repeat (first | refine bN3 ?_ _ | refine bD3 ?_ | refine bA3 ?_ _)); exact BK146.out⟩, ⟨by (with_reducible repeat (first | refine bN3 ?_ _ | refine bD3 ?_ | refine bA3 ?_ _)); exact BK147.out⟩, ⟨by (with_reducible repeat (first | refine bN3 ?_ _ | refine bD3 ?_ | refine bA3 ?_ _)); exact BK148.out⟩, ⟨by (with_reducible repeat (first | refine bN3 ?_ _ | refine bD3 ?_ | refine bA3 ?_ _)); exact BK155.out⟩, ⟨by repeat (first | (with_reducible first | exact HB.out | apply below_alloc | apply pw_below_drewN | apply below_drew1 | refine below_set ?_ GE146.out | refine below_set ?_ GE147.out | refine below_set ?_ GE148.out | refine below_set ?_ GE155.out) | exact HB.out)⟩⟩
   ·replace c22 := Bool.eq_false_iff.mpr c22
    subst c22
    have H1 : (spec_l11Run.j0 k l2 true a0_0 l0_1 a1_0 a1_1 a1_2 y149 y152 0) = some (r1, r2, r3, r4) := by rw [if_neg (show ¬ (false = true) by decide)] at H; exact H
    clear H
    have H := H1
    clear H1
    have H' := zA3 H
    clear H
    have hnb33 := NB146_147.out
    have hnc33 := NB147_146.out
    have hnb34 := NB146_148.out
    have hnc34 := NB148_146.out
    have hnb35 := NB146_155.out
    have hnc35 := NB155_146.out
    have hcz36_0 : w14.cell? ⟨gb146, 0, none⟩ = some (.int .i64 a0_0) := (blk_cell BK146.out 0).trans rfl
    have hcz36_1 : w14.cell? ⟨gb146, 1, none⟩ = some (.slice A0_1 l0_1.length c0_1) := (blk_cell BK146.out 1).trans rfl
    have hfz36_0 := blk_frozen BK146.out 0
    have hfz36_1 := blk_frozen BK146.out 1
    go_wp2_with (first | ((with_reducible refine gate_callee (f := 77) rfl ?_); refine goesL_ (some 19) rfl rfl Try.func77 (by kernel_rfl) rfl #[.agg #[.int .i64 a0_0, .slice A0_1 l0_1.length c0_1]] rfl (by (try simp only [List.map_toArray, List.map_cons, List.map_nil]); first | done | rfl | (simp only [List.length_drop, List.length_take]; rfl)) ?_; (with_reducible refine (spec_l11Flow.calls k a0_0 _ _ l0_1 true _ ?side1 ?side2 A19.out).mono ?_); (case side1 => refine (Kd.V_reads' (e := 3) (base := w.heap.size) (ok := fun k_ => (((((((P0_1_ k_ ∨ w.heap.size ≤ k_) ∧ k_ ≠ gb146) ∧ k_ ≠ gb147) ∧ k_ ≠ gb148) ∧ some k_ ≠ (.slice Ao13 y149.length co13 : Value).ownBlock) ∧ some k_ ≠ (.slice Ao12 y152.length co12 : Value).ownBlock) ∧ k_ ≠ gb155)) (n := l0_1.length) (c := c0_1) ?_).2.2; exact (by (with_reducible repeat (first | apply Kd.V_alloc | apply Kd.V_drewN | apply Kd.V_drew)); exact (Kd.V_mono (Kd.V_far (p := ⟨gb155, 2, none⟩) (Kd.V_far (p := ⟨gb155, 1, none⟩) (Kd.V_far (p := ⟨gb155, 0, none⟩) (Kd.V_mono HO0_1.out (fun k_ hk => (⟨hk, hk.2⟩ : _ ∧ k_ ≠ gb155))) (fun _ hk => hk.2) (.slice Ao13 y149.length co13)) (fun _ hk => hk.2) (.slice Ao12 y152.length co12)) (fun _ hk => hk.2) (.int .i64 0)) (fun _ h_ => h_.1)))); (case side2 => exact (Kd.V_reads' HO0_1.out).2.1); rintro e w37 ⟨rfl, hb⟩; refine ⟨_, rfl, ?_⟩; have n0_ := zA3 (Kd.V_below (by (with_reducible repeat (first | apply Kd.V_alloc | apply Kd.V_drewN | apply Kd.V_drew)); exact (Kd.V_mono (Kd.V_far (p := ⟨gb155, 2, none⟩) (Kd.V_far (p := ⟨gb155, 1, none⟩) (Kd.V_far (p := ⟨gb155, 0, none⟩) (Kd.V_mono HO0_1.out (fun k_ hk => (⟨hk, hk.2⟩ : _ ∧ k_ ≠ gb155))) (fun _ hk => hk.2) (.slice Ao13 y149.length co13)) (fun _ hk => hk.2) (.slice Ao12 y152.length co12)) (fun _ hk => hk.2) (.int .i64 0)) (fun _ h_ => h_.1))) hb); have n1_ := zA3 (Kd.R_below (by (with_reducible repeat (first | apply Kd.R_alloc | apply Kd.R_drewN | apply Kd.R_drew)); exact (Kd.R_mono (Kd.R_far (p := ⟨gb155, 2, none⟩) (Kd.R_far (p := ⟨gb155, 1, none⟩) (Kd.R_far (p := ⟨gb155, 0, none⟩) (Kd.R_types HO151.out BK155.out (by decide)) (fun _ hk => hk.2) (.slice Ao13 y149.length co13)) (fun _ hk => hk.2) (.slice Ao12 y152.length co12)) (fun _ hk => hk.2) (.int .i64 0)) (fun _ h_ => h_.1))) hb); have n2_ := zA3 (Kd.R_below (by (with_reducible repeat (first | apply Kd.R_alloc | apply Kd.R_drewN | apply Kd.R_drew)); exact (Kd.R_mono (Kd.R_far (p := ⟨gb155, 2, none⟩) (Kd.R_far (p := ⟨gb155, 1, none⟩) (Kd.R_far (p := ⟨gb155, 0, none⟩) (Kd.R_types HO154.out BK155.out (by decide)) (fun _ hk => hk.2) (.slice Ao13 y149.length co13)) (fun _ hk => hk.2) (.slice Ao12 y152.length co12)) (fun _ hk => hk.2) (.int .i64 0)) (fun _ h_ => h_.1))) hb); have n3_ := zA3 (blk_below (g := gb146) (o := .cells #[.int .i64 a0_0, .slice A0_1 l0_1.length c0_1] 30 (0, 0)) (by (with_reducible repeat (first | refine bN3 ?_ _ | refine bD3 ?_ | refine bA3 ?_ _)); refine blk_far ?_ NB146_155.out _; (with_reducible repeat (first | refine bN3 ?_ _ | refine bD3 ?_ | refine bA3 ?_ _)); refine blk_far ?_ NB146_155.out _; (with_reducible repeat (first | refine bN3 ?_ _ | refine bD3 ?_ | refine bA3 ?_ _)); refine blk_far ?_ NB146_155.out _; (with_reducible repeat (first | refine bN3 ?_ _ | refine bD3 ?_ | refine bA3 ?_ _)); exact BK146.out) hb); have n4_ := zA3 (blk_below (g := gb147) (o := .cells #[.int .i64 a1_0, .int .i64 a1_1, .int .i64 a1_2] 32 (0, 0)) (by (with_reducible repeat (first | refine bN3 ?_ _ | refine bD3 ?_ | refine bA3 ?_ _)); refine blk_far ?_ NB147_155.out _; (with_reducible repeat (first | refine bN3 ?_ _ | refine bD3 ?_ | refine bA3 ?_ _)); refine blk_far ?_ NB147_155.out _; (with_reducible repeat (first | refine bN3 ?_ _ | refine bD3 ?_ | refine bA3 ?_ _)); refine blk_far ?_ NB147_155.out _; (with_reducible repeat (first | refine bN3 ?_ _ | refine bD3 ?_ | refine bA3 ?_ _)); exact BK147.out) hb); have n5_ := zA3 (blk_below (g := gb148) (o := .cells #[.slice none 0 0, .slice none 0 0, .int .i64 0] 89 (0, 0)) (by (with_reducible repeat (first | refine bN3 ?_ _ | refine bD3 ?_ | refine bA3 ?_ _)); refine blk_far ?_ NB148_155.out _; (with_reducible repeat (first | refine bN3 ?_ _ | refine bD3 ?_ | refine bA3 ?_ _)); refine blk_far ?_ NB148_155.out _; (with_reducible repeat (first | refine bN3 ?_ _ | refine bD3 ?_ | refine bA3 ?_ _)); refine blk_far ?_ NB148_155.out _; (with_reducible repeat (first | refine bN3 ?_ _ | refine bD3 ?_ | refine bA3 ?_ _)); exact BK148.out) hb); have n6_ := zA3 (blk_below (g := gb155) (o := .cells #[.slice Ao13 y149.length co13, .slice Ao12 y152.length co12, .int .i64 0] 89 (0, 0)) (by (with_reducible repeat (first | refine bN3 ?_ _ | refine bD3 ?_ | refine bA3 ?_ _)); refine blk_put (cs := #[.slice Ao13 y149.length co13, .slice Ao12 y152.length co12, .int .i64 0]) ?_ 2 _ rfl; (with_reducible repeat (first | refine bN3 ?_ _ | refine bD3 ?_ | refine bA3 ?_ _)); refine blk_put (cs := #[.slice Ao13 y149.length co13, .slice none 0 0, .int .i64 0]) ?_ 1 _ rfl; (with_reducible repeat (first | refine bN3 ?_ _ | refine bD3 ?_ | refine bA3 ?_ _)); refine blk_put (cs := #[.slice none 0 0, .slice none 0 0, .int .i64 0]) ?_ 0 _ rfl; (with_reducible repeat (first | refine bN3 ?_ _ | refine bD3 ?_ | refine bA3 ?_ _)); exact BK155.out) hb); have n7_ := zA3 (below_step (by repeat (first | (with_reducible first | exact HB.out | apply below_alloc | apply pw_below_drewN | apply below_drew1 | refine below_set ?_ GE146.out | refine below_set ?_ GE147.out | refine below_set ?_ GE148.out | refine below_set ?_ GE155.out) | exact HB.out)) hb); clear HO0_1; clear HO151; clear HO154; clear BK146; clear BK147; clear BK148; clear BK155; clear HB; have HO0_1 := n0_; have HO151 := n1_; have HO154 := n2_; have BK146 := n3_; have BK147 := n4_; have BK148 := n5_; have BK155 := n6_; have HB := n7_; clear n0_ n1_ n2_ n3_ n4_ n5_ n6_ n7_; (try clear hb); (try clear hb2); (try clear hk); (try clear hi); have hnb38 := NB147_148.out; have hnc38 := NB148_147.out; have hnb39 := NB147_155.out; have hnc39 := NB155_147.out; have hcz40_0 : w37.cell? ⟨gb147, 0, none⟩ = some (.int .i64 a1_0) := (blk_cell BK147.out 0).trans rfl; have hcz40_1 : w37.cell? ⟨gb147, 1, none⟩ = some (.int .i64 a1_1) := (blk_cell BK147.out 1).trans rfl; have hcz40_2 : w37.cell? ⟨gb147, 2, none⟩ = some (.int .i64 a1_2) := (blk_cell BK147.out 2).trans rfl; have hfz40_0 := blk_frozen BK147.out 0; have hfz40_1 := blk_frozen BK147.out 1; have hfz40_2 := blk_frozen BK147.out 2) | (go_at_call 96; (with_reducible refine (spec_l11Rule.calls k a1_0 a1_1 a1_2 false _ A21.out).mono ?_); rintro e w41 ⟨rfl, hb⟩; have n0_ := zA3 (Kd.V_below (by (with_reducible repeat (first | apply Kd.V_alloc | apply Kd.V_drewN | apply Kd.V_drew)); exact HO0_1.out) hb); have n1_ := zA3 (Kd.R_below (by (with_reducible repeat (first | apply Kd.R_alloc | apply Kd.R_drewN | apply Kd.R_drew)); exact HO151.out) hb); have n2_ := zA3 (Kd.R_below (by (with_reducible repeat (first | apply Kd.R_alloc | apply Kd.R_drewN | apply Kd.R_drew)); exact HO154.out) hb); have n3_ := zA3 (blk_below (g := gb146) (o := .cells #[.int .i64 a0_0, .slice A0_1 l0_1.length c0_1] 30 (0, 0)) (by (with_reducible repeat (first | refine bN3 ?_ _ | refine bD3 ?_ | refine bA3 ?_ _)); exact BK146.out) hb); have n4_ := zA3 (blk_below (g := gb147) (o := .cells #[.int .i64 a1_0, .int .i64 a1_1, .int .i64 a1_2] 32 (0, 0)) (by (with_reducible repeat (first | refine bN3 ?_ _ | refine bD3 ?_ | refine bA3 ?_ _)); exact BK147.out) hb); have n5_ := zA3 (blk_below (g := gb148) (o := .cells #[.slice none 0 0, .slice none 0 0, .int .i64 0] 89 (0, 0)) (by (with_reducible repeat (first | refine bN3 ?_ _ | refine bD3 ?_ | refine bA3 ?_ _)); exact BK148.out) hb); have n6_ := zA3 (blk_below (g := gb155) (o := .cells #[.slice Ao13 y149.length co13, .slice Ao12 y152.length co12, .int .i64 0] 89 (0, 0)) (by (with_reducible repeat (first | refine bN3 ?_ _ | refine bD3 ?_ | refine bA3 ?_ _)); exact BK155.out) hb); have n7_ := zA3 (below_step (by repeat (first | (with_reducible first | exact HB.out | apply below_alloc | apply pw_below_drewN | apply below_drew1 | refine below_set ?_ GE146.out | refine below_set ?_ GE147.out | refine below_set ?_ GE148.out | refine below_set ?_ GE155.out) | exact HB.out)) hb); clear HO0_1; clear HO151; clear HO154; clear BK146; clear BK147; clear BK148; clear BK155; clear HB; have HO0_1 := n0_; have HO151 := n1_; have HO154 := n2_; have BK146 := n3_; have BK147 := n4_; have BK148 := n5_; have BK155 := n6_; have HB := n7_; clear n0_ n1_ n2_ n3_ n4_ n5_ n6_ n7_; (try clear hb); (try clear hb2); (try clear hk); (try clear hi)))
    go_meet
    case rel => exact ⟨_, (true), (by first | rfl | (simp; done) | (simp [*]; done)), H', ⟨by first | omega | exact Nat.le_refl _⟩, ⟨by (with_reducible repeat (first | apply Kd.V_alloc | apply Kd.V_drewN | apply Kd.V_drew)); exact Kd.V_mono HO0_1.out (fun _ hk => ⟨hk.1.1.1.1.1.1, ⟨hk.1.1.2, ⟨hk.1.2, ⟨hk.1.1.1.1.1.2, ⟨hk.1.1.1.1.2, ⟨hk.1.1.1.2, hk.2⟩⟩⟩⟩⟩⟩)⟩, ⟨by (with_reducible repeat (first | apply Kd.R_alloc | apply Kd.R_drewN | apply Kd.R_drew)); exact Kd.R_mono HO151.out (fun _ hk => ⟨hk.1.1, hk.2⟩)⟩, ⟨by (with_reducible repeat (first | apply Kd.R_alloc | apply Kd.R_drewN | apply Kd.R_drew)); exact Kd.R_mono HO154.out (fun _ hk => ⟨hk.1.1, hk.2⟩)⟩, ⟨by (with_reducible repeat (first | refine bN3 ?_ _ | refine bD3 ?_ | refine bA3 ?_ _)); exact BK146.out⟩, ⟨by (with_reducible repeat (first | refine bN3 ?_ _ | refine bD3 ?_ | refine bA3 ?_ _)); exact BK147.out⟩, ⟨by (with_reducible repeat (first | refine bN3 ?_ _ | refine bD3 ?_ | refine bA3 ?_ _)); exact BK148.out⟩, ⟨by (with_reducible repeat (first | refine bN3 ?_ _ | refine bD3 ?_ | refine bA3 ?_ _)); exact BK155.out⟩, ⟨by repeat (first | (with_reducible first | exact HB.out | apply below_alloc | apply pw_below_drewN | apply below_drew1 | refine below_set ?_ GE146.out | refine below_set ?_ GE147.out | refine below_set ?_ GE148.out | refine below_set ?_ GE155.out) | exact HB.out)⟩⟩
  ·replace c20 := Bool.eq_false_iff.mpr c20
   subst c20
   have H1 : (spec_l11Run.j0 k l2 true a0_0 l0_1 a1_0 a1_1 a1_2 y149 y152 0) = some (r1, r2, r3, r4) := by rw [if_neg (show ¬ (false = true) by decide)] at H; exact H
   clear H
   have H := H1
   clear H1
   have H' := zA3 H
   clear H
   have hnb42 := NB146_147.out
   have hnc42 := NB147_146.out
   have hnb43 := NB146_148.out
   have hnc43 := NB148_146.out
   have hnb44 := NB146_155.out
   have hnc44 := NB155_146.out
   have hcz45_0 : w14.cell? ⟨gb146, 0, none⟩ = some (.int .i64 a0_0) := (blk_cell BK146.out 0).trans rfl
   have hcz45_1 : w14.cell? ⟨gb146, 1, none⟩ = some (.slice A0_1 l0_1.length c0_1) := (blk_cell BK146.out 1).trans rfl
   have hfz45_0 := blk_frozen BK146.out 0
   have hfz45_1 := blk_frozen BK146.out 1
   go_wp2_with (first | ((with_reducible refine gate_callee (f := 77) rfl ?_); refine goesL_ (some 19) rfl rfl Try.func77 (by kernel_rfl) rfl #[.agg #[.int .i64 a0_0, .slice A0_1 l0_1.length c0_1]] rfl (by (try simp only [List.map_toArray, List.map_cons, List.map_nil]); first | done | rfl | (simp only [List.length_drop, List.length_take]; rfl)) ?_; (with_reducible refine (spec_l11Flow.calls k a0_0 _ _ l0_1 false _ ?side1 ?side2 A19.out).mono ?_); (case side1 => refine (Kd.V_reads' (e := 3) (base := w.heap.size) (ok := fun k_ => (((((((P0_1_ k_ ∨ w.heap.size ≤ k_) ∧ k_ ≠ gb146) ∧ k_ ≠ gb147) ∧ k_ ≠ gb148) ∧ some k_ ≠ (.slice Ao13 y149.length co13 : Value).ownBlock) ∧ some k_ ≠ (.slice Ao12 y152.length co12 : Value).ownBlock) ∧ k_ ≠ gb155)) (n := l0_1.length) (c := c0_1) ?_).2.2; exact (by (with_reducible repeat (first | apply Kd.V_alloc | apply Kd.V_drewN | apply Kd.V_drew)); exact (Kd.V_mono (Kd.V_far (p := ⟨gb155, 2, none⟩) (Kd.V_far (p := ⟨gb155, 1, none⟩) (Kd.V_far (p := ⟨gb155, 0, none⟩) (Kd.V_mono HO0_1.out (fun k_ hk => (⟨hk, hk.2⟩ : _ ∧ k_ ≠ gb155))) (fun _ hk => hk.2) (.slice Ao13 y149.length co13)) (fun _ hk => hk.2) (.slice Ao12 y152.length co12)) (fun _ hk => hk.2) (.int .i64 0)) (fun _ h_ => h_.1)))); (case side2 => exact (Kd.V_reads' HO0_1.out).2.1); rintro e w46 ⟨rfl, hb⟩; refine ⟨_, rfl, ?_⟩; have n0_ := zA3 (Kd.V_below (by (with_reducible repeat (first | apply Kd.V_alloc | apply Kd.V_drewN | apply Kd.V_drew)); exact (Kd.V_mono (Kd.V_far (p := ⟨gb155, 2, none⟩) (Kd.V_far (p := ⟨gb155, 1, none⟩) (Kd.V_far (p := ⟨gb155, 0, none⟩) (Kd.V_mono HO0_1.out (fun k_ hk => (⟨hk, hk.2⟩ : _ ∧ k_ ≠ gb155))) (fun _ hk => hk.2) (.slice Ao13 y149.length co13)) (fun _ hk => hk.2) (.slice Ao12 y152.length co12)) (fun _ hk => hk.2) (.int .i64 0)) (fun _ h_ => h_.1))) hb); have n1_ := zA3 (Kd.R_below (by (with_reducible repeat (first | apply Kd.R_alloc | apply Kd.R_drewN | apply Kd.R_drew)); exact (Kd.R_mono (Kd.R_far (p := ⟨gb155, 2, none⟩) (Kd.R_far (p := ⟨gb155, 1, none⟩) (Kd.R_far (p := ⟨gb155, 0, none⟩) (Kd.R_types HO151.out BK155.out (by decide)) (fun _ hk => hk.2) (.slice Ao13 y149.length co13)) (fun _ hk => hk.2) (.slice Ao12 y152.length co12)) (fun _ hk => hk.2) (.int .i64 0)) (fun _ h_ => h_.1))) hb); have n2_ := zA3 (Kd.R_below (by (with_reducible repeat (first | apply Kd.R_alloc | apply Kd.R_drewN | apply Kd.R_drew)); exact (Kd.R_mono (Kd.R_far (p := ⟨gb155, 2, none⟩) (Kd.R_far (p := ⟨gb155, 1, none⟩) (Kd.R_far (p := ⟨gb155, 0, none⟩) (Kd.R_types HO154.out BK155.out (by decide)) (fun _ hk => hk.2) (.slice Ao13 y149.length co13)) (fun _ hk => hk.2) (.slice Ao12 y152.length co12)) (fun _ hk => hk.2) (.int .i64 0)) (fun _ h_ => h_.1))) hb); have n3_ := zA3 (blk_below (g := gb146) (o := .cells #[.int .i64 a0_0, .slice A0_1 l0_1.length c0_1] 30 (0, 0)) (by (with_reducible repeat (first | refine bN3 ?_ _ | refine bD3 ?_ | refine bA3 ?_ _)); refine blk_far ?_ NB146_155.out _; (with_reducible repeat (first | refine bN3 ?_ _ | refine bD3 ?_ | refine bA3 ?_ _)); refine blk_far ?_ NB146_155.out _; (with_reducible repeat (first | refine bN3 ?_ _ | refine bD3 ?_ | refine bA3 ?_ _)); refine blk_far ?_ NB146_155.out _; (with_reducible repeat (first | refine bN3 ?_ _ | refine bD3 ?_ | refine bA3 ?_ _)); exact BK146.out) hb); have n4_ := zA3 (blk_below (g := gb147) (o := .cells #[.int .i64 a1_0, .int .i64 a1_1, .int .i64 a1_2] 32 (0, 0)) (by (with_reducible repeat (first | refine bN3 ?_ _ | refine bD3 ?_ | refine bA3 ?_ _)); refine blk_far ?_ NB147_155.out _; (with_reducible repeat (first | refine bN3 ?_ _ | refine bD3 ?_ | refine bA3 ?_ _)); refine blk_far ?_ NB147_155.out _; (with_reducible repeat (first | refine bN3 ?_ _ | refine bD3 ?_ | refine bA3 ?_ _)); refine blk_far ?_ NB147_155.out _; (with_reducible repeat (first | refine bN3 ?_ _ | refine bD3 ?_ | refine bA3 ?_ _)); exact BK147.out) hb); have n5_ := zA3 (blk_below (g := gb148) (o := .cells #[.slice none 0 0, .slice none 0 0, .int .i64 0] 89 (0, 0)) (by (with_reducible repeat (first | refine bN3 ?_ _ | refine bD3 ?_ | refine bA3 ?_ _)); refine blk_far ?_ NB148_155.out _; (with_reducible repeat (first | refine bN3 ?_ _ | refine bD3 ?_ | refine bA3 ?_ _)); refine blk_far ?_ NB148_155.out _; (with_reducible repeat (first | refine bN3 ?_ _ | refine bD3 ?_ | refine bA3 ?_ _)); refine blk_far ?_ NB148_155.out _; (with_reducible repeat (first | refine bN3 ?_ _ | refine bD3 ?_ | refine bA3 ?_ _)); exact BK148.out) hb); have n6_ := zA3 (blk_below (g := gb155) (o := .cells #[.slice Ao13 y149.length co13, .slice Ao12 y152.length co12, .int .i64 0] 89 (0, 0)) (by (with_reducible repeat (first | refine bN3 ?_ _ | refine bD3 ?_ | refine bA3 ?_ _)); refine blk_put (cs := #[.slice Ao13 y149.length co13, .slice Ao12 y152.length co12, .int .i64 0]) ?_ 2 _ rfl; (with_reducible repeat (first | refine bN3 ?_ _ | refine bD3 ?_ | refine bA3 ?_ _)); refine blk_put (cs := #[.slice Ao13 y149.length co13, .slice none 0 0, .int .i64 0]) ?_ 1 _ rfl; (with_reducible repeat (first | refine bN3 ?_ _ | refine bD3 ?_ | refine bA3 ?_ _)); refine blk_put (cs := #[.slice none 0 0, .slice none 0 0, .int .i64 0]) ?_ 0 _ rfl; (with_reducible repeat (first | refine bN3 ?_ _ | refine bD3 ?_ | refine bA3 ?_ _)); exact BK155.out) hb); have n7_ := zA3 (below_step (by repeat (first | (with_reducible first | exact HB.out | apply below_alloc | apply pw_below_drewN | apply below_drew1 | refine below_set ?_ GE146.out | refine below_set ?_ GE147.out | refine below_set ?_ GE148.out | refine below_set ?_ GE155.out) | exact HB.out)) hb); clear HO0_1; clear HO151; clear HO154; clear BK146; clear BK147; clear BK148; clear BK155; clear HB; have HO0_1 := n0_; have HO151 := n1_; have HO154 := n2_; have BK146 := n3_; have BK147 := n4_; have BK148 := n5_; have BK155 := n6_; have HB := n7_; clear n0_ n1_ n2_ n3_ n4_ n5_ n6_ n7_; (try clear hb); (try clear hb2); (try clear hk); (try clear hi)))
   go_meet
   case rel => exact ⟨_, (true), (by first | rfl | (simp; done) | (simp [*]; done)), H', ⟨by first | omega | exact Nat.le_refl _⟩, ⟨by (with_reducible repeat (first | apply Kd.V_alloc | apply Kd.V_drewN | apply Kd.V_drew)); exact Kd.V_mono HO0_1.out (fun _ hk => ⟨hk.1.1.1.1.1.1, ⟨hk.1.1.2, ⟨hk.1.2, ⟨hk.1.1.1.1.1.2, ⟨hk.1.1.1.1.2, ⟨hk.1.1.1.2, hk.2⟩⟩⟩⟩⟩⟩)⟩, ⟨by (with_reducible repeat (first | apply Kd.R_alloc | apply Kd.R_drewN | apply Kd.R_drew)); exact Kd.R_mono HO151.out (fun _ hk => ⟨hk.1.1, hk.2⟩)⟩, ⟨by (with_reducible repeat (first | apply Kd.R_alloc | apply Kd.R_drewN | apply Kd.R_drew)); exact Kd.R_mono HO154.out (fun _ hk => ⟨hk.1.1, hk.2⟩)⟩, ⟨by (with_reducible repeat (first | refine bN3 ?_ _ | refine bD3 ?_ | refine bA3 ?_ _)); exact BK146.out⟩, ⟨by (with_reducible repeat (first | refine bN3 ?_ _ | refine bD3 ?_ | refine bA3 ?_ _)); exact BK147.out⟩, ⟨by (with_reducible repeat (first | refine bN3 ?_ _ | refine bD3 ?_ | refine bA3 ?_ _)); exact BK148.out⟩, ⟨by (with_reducible repeat (first | refine bN3 ?_ _ | refine bD3 ?_ | refine bA3 ?_ _)); exact BK155.out⟩, ⟨by repeat (first | (with_reducible first | exact HB.out | apply below_alloc | apply pw_below_drewN | apply below_drew1 | refine below_set ?_ GE146.out | refine below_set ?_ GE147.out | refine below_set ?_ GE148.out | refine below_set ?_ GE155.out) | exact HB.out)⟩⟩
 case rest =>
  clear HC4
  try clear c1
  try clear c2
  try clear p2
  try clear c3
  try clear c4
  try clear c6
  try clear c7
  try clear c15
  try clear c16
  try clear c17
  try clear c20
  try clear c22
  try clear c24
  try clear c25
  try clear c26
  try clear c29
  try clear c30
  try clear c33
  try clear c34
  try clear c35
  try clear c38
  try clear c39
  try clear c42
  try clear c43
  try clear c44
  try clear hcz18_0
  try clear hcz18_1
  try clear hcz18_2
  try clear hcz27_0
  try clear hcz27_1
  try clear hcz31_0
  try clear hcz31_1
  try clear hcz31_2
  try clear hcz36_0
  try clear hcz36_1
  try clear hcz40_0
  try clear hcz40_1
  try clear hcz40_2
  try clear hcz45_0
  try clear hcz45_1
  try clear hfz18_0
  try clear hfz18_1
  try clear hfz18_2
  try clear hfz27_0
  try clear hfz27_1
  try clear hfz31_0
  try clear hfz31_1
  try clear hfz31_2
  try clear hfz36_0
  try clear hfz36_1
  try clear hfz40_0
  try clear hfz40_1
  try clear hfz40_2
  try clear hfz45_0
  try clear hfz45_1
  obtain ⟨kq, x30_3, rfl, HA, HJ3, HO_147001, HO_156000, HO_156001, BK146, BK147, BK148, BK155, HB⟩ := hcut
  cases kq with
  | zero => exact absurd HA.out (by simp [spec_l11Run.j0])
  | succ kj3 =>
   have H := HA.out
   clear HA
   simp only [spec_l11Run.j0] at H
   by_cases c47 : x30_3 = true
   ·subst c47
    have H1 : (some (y149, y152, 0, false)) = some (r1, r2, r3, r4) := by rw [if_pos rfl] at H; exact H
    clear H
    have H := H1
    clear H1
    simp only [Option.some.injEq, Prod.mk.injEq] at H
    obtain ⟨rfl, rfl, rfl, rfl⟩ := H
    have hnb48 := NB155_146.out
    have hnc48 := NB146_155.out
    have hnb49 := NB155_147.out
    have hnc49 := NB147_155.out
    have hnb50 := NB155_148.out
    have hnc50 := NB148_155.out
    have hcz51_0 : wc.cell? ⟨gb155, 0, none⟩ = some (.slice Ao13 y149.length co13) := (blk_cell BK155.out 0).trans rfl
    have hcz51_1 : wc.cell? ⟨gb155, 1, none⟩ = some (.slice Ao12 y152.length co12) := (blk_cell BK155.out 1).trans rfl
    have hcz51_2 : wc.cell? ⟨gb155, 2, none⟩ = some (.int .i64 0) := (blk_cell BK155.out 2).trans rfl
    have hfz51_0 := blk_frozen BK155.out 0
    have hfz51_1 := blk_frozen BK155.out 1
    have hfz51_2 := blk_frozen BK155.out 2
    have hnb52 := NB148_146.out
    have hnc52 := NB146_148.out
    have hnb53 := NB148_147.out
    have hnc53 := NB147_148.out
    have hcz54_0 : wc.cell? ⟨gb148, 0, none⟩ = some (.slice none 0 0) := (blk_cell BK148.out 0).trans rfl
    have hcz54_1 : wc.cell? ⟨gb148, 1, none⟩ = some (.slice none 0 0) := (blk_cell BK148.out 1).trans rfl
    have hcz54_2 : wc.cell? ⟨gb148, 2, none⟩ = some (.int .i64 0) := (blk_cell BK148.out 2).trans rfl
    have hfz54_0 := blk_frozen BK148.out 0
    have hfz54_1 := blk_frozen BK148.out 1
    have hfz54_2 := blk_frozen BK148.out 2
    go_wp2
    refine bodyPost_ret (results_ct rfl _ _ gb148 89 #[.slice Ao13 y149.length co13, .slice Ao12 y152.length co12, .int .i64 0] (0, 0) _ rfl (by (with_reducible repeat (first | refine bN3 ?_ _ | refine bD3 ?_ | refine bA3 ?_ _)); refine blk_put (cs := #[.slice Ao13 y149.length co13, .slice Ao12 y152.length co12, .int .i64 0]) ?_ 2 _ rfl; (with_reducible repeat (first | refine bN3 ?_ _ | refine bD3 ?_ | refine bA3 ?_ _)); refine blk_put (cs := #[.slice Ao13 y149.length co13, .slice none 0 0, .int .i64 0]) ?_ 1 _ rfl; (with_reducible repeat (first | refine bN3 ?_ _ | refine bD3 ?_ | refine bA3 ?_ _)); refine blk_put (cs := #[.slice none 0 0, .slice none 0 0, .int .i64 0]) ?_ 0 _ rfl; (with_reducible repeat (first | refine bN3 ?_ _ | refine bD3 ?_ | refine bA3 ?_ _)); exact BK148.out) Try.underlying89 rfl (by kernel_rfl)) rfl ?_
    exact ⟨_, _, by first | rfl | (simp [errW_none, errW_some] <;> rfl) | (simp [*, errW_none, errW_some] <;> rfl), by (with_reducible repeat (first | apply Kd.R_alloc | apply Kd.R_drewN | apply Kd.R_drew)); exact Kd.R_mono (Kd.R_far (p := ⟨gb148, 2, none⟩) (Kd.R_far (p := ⟨gb148, 1, none⟩) (Kd.R_far (p := ⟨gb148, 0, none⟩) (Kd.R_types HO_156000.out BK148.out (by decide)) (fun _ hk => hk.2) (.slice Ao13 y149.length co13)) (fun _ hk => hk.2) (.slice Ao12 y152.length co12)) (fun _ hk => hk.2) (.int .i64 0)) (fun _ hk => ⟨hk.1.1, hk.1.2⟩), by (with_reducible repeat (first | apply Kd.R_alloc | apply Kd.R_drewN | apply Kd.R_drew)); exact Kd.R_mono (Kd.R_far (p := ⟨gb148, 2, none⟩) (Kd.R_far (p := ⟨gb148, 1, none⟩) (Kd.R_far (p := ⟨gb148, 0, none⟩) (Kd.R_types HO_156001.out BK148.out (by decide)) (fun _ hk => hk.2) (.slice Ao13 y149.length co13)) (fun _ hk => hk.2) (.slice Ao12 y152.length co12)) (fun _ hk => hk.2) (.int .i64 0)) (fun _ hk => ⟨hk.1.1, hk.1.2⟩), by repeat (first | (with_reducible first | exact HB.out | apply below_alloc | apply pw_below_drewN | apply below_drew1 | refine below_set ?_ GE146.out | refine below_set ?_ GE147.out | refine below_set ?_ GE148.out | refine below_set ?_ GE155.out) | exact HB.out)⟩
   ·replace c47 := Bool.eq_false_iff.mpr c47
    subst c47
    have H1 : (spec_l11Run.l0 kj3 l2 0 a1_0 a1_1 a1_2 y149 y152 0 a0_0 l0_1) = some (r1, r2, r3, r4) := by rw [if_neg (show ¬ (false = true) by decide)] at H; exact H
    clear H
    have H := H1
    clear H1
    have H' := zA3 H
    clear H
    have hnb55 := NB146_147.out
    have hnc55 := NB147_146.out
    have hnb56 := NB146_148.out
    have hnc56 := NB148_146.out
    have hnb57 := NB146_155.out
    have hnc57 := NB155_146.out
    have hcz58_0 : wc.cell? ⟨gb146, 0, none⟩ = some (.int .i64 a0_0) := (blk_cell BK146.out 0).trans rfl
    have hcz58_1 : wc.cell? ⟨gb146, 1, none⟩ = some (.slice A0_1 l0_1.length c0_1) := (blk_cell BK146.out 1).trans rfl
    have hfz58_0 := blk_frozen BK146.out 0
    have hfz58_1 := blk_frozen BK146.out 1
    go_wp2_with (first | ((with_reducible refine gate_dst (N := 9) rfl ?_); refine box_event ?hg (N := 9) ?hd (cs := #[.int .i64 0, .slice none 0 0]) (t := 30) ?hr ?_; (case hd => rfl); (case hg => rfl); (case hr => first | (go_simp; done) | (go_simp; rfl)); intro gb159 hg w59 hbox hb; have n0_ := zA3 (Kd.V_below (Kd.V_elderB (by (with_reducible repeat (first | apply Kd.V_alloc | apply Kd.V_drewN | apply Kd.V_drew)); exact HO_147001.out) gb159 (Nat.le_of_eq hg.symm)) hb); have n1_ := zA3 (Kd.R_below (by (with_reducible repeat (first | apply Kd.R_alloc | apply Kd.R_drewN | apply Kd.R_drew)); exact HO_156000.out) hb); have n2_ := zA3 (Kd.R_below (by (with_reducible repeat (first | apply Kd.R_alloc | apply Kd.R_drewN | apply Kd.R_drew)); exact HO_156001.out) hb); have n3_ := zA3 (blk_below (g := gb146) (o := .cells #[.int .i64 a0_0, .slice A0_1 l0_1.length c0_1] 30 (0, 0)) (by (with_reducible repeat (first | refine bN3 ?_ _ | refine bD3 ?_ | refine bA3 ?_ _)); exact BK146.out) hb); have n4_ := zA3 (blk_below (g := gb147) (o := .cells #[.int .i64 a1_0, .int .i64 a1_1, .int .i64 a1_2] 32 (0, 0)) (by (with_reducible repeat (first | refine bN3 ?_ _ | refine bD3 ?_ | refine bA3 ?_ _)); exact BK147.out) hb); have n5_ := zA3 (blk_below (g := gb148) (o := .cells #[.slice none 0 0, .slice none 0 0, .int .i64 0] 89 (0, 0)) (by (with_reducible repeat (first | refine bN3 ?_ _ | refine bD3 ?_ | refine bA3 ?_ _)); exact BK148.out) hb); have n6_ := zA3 (blk_below (g := gb155) (o := .cells #[.slice Ao13 y149.length co13, .slice Ao12 y152.length co12, .int .i64 0] 89 (0, 0)) (by (with_reducible repeat (first | refine bN3 ?_ _ | refine bD3 ?_ | refine bA3 ?_ _)); exact BK155.out) hb); have n7_ := zA3 (below_step (by repeat (first | (with_reducible first | exact HB.out | apply below_alloc | apply pw_below_drewN | apply below_drew1 | refine below_set ?_ GE146.out | refine below_set ?_ GE147.out | refine below_set ?_ GE148.out | refine below_set ?_ GE155.out) | exact HB.out)) hb); have n8_ := zA3 (hbox); have n9_ := zA3 ((by rw [hg]; exact (below_size (by repeat (first | (with_reducible first | exact HB.out | apply below_alloc | apply pw_below_drewN | apply below_drew1 | refine below_set ?_ GE146.out | refine below_set ?_ GE147.out | refine below_set ?_ GE148.out | refine below_set ?_ GE155.out) | exact HB.out))) : w.heap.size ≤ gb159)); have n10_ := zA3 ((by rw [hg]; exact (below_size (by repeat (first | (with_reducible first | exact HB.out | apply below_alloc | apply pw_below_drewN | apply below_drew1 | refine below_set ?_ GE146.out | refine below_set ?_ GE147.out | refine below_set ?_ GE148.out | refine below_set ?_ GE155.out) | exact HB.out))) : w.heap.size ≤ gb159)); have n11_ := zA3 ((by rw [hg]; exact Nat.ne_of_lt (blk_lt (g := gb146) (o := .cells #[.int .i64 a0_0, .slice A0_1 l0_1.length c0_1] 30 (0, 0)) (by (with_reducible repeat (first | refine bN3 ?_ _ | refine bD3 ?_ | refine bA3 ?_ _)); exact BK146.out)) : gb146 ≠ gb159)); have n12_ := zA3 ((by rw [hg]; exact Nat.ne_of_gt (blk_lt (g := gb146) (o := .cells #[.int .i64 a0_0, .slice A0_1 l0_1.length c0_1] 30 (0, 0)) (by (with_reducible repeat (first | refine bN3 ?_ _ | refine bD3 ?_ | refine bA3 ?_ _)); exact BK146.out)) : gb159 ≠ gb146)); have n13_ := zA3 ((by rw [hg]; exact Nat.ne_of_lt (blk_lt (g := gb147) (o := .cells #[.int .i64 a1_0, .int .i64 a1_1, .int .i64 a1_2] 32 (0, 0)) (by (with_reducible repeat (first | refine bN3 ?_ _ | refine bD3 ?_ | refine bA3 ?_ _)); exact BK147.out)) : gb147 ≠ gb159)); have n14_ := zA3 ((by rw [hg]; exact Nat.ne_of_gt (blk_lt (g := gb147) (o := .cells #[.int .i64 a1_0, .int .i64 a1_1, .int .i64 a1_2] 32 (0, 0)) (by (with_reducible repeat (first | refine bN3 ?_ _ | refine bD3 ?_ | refine bA3 ?_ _)); exact BK147.out)) : gb159 ≠ gb147)); have n15_ := zA3 ((by rw [hg]; exact Nat.ne_of_lt (blk_lt (g := gb148) (o := .cells #[.slice none 0 0, .slice none 0 0, .int .i64 0] 89 (0, 0)) (by (with_reducible repeat (first | refine bN3 ?_ _ | refine bD3 ?_ | refine bA3 ?_ _)); exact BK148.out)) : gb148 ≠ gb159)); have n16_ := zA3 ((by rw [hg]; exact Nat.ne_of_gt (blk_lt (g := gb148) (o := .cells #[.slice none 0 0, .slice none 0 0, .int .i64 0] 89 (0, 0)) (by (with_reducible repeat (first | refine bN3 ?_ _ | refine bD3 ?_ | refine bA3 ?_ _)); exact BK148.out)) : gb159 ≠ gb148)); have n17_ := zA3 ((by rw [hg]; exact Nat.ne_of_lt (blk_lt (g := gb155) (o := .cells #[.slice Ao13 y149.length co13, .slice Ao12 y152.length co12, .int .i64 0] 89 (0, 0)) (by (with_reducible repeat (first | refine bN3 ?_ _ | refine bD3 ?_ | refine bA3 ?_ _)); exact BK155.out)) : gb155 ≠ gb159)); have n18_ := zA3 ((by rw [hg]; exact Nat.ne_of_gt (blk_lt (g := gb155) (o := .cells #[.slice Ao13 y149.length co13, .slice Ao12 y152.length co12, .int .i64 0] 89 (0, 0)) (by (with_reducible repeat (first | refine bN3 ?_ _ | refine bD3 ?_ | refine bA3 ?_ _)); exact BK155.out)) : gb159 ≠ gb155)); clear HO_147001; clear HO_156000; clear HO_156001; clear BK146; clear BK147; clear BK148; clear BK155; clear HB; have HO_147001 := n0_; have HO_156000 := n1_; have HO_156001 := n2_; have BK146 := n3_; have BK147 := n4_; have BK148 := n5_; have BK155 := n6_; have HB := n7_; have BK159 := n8_; have GW159 := n9_; have GE159 := n10_; have NB146_159 := n11_; have NB159_146 := n12_; have NB147_159 := n13_; have NB159_147 := n14_; have NB148_159 := n15_; have NB159_148 := n16_; have NB155_159 := n17_; have NB159_155 := n18_; clear n0_ n1_ n2_ n3_ n4_ n5_ n6_ n7_ n8_ n9_ n10_ n11_ n12_ n13_ n14_ n15_ n16_ n17_ n18_; clear hb hbox hg; have hnb60 := NB159_146.out; have hnc60 := NB146_159.out; have hnb61 := NB159_147.out; have hnc61 := NB147_159.out; have hnb62 := NB159_148.out; have hnc62 := NB148_159.out; have hnb63 := NB159_155.out; have hnc63 := NB155_159.out; have hcz64_0 : w59.cell? ⟨gb159, 0, none⟩ = some (.int .i64 0) := (blk_cell BK159.out 0).trans rfl; have hcz64_1 : w59.cell? ⟨gb159, 1, none⟩ = some (.slice none 0 0) := (blk_cell BK159.out 1).trans rfl; have hfz64_0 := blk_frozen BK159.out 0; have hfz64_1 := blk_frozen BK159.out 1))
    go_loopg [10] kj3 (fun kq v10 w' => ∃ (x10_2 : Int) (x149002_2 : Int) (x156000_2 : List Int) (x156001_2 : List Int) (x156002_2 : Int) (x160000_2 : Int) (x160001_2 : List Int) (u156000 : Value) (u156001 : Value) (u160001 : Value), v10 = .int .i64 x10_2 ∧ Aside0 (spec_l11Run.l0 kq l2 x10_2 a1_0 a1_1 a1_2 x156000_2 x156001_2 x156002_2 x160000_2 x160001_2 = some (r1, r2, r3, r4)) ∧ Aside0 (kq ≤ kj3) ∧ Aside0 (Kd.V (Kd.int .i64) 3 w' w.heap.size (fun k_ => (P0_1_ k_ ∨ w.heap.size ≤ k_) ∧ some k_ ≠ (u156000 : Value).ownBlock ∧ some k_ ≠ (u156001 : Value).ownBlock ∧ k_ ≠ gb146 ∧ k_ ≠ gb147 ∧ k_ ≠ gb148 ∧ k_ ≠ gb155 ∧ k_ ≠ gb159) (.slice A0_1 l0_1.length c0_1) l0_1) ∧ Aside0 (Kd.R (Kd.int .i64) 3 w' w.heap.size (fun k_ => (w.heap.size ≤ k_) ∧ some k_ ≠ (u156001 : Value).ownBlock) u156000 x156000_2) ∧ Aside0 (Kd.R (Kd.int .i64) 3 w' w.heap.size (fun k_ => (w.heap.size ≤ k_) ∧ some k_ ≠ (u156000 : Value).ownBlock) u156001 x156001_2) ∧ Aside0 (Kd.V (Kd.int .i64) 3 w' w.heap.size (fun k_ => (P0_1_ k_ ∨ w.heap.size ≤ k_) ∧ some k_ ≠ (u156000 : Value).ownBlock ∧ some k_ ≠ (u156001 : Value).ownBlock ∧ k_ ≠ gb146 ∧ k_ ≠ gb147 ∧ k_ ≠ gb148 ∧ k_ ≠ gb155 ∧ k_ ≠ gb159) u160001 x160001_2) ∧ Aside0 (w'.heap[gb146]? = some (.cells #[.int .i64 a0_0, (.slice A0_1 l0_1.length c0_1)] 30 (0, 0))) ∧ Aside0 (w'.heap[gb147]? = some (.cells #[.int .i64 a1_0, .int .i64 a1_1, .int .i64 a1_2] 32 (0, 0))) ∧ Aside0 (w'.heap[gb148]? = some (.cells #[(.slice none 0 0), (.slice none 0 0), .int .i64 x149002_2] 89 (0, 0))) ∧ Aside0 (w'.heap[gb155]? = some (.cells #[u156000, u156001, .int .i64 x156002_2] 89 (0, 0))) ∧ Aside0 (w'.heap[gb159]? = some (.cells #[.int .i64 x160000_2, u160001] 30 (0, 0))) ∧ Aside0 (Below w.heap.size w w'))
    case atStart => exact ⟨(0), (0), (y149), (y152), (0), (a0_0), (l0_1), (.slice Ao13 y149.length co13), (.slice Ao12 y152.length co12), (.slice A0_1 l0_1.length c0_1), (by first | rfl | (simp; done) | (simp [*]; done)), H', ⟨Nat.le_refl _⟩, ⟨by (with_reducible repeat (first | apply Kd.V_alloc | apply Kd.V_drewN | apply Kd.V_drew)); exact Kd.V_mono (Kd.V_far (p := ⟨gb159, 1, none⟩) (Kd.V_far (p := ⟨gb159, 0, none⟩) (Kd.V_mono HO_147001.out (fun k_ hk => (⟨hk, hk.2⟩ : _ ∧ k_ ≠ gb159))) (fun _ hk => hk.2) (.int .i64 a0_0)) (fun _ hk => hk.2) (.slice A0_1 l0_1.length c0_1)) (fun _ hk => ⟨hk.1.1.1, ⟨hk.1.1.2.1, ⟨hk.1.1.2.2.1, ⟨hk.1.1.2.2.2.1, ⟨hk.1.1.2.2.2.2.1, ⟨hk.1.1.2.2.2.2.2.1, ⟨hk.1.1.2.2.2.2.2.2, hk.1.2⟩⟩⟩⟩⟩⟩⟩)⟩, ⟨by (with_reducible repeat (first | apply Kd.R_alloc | apply Kd.R_drewN | apply Kd.R_drew)); exact Kd.R_mono (Kd.R_far (p := ⟨gb159, 1, none⟩) (Kd.R_far (p := ⟨gb159, 0, none⟩) (Kd.R_types HO_156000.out BK159.out (by decide)) (fun _ hk => hk.2) (.int .i64 a0_0)) (fun _ hk => hk.2) (.slice A0_1 l0_1.length c0_1)) (fun _ hk => ⟨hk.1.1, hk.1.2⟩)⟩, ⟨by (with_reducible repeat (first | apply Kd.R_alloc | apply Kd.R_drewN | apply Kd.R_drew)); exact Kd.R_mono (Kd.R_far (p := ⟨gb159, 1, none⟩) (Kd.R_far (p := ⟨gb159, 0, none⟩) (Kd.R_types HO_156001.out BK159.out (by decide)) (fun _ hk => hk.2) (.int .i64 a0_0)) (fun _ hk => hk.2) (.slice A0_1 l0_1.length c0_1)) (fun _ hk => ⟨hk.1.1, hk.1.2⟩)⟩, ⟨by (with_reducible repeat (first | apply Kd.V_alloc | apply Kd.V_drewN | apply Kd.V_drew)); exact Kd.V_mono (Kd.V_far (p := ⟨gb159, 1, none⟩) (Kd.V_far (p := ⟨gb159, 0, none⟩) (Kd.V_mono HO_147001.out (fun k_ hk => (⟨hk, hk.2⟩ : _ ∧ k_ ≠ gb159))) (fun _ hk => hk.2) (.int .i64 a0_0)) (fun _ hk => hk.2) (.slice A0_1 l0_1.length c0_1)) (fun _ hk => ⟨hk.1.1.1, ⟨hk.1.1.2.1, ⟨hk.1.1.2.2.1, ⟨hk.1.1.2.2.2.1, ⟨hk.1.1.2.2.2.2.1, ⟨hk.1.1.2.2.2.2.2.1, ⟨hk.1.1.2.2.2.2.2.2, hk.1.2⟩⟩⟩⟩⟩⟩⟩)⟩, ⟨by (with_reducible repeat (first | refine bN3 ?_ _ | refine bD3 ?_ | refine bA3 ?_ _)); refine blk_far ?_ NB146_159.out _; (with_reducible repeat (first | refine bN3 ?_ _ | refine bD3 ?_ | refine bA3 ?_ _)); refine blk_far ?_ NB146_159.out _; (with_reducible repeat (first | refine bN3 ?_ _ | refine bD3 ?_ | refine bA3 ?_ _)); exact BK146.out⟩, ⟨by (with_reducible repeat (first | refine bN3 ?_ _ | refine bD3 ?_ | refine bA3 ?_ _)); refine blk_far ?_ NB147_159.out _; (with_reducible repeat (first | refine bN3 ?_ _ | refine bD3 ?_ | refine bA3 ?_ _)); refine blk_far ?_ NB147_159.out _; (with_reducible repeat (first | refine bN3 ?_ _ | refine bD3 ?_ | refine bA3 ?_ _)); exact BK147.out⟩, ⟨by (with_reducible repeat (first | refine bN3 ?_ _ | refine bD3 ?_ | refine bA3 ?_ _)); refine blk_far ?_ NB148_159.out _; (with_reducible repeat (first | refine bN3 ?_ _ | refine bD3 ?_ | refine bA3 ?_ _)); refine blk_far ?_ NB148_159.out _; (with_reducible repeat (first | refine bN3 ?_ _ | refine bD3 ?_ | refine bA3 ?_ _)); exact BK148.out⟩, ⟨by (with_reducible repeat (first | refine bN3 ?_ _ | refine bD3 ?_ | refine bA3 ?_ _)); refine blk_far ?_ NB155_159.out _; (with_reducible repeat (first | refine bN3 ?_ _ | refine bD3 ?_ | refine bA3 ?_ _)); refine blk_far ?_ NB155_159.out _; (with_reducible repeat (first | refine bN3 ?_ _ | refine bD3 ?_ | refine bA3 ?_ _)); exact BK155.out⟩, ⟨by (with_reducible repeat (first | refine bN3 ?_ _ | refine bD3 ?_ | refine bA3 ?_ _)); refine blk_put (cs := #[.int .i64 a0_0, .slice none 0 0]) ?_ 1 _ rfl; (with_reducible repeat (first | refine bN3 ?_ _ | refine bD3 ?_ | refine bA3 ?_ _)); refine blk_put (cs := #[.int .i64 0, .slice none 0 0]) ?_ 0 _ rfl; (with_reducible repeat (first | refine bN3 ?_ _ | refine bD3 ?_ | refine bA3 ?_ _)); exact BK159.out⟩, ⟨by repeat (first | (with_reducible first | exact HB.out | apply below_alloc | apply pw_below_drewN | apply below_drew1 | refine below_set ?_ GE146.out | refine below_set ?_ GE147.out | refine below_set ?_ GE148.out | refine below_set ?_ GE155.out | refine below_set ?_ GE159.out) | exact HB.out)⟩⟩
    case round =>
     clear H'
     try clear c1
     try clear c2
     try clear p2
     try clear c3
     try clear c4
     try clear c5
     try clear c6
     try clear c7
     try clear c15
     try clear c16
     try clear c17
     try clear c20
     try clear c22
     try clear c24
     try clear c25
     try clear c26
     try clear c29
     try clear c30
     try clear c33
     try clear c34
     try clear c35
     try clear c38
     try clear c39
     try clear c42
     try clear c43
     try clear c44
     try clear c47
     try clear c48
     try clear c49
     try clear c50
     try clear c52
     try clear c53
     try clear c55
     try clear c56
     try clear c57
     try clear c60
     try clear c61
     try clear c62
     try clear c63
     try clear c64
     try clear hcz18_0
     try clear hcz18_1
     try clear hcz18_2
     try clear hcz27_0
     try clear hcz27_1
     try clear hcz31_0
     try clear hcz31_1
     try clear hcz31_2
     try clear hcz36_0
     try clear hcz36_1
     try clear hcz40_0
     try clear hcz40_1
     try clear hcz40_2
     try clear hcz45_0
     try clear hcz45_1
     try clear hcz51_0
     try clear hcz51_1
     try clear hcz51_2
     try clear hcz54_0
     try clear hcz54_1
     try clear hcz54_2
     try clear hcz58_0
     try clear hcz58_1
     try clear hcz64_0
     try clear hcz64_1
     try clear hfz18_0
     try clear hfz18_1
     try clear hfz18_2
     try clear hfz27_0
     try clear hfz27_1
     try clear hfz31_0
     try clear hfz31_1
     try clear hfz31_2
     try clear hfz36_0
     try clear hfz36_1
     try clear hfz40_0
     try clear hfz40_1
     try clear hfz40_2
     try clear hfz45_0
     try clear hfz45_1
     try clear hfz51_0
     try clear hfz51_1
     try clear hfz51_2
     try clear hfz54_0
     try clear hfz54_1
     try clear hfz54_2
     try clear hfz58_0
     try clear hfz58_1
     try clear hfz64_0
     try clear hfz64_1
     try clear p2
     obtain ⟨x10_2, x149002_2, x156000_2, x156001_2, x156002_2, x160000_2, x160001_2, u156000, u156001, u160001, rfl, HA, HK2, HO_147001, HO_156000, HO_156001, HO_160001, BK146, BK147, BK148, BK155, BK159, HB⟩ := hrel
     cases gk with
     | zero => exact absurd HA.out (by simp [spec_l11Run.l0])
     | succ k2 =>
      have H := HA.out
      clear HA
      simp only [spec_l11Run.l0] at H
      by_cases c65 : x10_2 < (l2.length : Int)
      ·rw [if_pos c65] at H
       have c65b0 : decide (x10_2 < (l2.length : Int)) = true := decide_eq_true c65
       clear c65
       replace H := Option.bind_eq_some_iff.mp H
       obtain ⟨⟨t160, t161⟩, A660, H⟩ := H
       replace H : (if t161 = true then (if 0 ≤ x10_2 then ((spec_l11Day.f x160000_2 x160001_2 t160 (rd l2 x10_2)).bind fun bt169 => ((spec_l11Flow.f k2 bt169.1 bt169.2.1).bind fun t175 => (if t175 = true then (if x156000_2.length < 17592186044416 then (if x156001_2.length < 17592186044416 then ((spec_l1Least.f (rd l2 x10_2) bt169.2.2).bind fun t183 => ((spec_l1Most.f t183 0).bind fun t184 => (spec_l11Run.l0 k2 l2 (wrap64 (x10_2 + 1)) a1_0 a1_1 a1_2 (x156000_2 ++ [t160]) (x156001_2 ++ [bt169.1]) (wrap64 (x156002_2 + t184)) bt169.1 bt169.2.1))) else (none)) else (none)) else (some ((([] : List Int)), (([] : List Int)), 0, false))))) else (none)) else (some ((([] : List Int)), (([] : List Int)), 0, false))) = some (r1, r2, r3, r4) := H
       have A66 := zA3 A660
       clear A660
       by_cases c67 : t161 = true
       ·subst c67
        have H1 : (if 0 ≤ x10_2 then ((spec_l11Day.f x160000_2 x160001_2 t160 (rd l2 x10_2)).bind fun bt169 => ((spec_l11Flow.f k2 bt169.1 bt169.2.1).bind fun t175 => (if t175 = true then (if x156000_2.length < 17592186044416 then (if x156001_2.length < 17592186044416 then ((spec_l1Least.f (rd l2 x10_2) bt169.2.2).bind fun t183 => ((spec_l1Most.f t183 0).bind fun t184 => (spec_l11Run.l0 k2 l2 (wrap64 (x10_2 + 1)) a1_0 a1_1 a1_2 (x156000_2 ++ [t160]) (x156001_2 ++ [bt169.1]) (wrap64 (x156002_2 + t184)) bt169.1 bt169.2.1))) else (none)) else (none)) else (some ((([] : List Int)), (([] : List Int)), 0, false))))) else (none)) = some (r1, r2, r3, r4) := by rw [if_pos rfl] at H; exact H
        clear H
        have H := H1
        clear H1
        by_cases c68 : 0 ≤ x10_2
        ·rw [if_pos c68] at H
         have c68b0 : decide (0 ≤ x10_2) = true := decide_eq_true c68
         clear c68
         replace H := Option.bind_eq_some_iff.mp H
         obtain ⟨⟨t169, t170, t173⟩, A690, H⟩ := H
         replace H : ((spec_l11Flow.f k2 t169 t170).bind fun t175 => (if t175 = true then (if x156000_2.length < 17592186044416 then (if x156001_2.length < 17592186044416 then ((spec_l1Least.f (rd l2 x10_2) t173).bind fun t183 => ((spec_l1Most.f t183 0).bind fun t184 => (spec_l11Run.l0 k2 l2 (wrap64 (x10_2 + 1)) a1_0 a1_1 a1_2 (x156000_2 ++ [t160]) (x156001_2 ++ [t169]) (wrap64 (x156002_2 + t184)) t169 t170))) else (none)) else (none)) else (some ((([] : List Int)), (([] : List Int)), 0, false)))) = some (r1, r2, r3, r4) := H
         have A69 := zA3 A690
         clear A690
         replace H := Option.bind_eq_some_iff.mp H
         obtain ⟨t175, A700, H⟩ := H
         replace H : (if t175 = true then (if x156000_2.length < 17592186044416 then (if x156001_2.length < 17592186044416 then ((spec_l1Least.f (rd l2 x10_2) t173).bind fun t183 => ((spec_l1Most.f t183 0).bind fun t184 => (spec_l11Run.l0 k2 l2 (wrap64 (x10_2 + 1)) a1_0 a1_1 a1_2 (x156000_2 ++ [t160]) (x156001_2 ++ [t169]) (wrap64 (x156002_2 + t184)) t169 t170))) else (none)) else (none)) else (some ((([] : List Int)), (([] : List Int)), 0, false))) = some (r1, r2, r3, r4) := H
         have A70 := zA3 A700
         clear A700
         by_cases c71 : t175 = true
         ·subst c71
          have H1 : (if x156000_2.length < 17592186044416 then (if x156001_2.length < 17592186044416 then ((spec_l1Least.f (rd l2 x10_2) t173).bind fun t183 => ((spec_l1Most.f t183 0).bind fun t184 => (spec_l11Run.l0 k2 l2 (wrap64 (x10_2 + 1)) a1_0 a1_1 a1_2 (x156000_2 ++ [t160]) (x156001_2 ++ [t169]) (wrap64 (x156002_2 + t184)) t169 t170))) else (none)) else (none)) = some (r1, r2, r3, r4) := by rw [if_pos rfl] at H; exact H
          clear H
          have H := H1
          clear H1
          by_cases c72 : x156000_2.length < 17592186044416
          ·rw [if_pos c72] at H
           have LMc72 := zA3 c72
           clear c72
           obtain ⟨y176, hy176⟩ : ∃ y_ : List Int, y_ = (x156000_2 ++ [t160]) := ⟨_, rfl⟩
           replace H : (if x156001_2.length < 17592186044416 then ((spec_l1Least.f (rd l2 x10_2) t173).bind fun t183 => ((spec_l1Most.f t183 0).bind fun t184 => (spec_l11Run.l0 k2 l2 (wrap64 (x10_2 + 1)) a1_0 a1_1 a1_2 y176 (x156001_2 ++ [t169]) (wrap64 (x156002_2 + t184)) t169 t170))) else (none)) = some (r1, r2, r3, r4) := by first | (rw [hy176]; with_reducible exact H) | (have H2_ := (Option.bind_some _ _).symm.trans H; rw [hy176]; with_reducible exact H2_) | (have H2_ := (Option.bind_some _ _).symm.trans H; with_reducible exact H2_) | with_reducible exact H | (rw [hy176]; exact H) | exact H
           have Ny176 := zA3 hy176
           clear hy176
           by_cases c73 : x156001_2.length < 17592186044416
           ·rw [if_pos c73] at H
            have LMc73 := zA3 c73
            clear c73
            obtain ⟨y179, hy179⟩ : ∃ y_ : List Int, y_ = (x156001_2 ++ [t169]) := ⟨_, rfl⟩
            replace H : ((spec_l1Least.f (rd l2 x10_2) t173).bind fun t183 => ((spec_l1Most.f t183 0).bind fun t184 => (spec_l11Run.l0 k2 l2 (wrap64 (x10_2 + 1)) a1_0 a1_1 a1_2 y176 y179 (wrap64 (x156002_2 + t184)) t169 t170))) = some (r1, r2, r3, r4) := by first | (rw [hy179]; with_reducible exact H) | (have H2_ := (Option.bind_some _ _).symm.trans H; rw [hy179]; with_reducible exact H2_) | (have H2_ := (Option.bind_some _ _).symm.trans H; with_reducible exact H2_) | with_reducible exact H | (rw [hy179]; exact H) | exact H
            have Ny179 := zA3 hy179
            clear hy179
            replace H := Option.bind_eq_some_iff.mp H
            obtain ⟨t183, A740, H⟩ := H
            replace H : ((spec_l1Most.f t183 0).bind fun t184 => (spec_l11Run.l0 k2 l2 (wrap64 (x10_2 + 1)) a1_0 a1_1 a1_2 y176 y179 (wrap64 (x156002_2 + t184)) t169 t170)) = some (r1, r2, r3, r4) := H
            have A74 := zA3 A740
            clear A740
            replace H := Option.bind_eq_some_iff.mp H
            obtain ⟨t184, A750, H⟩ := H
            replace H : (spec_l11Run.l0 k2 l2 (wrap64 (x10_2 + 1)) a1_0 a1_1 a1_2 y176 y179 (wrap64 (x156002_2 + t184)) t169 t170) = some (r1, r2, r3, r4) := H
            have A75 := zA3 A750
            clear A750
            have H' := zA3 H
            clear H
            have hnb76 := NB159_146.out
            have hnc76 := NB146_159.out
            have hnb77 := NB159_147.out
            have hnc77 := NB147_159.out
            have hnb78 := NB159_148.out
            have hnc78 := NB148_159.out
            have hnb79 := NB159_155.out
            have hnc79 := NB155_159.out
            have hcz80_0 : wr.cell? ⟨gb159, 0, none⟩ = some (.int .i64 x160000_2) := (blk_cell BK159.out 0).trans rfl
            have hcz80_1 : wr.cell? ⟨gb159, 1, none⟩ = some (u160001) := (blk_cell BK159.out 1).trans rfl
            have hfz80_0 := blk_frozen BK159.out 0
            have hfz80_1 := blk_frozen BK159.out 1
            have hnb81 := NB147_146.out
            have hnc81 := NB146_147.out
            have hnb82 := NB147_148.out
            have hnc82 := NB148_147.out
            have hnb83 := NB147_155.out
            have hnc83 := NB155_147.out
            have hcz84_0 : wr.cell? ⟨gb147, 0, none⟩ = some (.int .i64 a1_0) := (blk_cell BK147.out 0).trans rfl
            have hcz84_1 : wr.cell? ⟨gb147, 1, none⟩ = some (.int .i64 a1_1) := (blk_cell BK147.out 1).trans rfl
            have hcz84_2 : wr.cell? ⟨gb147, 2, none⟩ = some (.int .i64 a1_2) := (blk_cell BK147.out 2).trans rfl
            have hfz84_0 := blk_frozen BK147.out 0
            have hfz84_1 := blk_frozen BK147.out 1
            have hfz84_2 := blk_frozen BK147.out 2
            obtain ⟨Ao85, co85, eo85⟩ := Kd.V_slice HO_160001.out
            subst eo85
            try go_wp2_with (first | ((with_reducible refine gate_callee (f := 47) rfl ?_); refine goesL_ (some 42) rfl rfl Try.func47 (by kernel_rfl) rfl #[.agg #[.int .i64 x160000_2, .slice Ao85 x160001_2.length co85], .agg #[.int .i64 a1_0, .int .i64 a1_1, .int .i64 a1_2]] rfl (by (try simp only [List.map_toArray, List.map_cons, List.map_nil]); first | done | rfl | (simp only [List.length_drop, List.length_take]; rfl)) ?_; (with_reducible refine (spec_RuleOrder.calls k2 x160000_2 _ _ x160001_2 a1_0 a1_1 a1_2 t160 true _ ?side1 ?side2 A66.out).mono ?_); (case side1 => repeat (first | exact (Kd.V_reads' HO_160001.out).2.2 | (with_reducible refine Kd.C_alloc ?_ _) | (with_reducible refine Kd.C_drewN ?_ _) | (with_reducible refine Kd.C_drew ?_))); (case side2 => exact (Kd.V_reads' HO_160001.out).2.1); rintro e w86 ⟨rfl, hb⟩; refine ⟨_, rfl, ?_⟩; have n0_ := zA3 (Kd.V_below (by (with_reducible repeat (first | apply Kd.V_alloc | apply Kd.V_drewN | apply Kd.V_drew)); exact HO_147001.out) hb); have n1_ := zA3 (Kd.R_below (by (with_reducible repeat (first | apply Kd.R_alloc | apply Kd.R_drewN | apply Kd.R_drew)); exact HO_156000.out) hb); have n2_ := zA3 (Kd.R_below (by (with_reducible repeat (first | apply Kd.R_alloc | apply Kd.R_drewN | apply Kd.R_drew)); exact HO_156001.out) hb); have n3_ := zA3 (Kd.V_below (by (with_reducible repeat (first | apply Kd.V_alloc | apply Kd.V_drewN | apply Kd.V_drew)); exact HO_160001.out) hb); have n4_ := zA3 (blk_below (g := gb146) (o := .cells #[.int .i64 a0_0, .slice A0_1 l0_1.length c0_1] 30 (0, 0)) (by (with_reducible repeat (first | refine bN3 ?_ _ | refine bD3 ?_ | refine bA3 ?_ _)); exact BK146.out) hb); have n5_ := zA3 (blk_below (g := gb147) (o := .cells #[.int .i64 a1_0, .int .i64 a1_1, .int .i64 a1_2] 32 (0, 0)) (by (with_reducible repeat (first | refine bN3 ?_ _ | refine bD3 ?_ | refine bA3 ?_ _)); exact BK147.out) hb); have n6_ := zA3 (blk_below (g := gb148) (o := .cells #[.slice none 0 0, .slice none 0 0, .int .i64 x149002_2] 89 (0, 0)) (by (with_reducible repeat (first | refine bN3 ?_ _ | refine bD3 ?_ | refine bA3 ?_ _)); exact BK148.out) hb); have n7_ := zA3 (blk_below (g := gb155) (o := .cells #[u156000, u156001, .int .i64 x156002_2] 89 (0, 0)) (by (with_reducible repeat (first | refine bN3 ?_ _ | refine bD3 ?_ | refine bA3 ?_ _)); exact BK155.out) hb); have n8_ := zA3 (blk_below (g := gb159) (o := .cells #[.int .i64 x160000_2, .slice Ao85 x160001_2.length co85] 30 (0, 0)) (by (with_reducible repeat (first | refine bN3 ?_ _ | refine bD3 ?_ | refine bA3 ?_ _)); exact BK159.out) hb); have n9_ := zA3 (below_step (by repeat (first | (with_reducible first | exact HB.out | apply below_alloc | apply pw_below_drewN | apply below_drew1 | refine below_set ?_ GE146.out | refine below_set ?_ GE147.out | refine below_set ?_ GE148.out | refine below_set ?_ GE155.out | refine below_set ?_ GE159.out) | exact HB.out)) hb); clear HO_147001; clear HO_156000; clear HO_156001; clear HO_160001; clear BK146; clear BK147; clear BK148; clear BK155; clear BK159; clear HB; have HO_147001 := n0_; have HO_156000 := n1_; have HO_156001 := n2_; have HO_160001 := n3_; have BK146 := n4_; have BK147 := n5_; have BK148 := n6_; have BK155 := n7_; have BK159 := n8_; have HB := n9_; clear n0_ n1_ n2_ n3_ n4_ n5_ n6_ n7_ n8_ n9_; (try clear hb); (try clear hb2); (try clear hk); (try clear hi)))
            have n0_ := zA3 (Kd.V_drew HO_147001.out)
            have n1_ := zA3 (Kd.R_drew HO_156000.out)
            have n2_ := zA3 (Kd.R_drew HO_156001.out)
            have n3_ := zA3 (Kd.V_drew HO_160001.out)
            have n4_ := zA3 (blk_drew BK146.out)
            have n5_ := zA3 (blk_drew BK147.out)
            have n6_ := zA3 (blk_drew BK148.out)
            have n7_ := zA3 (blk_drew BK155.out)
            have n8_ := zA3 (blk_drew BK159.out)
            have n9_ := zA3 (below_drew1 HB.out)
            clear HO_147001
            clear HO_156000
            clear HO_156001
            clear HO_160001
            clear BK146
            clear BK147
            clear BK148
            clear BK155
            clear BK159
            clear HB
            have HO_147001 := n0_
            have HO_156000 := n1_
            have HO_156001 := n2_
            have HO_160001 := n3_
            have BK146 := n4_
            have BK147 := n5_
            have BK148 := n6_
            have BK155 := n7_
            have BK159 := n8_
            have HB := n9_
            clear n0_ n1_ n2_ n3_ n4_ n5_ n6_ n7_ n8_ n9_
            have p168 : 0 ≤ (x10_2 : Int) := of_decide_eq_true (by first | (with_reducible assumption) | assumption)
            have q168 : x10_2 < (l2.length : Int) := of_decide_eq_true (by first | (with_reducible assumption) | assumption)
            obtain ⟨ad168, e168, hx168_0⟩ := Kd.at_int HR2.out x10_2 p168 q168
            have hw168_0 := hx168_0
            cases e168
            replace hx168_0 := (HB.out.cell (World.block_lt_of_cell? w _ hx168_0)).trans hx168_0
            replace p168 := eq_true p168
            replace q168 := eq_true q168
            refine start_ (n := 13) (S := fun w' => w'.cell? ⟨gb159, 0, none⟩ = some (.int .i64 x160000_2) ∧ w'.cell? ⟨gb159, 1, none⟩ = some (.slice Ao85 x160001_2.length co85) ∧ w'.cell? (ad168.add (x10_2).toNat) = some (.int .i64 (rd l2 x10_2))) (ds := []) #[false, false, false, false, false, false, false, false, false, false, false, false, false] (by kernel_rfl) rfl rfl ⟨(blk_cell BK159.out 0).trans rfl, (blk_cell BK159.out 1).trans rfl, ((HB.out.cell (World.block_lt_of_cell? w _ hw168_0)).trans hw168_0)⟩ (fun hHeld => ?_); refine with_tabW spec_l11Run.tab11 spec_l11Run.bits11 (fun HT_ HW_ => ?_)
            generalize w86.drew = w87 at HO_147001 HO_156000 HO_156001 HO_160001 BK146 BK147 BK148 BK155 BK159 HB hx168_0 hHeld ⊢
            refine pure_ (i := 1) (N := some 52) (v := ?_) (a' := ?_) #[false, true, false, false, false, false, false, false, false, false, false, false, false] rfl rfl (any_of HT_.out (by kernel_rfl)) (fun _ _ _ h => h) (Or.inl ⟨by rfl, ?_⟩) ?_ ?_
            rotate_left
            ·intro w'
             go_simp
             with_reducible rfl
            rotate_left
            ·simp only [Act.put, List.setIfInBounds_toArray, List.set_cons_zero, List.set_cons_succ, i64_w, i32_w]
             rfl
            refine pure_ (i := 2) (N := some 53) (v := ?_) (a' := ?_) #[false, true, true, false, false, false, false, false, false, false, false, false, false] rfl rfl (any_of HT_.out (by kernel_rfl)) (fun _ _ _ h => h) (Or.inl ⟨by rfl, ?_⟩) ?_ ?_
            rotate_left
            ·intro w'
             go_simp
             with_reducible rfl
            rotate_left
            ·simp only [Act.put, List.setIfInBounds_toArray, List.set_cons_zero, List.set_cons_succ, i64_w, i32_w]
             rfl
            refine pure_ (i := 3) (N := some 54) (v := ?_) (a' := ?_) #[false, true, true, true, false, false, false, false, false, false, false, false, false] rfl rfl (any_of HT_.out (by kernel_rfl)) (fun _ _ _ h => h) (Or.inl ⟨by rfl, ?_⟩) ?_ ?_
            rotate_left
            ·intro w'
             go_simp
             with_reducible rfl
            rotate_left
            ·simp only [Act.put, List.setIfInBounds_toArray, List.set_cons_zero, List.set_cons_succ, i64_w, i32_w]
             rfl
            refine pure_ (i := 4) (N := some 55) (v := ?_) (a' := ?_) #[false, true, true, true, true, false, false, false, false, false, false, false, false] rfl rfl (any_of HT_.out (by kernel_rfl)) (fun _ _ _ h => h) (Or.inl ⟨by rfl, ?_⟩) ?_ ?_
            rotate_left
            ·intro w'
             go_simp
             with_reducible rfl
            rotate_left
            ·simp only [Act.put, List.setIfInBounds_toArray, List.set_cons_zero, List.set_cons_succ, i64_w, i32_w]
             rfl
            refine take_ (i := 0) (N := some 51) (v := ?_) (a' := ?_) #[true, true, true, true, true, false, false, false, false, false, false, false, false] rfl rfl (take_ofW HT_.out HW_.out (by kernel_rfl)) (fun _ _ _ h => h) (Or.inl ⟨by rfl, ?_⟩) hHeld ?_ ?_
            rotate_left
            ·rintro w' ⟨s0, s1, s2⟩
             go_simp
             with_reducible rfl
            rotate_left
            ·simp only [Act.put, List.setIfInBounds_toArray, List.set_cons_zero, List.set_cons_succ, i64_w, i32_w]
             rfl
            refine take_ (i := 5) (N := some 56) (v := ?_) (a' := ?_) #[true, true, true, true, true, true, false, false, false, false, false, false, false] rfl rfl (take_ofW HT_.out HW_.out (by kernel_rfl)) (fun _ _ _ h => h) (Or.inl ⟨by rfl, ?_⟩) hHeld ?_ ?_
            rotate_left
            ·rintro w' ⟨s0, s1, s2⟩
             go_simp
             with_reducible rfl
            rotate_left
            ·simp only [Act.put, List.setIfInBounds_toArray, List.set_cons_zero, List.set_cons_succ, i64_w, i32_w]
             rfl
            refine join_ (σ := Value × Nat) 2 #[true, true, true, true, true, true, true, true, true, true, true, false, false] (fun s_ => [(57, .tuple #[.agg #[.int .i64 t169, s_.1], .int .i64 t173]), (13, .pointer (some ⟨s_.2, 0, none⟩)), (50, .tuple #[.agg #[.int .i64 t169, s_.1], .int .i64 t173]), (58, .agg #[.int .i64 t169, s_.1]), (59, .int .i64 t173)]) (fun s_ w' => (w'.cell? ⟨gb159, 0, none⟩ = some (.int .i64 x160000_2) ∧ w'.cell? ⟨gb159, 1, none⟩ = some (.slice Ao85 x160001_2.length co85) ∧ w'.cell? (ad168.add (x10_2).toNat) = some (.int .i64 (rd l2 x10_2))) ∧ (Kd.R (Kd.int .i64) 3 w' w.heap.size (fun k_ => (w.heap.size ≤ k_) ∧ some k_ ≠ (u156000 : Value).ownBlock ∧ some k_ ≠ (u156001 : Value).ownBlock) s_.1 t170) ∧ (Kd.V (Kd.int .i64) 3 w' w.heap.size (fun k_ => (P0_1_ k_ ∨ w.heap.size ≤ k_) ∧ some k_ ≠ (s_.1 : Value).ownBlock ∧ some k_ ≠ (u156000 : Value).ownBlock ∧ some k_ ≠ (u156001 : Value).ownBlock ∧ k_ ≠ gb146 ∧ k_ ≠ gb147 ∧ k_ ≠ gb148 ∧ k_ ≠ gb155 ∧ k_ ≠ gb159 ∧ k_ ≠ s_.2) (.slice A0_1 l0_1.length c0_1) l0_1) ∧ (Kd.R (Kd.int .i64) 3 w' w.heap.size (fun k_ => (w.heap.size ≤ k_) ∧ some k_ ≠ (s_.1 : Value).ownBlock ∧ some k_ ≠ (u156001 : Value).ownBlock) u156000 x156000_2) ∧ (Kd.R (Kd.int .i64) 3 w' w.heap.size (fun k_ => (w.heap.size ≤ k_) ∧ some k_ ≠ (s_.1 : Value).ownBlock ∧ some k_ ≠ (u156000 : Value).ownBlock) u156001 x156001_2) ∧ (Kd.V (Kd.int .i64) 3 w' w.heap.size (fun k_ => (P0_1_ k_ ∨ w.heap.size ≤ k_) ∧ some k_ ≠ (s_.1 : Value).ownBlock ∧ some k_ ≠ (u156000 : Value).ownBlock ∧ some k_ ≠ (u156001 : Value).ownBlock ∧ k_ ≠ gb146 ∧ k_ ≠ gb147 ∧ k_ ≠ gb148 ∧ k_ ≠ gb155 ∧ k_ ≠ gb159 ∧ k_ ≠ s_.2) (.slice Ao85 x160001_2.length co85) x160001_2) ∧ (w'.heap[gb146]? = some (.cells #[.int .i64 a0_0, .slice A0_1 l0_1.length c0_1] 30 (0, 0))) ∧ (w'.heap[gb147]? = some (.cells #[.int .i64 a1_0, .int .i64 a1_1, .int .i64 a1_2] 32 (0, 0))) ∧ (w'.heap[gb148]? = some (.cells #[.slice none 0 0, .slice none 0 0, .int .i64 x149002_2] 89 (0, 0))) ∧ (w'.heap[gb155]? = some (.cells #[u156000, u156001, .int .i64 x156002_2] 89 (0, 0))) ∧ (w'.heap[gb159]? = some (.cells #[.int .i64 x160000_2, .slice Ao85 x160001_2.length co85] 30 (0, 0))) ∧ (w'.heap[s_.2]? = some (.cells #[.int .i64 0, .slice none 0 0] 30 (0, 0))) ∧ (w.heap.size ≤ s_.2) ∧ (w.heap.size ≤ s_.2) ∧ (gb146 ≠ s_.2) ∧ (s_.2 ≠ gb146) ∧ (gb147 ≠ s_.2) ∧ (s_.2 ≠ gb147) ∧ (gb148 ≠ s_.2) ∧ (s_.2 ≠ gb148) ∧ (gb155 ≠ s_.2) ∧ (s_.2 ≠ gb155) ∧ (gb159 ≠ s_.2) ∧ (s_.2 ≠ gb159) ∧ (Below w.heap.size w w')) ?_ ?_
            rotate_left
            ·intro hCont
             refine two_ (i := 6) (j := 10) (Ni := some 57) (Nj := some 13) #[true, true, true, true, true, true, true, false, false, false, false, false, false] #[true, true, true, true, true, true, false, false, false, false, true, false, false] rfl rfl rfl rfl (two_of HT_.out (by kernel_rfl)) (by decide) (by decide) (fun K hK => ?_) (fun K hK => ?_)
             ·skip
              refine goes_ Try.func79 (by kernel_rfl) rfl #[.agg #[.int .i64 x160000_2, .slice Ao85 x160001_2.length co85], .int .i64 t160, .int .i64 (rd l2 x10_2)] (by rfl) rfl rfl (by (try simp only [List.map_toArray, List.map_cons, List.map_nil]); first | done | rfl | (simp only [List.length_drop, List.length_take]; rfl)) ?_
              with_reducible refine (spec_l11Day.calls x160000_2 _ _ x160001_2 t160 (rd l2 x10_2) t169 t170 t173 _ ?side1 ?side2 A69.out).mono ?_
              (case side1 => repeat (first | exact (Kd.V_reads' HO_160001.out).2.2 | (with_reducible refine Kd.C_alloc ?_ _) | (with_reducible refine Kd.C_drewN ?_ _) | (with_reducible refine Kd.C_drew ?_)))
              (case side2 => exact (Kd.V_reads' HO_160001.out).2.1)
              rintro e w88 ⟨v171, rfl, ho0, hb⟩
              refine ⟨_, rfl, ?_⟩
              have n0_ := zA3 (Kd.V_elder' (by (with_reducible repeat (first | apply Kd.V_alloc | apply Kd.V_drewN | apply Kd.V_drew)); exact HO_147001.out) (Kd.R_base ho0) hb)
              have n1_ := zA3 (Kd.R_elder' (by (with_reducible repeat (first | apply Kd.R_alloc | apply Kd.R_drewN | apply Kd.R_drew)); exact HO_156000.out) (Kd.R_base ho0) hb)
              have n2_ := zA3 (Kd.R_elder' (by (with_reducible repeat (first | apply Kd.R_alloc | apply Kd.R_drewN | apply Kd.R_drew)); exact HO_156001.out) (Kd.R_base ho0) hb)
              have n3_ := zA3 (Kd.V_elder' (by (with_reducible repeat (first | apply Kd.V_alloc | apply Kd.V_drewN | apply Kd.V_drew)); exact HO_160001.out) (Kd.R_base ho0) hb)
              have n4_ := zA3 (Kd.R_lower (Kd.R_new' (Kd.R_new' (Kd.R_newM (M := fun k_ => (w.heap.size ≤ k_)) ho0 (below_size (by repeat (first | (with_reducible first | exact HB.out | apply below_alloc | apply pw_below_drewN | apply below_drew1 | refine below_set ?_ GE146.out | refine below_set ?_ GE147.out | refine below_set ?_ GE148.out | refine below_set ?_ GE155.out | refine below_set ?_ GE159.out) | exact HB.out))) (fun k_ h_ => h_)) (Kd.R_lt (by (with_reducible repeat (first | apply Kd.R_alloc | apply Kd.R_drewN | apply Kd.R_drew)); exact HO_156000.out))) (Kd.R_lt (by (with_reducible repeat (first | apply Kd.R_alloc | apply Kd.R_drewN | apply Kd.R_drew)); exact HO_156001.out))) (below_size (by repeat (first | (with_reducible first | exact HB.out | apply below_alloc | apply pw_below_drewN | apply below_drew1 | refine below_set ?_ GE146.out | refine below_set ?_ GE147.out | refine below_set ?_ GE148.out | refine below_set ?_ GE155.out | refine below_set ?_ GE159.out) | exact HB.out))))
              have n5_ := zA3 (blk_below (g := gb146) (o := .cells #[.int .i64 a0_0, .slice A0_1 l0_1.length c0_1] 30 (0, 0)) (by (with_reducible repeat (first | refine bN3 ?_ _ | refine bD3 ?_ | refine bA3 ?_ _)); exact BK146.out) hb)
              have n6_ := zA3 (blk_below (g := gb147) (o := .cells #[.int .i64 a1_0, .int .i64 a1_1, .int .i64 a1_2] 32 (0, 0)) (by (with_reducible repeat (first | refine bN3 ?_ _ | refine bD3 ?_ | refine bA3 ?_ _)); exact BK147.out) hb)
              have n7_ := zA3 (blk_below (g := gb148) (o := .cells #[.slice none 0 0, .slice none 0 0, .int .i64 x149002_2] 89 (0, 0)) (by (with_reducible repeat (first | refine bN3 ?_ _ | refine bD3 ?_ | refine bA3 ?_ _)); exact BK148.out) hb)
              have n8_ := zA3 (blk_below (g := gb155) (o := .cells #[u156000, u156001, .int .i64 x156002_2] 89 (0, 0)) (by (with_reducible repeat (first | refine bN3 ?_ _ | refine bD3 ?_ | refine bA3 ?_ _)); exact BK155.out) hb)
              have n9_ := zA3 (blk_below (g := gb159) (o := .cells #[.int .i64 x160000_2, .slice Ao85 x160001_2.length co85] 30 (0, 0)) (by (with_reducible repeat (first | refine bN3 ?_ _ | refine bD3 ?_ | refine bA3 ?_ _)); exact BK159.out) hb)
              have n10_ := zA3 (below_step (by repeat (first | (with_reducible first | exact HB.out | apply below_alloc | apply pw_below_drewN | apply below_drew1 | refine below_set ?_ GE146.out | refine below_set ?_ GE147.out | refine below_set ?_ GE148.out | refine below_set ?_ GE155.out | refine below_set ?_ GE159.out) | exact HB.out)) hb)
              clear HO_147001
              clear HO_156000
              clear HO_156001
              clear HO_160001
              clear BK146
              clear BK147
              clear BK148
              clear BK155
              clear BK159
              clear HB
              have HO_147001 := n0_
              have HO_156000 := n1_
              have HO_156001 := n2_
              have HO_160001 := n3_
              have HO172 := n4_
              have BK146 := n5_
              have BK147 := n6_
              have BK148 := n7_
              have BK155 := n8_
              have BK159 := n9_
              have HB := n10_
              clear n0_ n1_ n2_ n3_ n4_ n5_ n6_ n7_ n8_ n9_ n10_
              (try clear hb)
              (try clear hb2)
              (try clear hk)
              (try clear hi)
              (try clear ho0)
              refine hK.out _ _ ⟨(blk_cell BK159.out 0).trans rfl, (blk_cell BK159.out 1).trans rfl, ((HB.out.cell (World.block_lt_of_cell? w _ hw168_0)).trans hw168_0)⟩ (fun hHeld => ?_)
              clear hK K
              refine norm_ (a' := ?_) ?_ ?_
              rotate_left
              ·show Act.put _ (some 57) _ = _
               simp only [Act.put, List.setIfInBounds_toArray, List.set_cons_zero, List.set_cons_succ, i64_w, i32_w]
               rfl
              refine pure_ (i := 7) (N := some 50) (v := ?_) (a' := ?_) #[true, true, true, true, true, true, true, true, false, false, false, false, false] rfl rfl (any_of HT_.out (by kernel_rfl)) (fun _ _ _ h => h) (Or.inl ⟨by rfl, ?_⟩) ?_ ?_
              rotate_left
              ·intro w'
               go_simp
               with_reducible rfl
              rotate_left
              ·simp only [Act.put, List.setIfInBounds_toArray, List.set_cons_zero, List.set_cons_succ, i64_w, i32_w]
               rfl
              refine pure_ (i := 8) (N := some 58) (v := ?_) (a' := ?_) #[true, true, true, true, true, true, true, true, true, false, false, false, false] rfl rfl (any_of HT_.out (by kernel_rfl)) (fun _ _ _ h => h) (Or.inl ⟨by rfl, ?_⟩) ?_ ?_
              rotate_left
              ·intro w'
               go_simp
               with_reducible rfl
              rotate_left
              ·simp only [Act.put, List.setIfInBounds_toArray, List.set_cons_zero, List.set_cons_succ, i64_w, i32_w]
               rfl
              refine pure_ (i := 9) (N := some 59) (v := ?_) (a' := ?_) #[true, true, true, true, true, true, true, true, true, true, false, false, false] rfl rfl (any_of HT_.out (by kernel_rfl)) (fun _ _ _ h => h) (Or.inl ⟨by rfl, ?_⟩) ?_ ?_
              rotate_left
              ·intro w'
               go_simp
               with_reducible rfl
              rotate_left
              ·simp only [Act.put, List.setIfInBounds_toArray, List.set_cons_zero, List.set_cons_succ, i64_w, i32_w]
               rfl
              refine one_ (i := 10) (N := some 13) #[true, true, true, true, true, true, true, true, true, true, true, false, false] rfl rfl (one_of HT_.out (by kernel_rfl)) (by decide) (fun K hK => ?_)
              refine box_step ?hg (N := 13) ?hd (cs := #[.int .i64 0, .slice none 0 0]) (t := 30) ?hr ?_; (case hd => rfl); (case hg => rfl); (case hr => first | (go_simp; done) | (go_simp; rfl))
              intro gb174 hg w89 hbox hb
              have n0_ := zA3 (Kd.V_below (Kd.V_elderB (by (with_reducible repeat (first | apply Kd.V_alloc | apply Kd.V_drewN | apply Kd.V_drew)); exact HO_147001.out) gb174 (Nat.le_of_eq hg.symm)) hb)
              have n1_ := zA3 (Kd.R_below (by (with_reducible repeat (first | apply Kd.R_alloc | apply Kd.R_drewN | apply Kd.R_drew)); exact HO_156000.out) hb)
              have n2_ := zA3 (Kd.R_below (by (with_reducible repeat (first | apply Kd.R_alloc | apply Kd.R_drewN | apply Kd.R_drew)); exact HO_156001.out) hb)
              have n3_ := zA3 (Kd.V_below (Kd.V_elderB (by (with_reducible repeat (first | apply Kd.V_alloc | apply Kd.V_drewN | apply Kd.V_drew)); exact HO_160001.out) gb174 (Nat.le_of_eq hg.symm)) hb)
              have n4_ := zA3 (Kd.R_below (by (with_reducible repeat (first | apply Kd.R_alloc | apply Kd.R_drewN | apply Kd.R_drew)); exact HO172.out) hb)
              have n5_ := zA3 (blk_below (g := gb146) (o := .cells #[.int .i64 a0_0, .slice A0_1 l0_1.length c0_1] 30 (0, 0)) (by (with_reducible repeat (first | refine bN3 ?_ _ | refine bD3 ?_ | refine bA3 ?_ _)); exact BK146.out) hb)
              have n6_ := zA3 (blk_below (g := gb147) (o := .cells #[.int .i64 a1_0, .int .i64 a1_1, .int .i64 a1_2] 32 (0, 0)) (by (with_reducible repeat (first | refine bN3 ?_ _ | refine bD3 ?_ | refine bA3 ?_ _)); exact BK147.out) hb)
              have n7_ := zA3 (blk_below (g := gb148) (o := .cells #[.slice none 0 0, .slice none 0 0, .int .i64 x149002_2] 89 (0, 0)) (by (with_reducible repeat (first | refine bN3 ?_ _ | refine bD3 ?_ | refine bA3 ?_ _)); exact BK148.out) hb)
              have n8_ := zA3 (blk_below (g := gb155) (o := .cells #[u156000, u156001, .int .i64 x156002_2] 89 (0, 0)) (by (with_reducible repeat (first | refine bN3 ?_ _ | refine bD3 ?_ | refine bA3 ?_ _)); exact BK155.out) hb)
              have n9_ := zA3 (blk_below (g := gb159) (o := .cells #[.int .i64 x160000_2, .slice Ao85 x160001_2.length co85] 30 (0, 0)) (by (with_reducible repeat (first | refine bN3 ?_ _ | refine bD3 ?_ | refine bA3 ?_ _)); exact BK159.out) hb)
              have n10_ := zA3 (below_step (by repeat (first | (with_reducible first | exact HB.out | apply below_alloc | apply pw_below_drewN | apply below_drew1 | refine below_set ?_ GE146.out | refine below_set ?_ GE147.out | refine below_set ?_ GE148.out | refine below_set ?_ GE155.out | refine below_set ?_ GE159.out) | exact HB.out)) hb)
              have n11_ := zA3 (hbox)
              have n12_ := zA3 ((by rw [hg]; exact (below_size (by repeat (first | (with_reducible first | exact HB.out | apply below_alloc | apply pw_below_drewN | apply below_drew1 | refine below_set ?_ GE146.out | refine below_set ?_ GE147.out | refine below_set ?_ GE148.out | refine below_set ?_ GE155.out | refine below_set ?_ GE159.out) | exact HB.out))) : w.heap.size ≤ gb174))
              have n13_ := zA3 ((by rw [hg]; exact (below_size (by repeat (first | (with_reducible first | exact HB.out | apply below_alloc | apply pw_below_drewN | apply below_drew1 | refine below_set ?_ GE146.out | refine below_set ?_ GE147.out | refine below_set ?_ GE148.out | refine below_set ?_ GE155.out | refine below_set ?_ GE159.out) | exact HB.out))) : w.heap.size ≤ gb174))
              have n14_ := zA3 ((by rw [hg]; exact Nat.ne_of_lt (blk_lt (g := gb146) (o := .cells #[.int .i64 a0_0, .slice A0_1 l0_1.length c0_1] 30 (0, 0)) (by (with_reducible repeat (first | refine bN3 ?_ _ | refine bD3 ?_ | refine bA3 ?_ _)); exact BK146.out)) : gb146 ≠ gb174))
              have n15_ := zA3 ((by rw [hg]; exact Nat.ne_of_gt (blk_lt (g := gb146) (o := .cells #[.int .i64 a0_0, .slice A0_1 l0_1.length c0_1] 30 (0, 0)) (by (with_reducible repeat (first | refine bN3 ?_ _ | refine bD3 ?_ | refine bA3 ?_ _)); exact BK146.out)) : gb174 ≠ gb146))
              have n16_ := zA3 ((by rw [hg]; exact Nat.ne_of_lt (blk_lt (g := gb147) (o := .cells #[.int .i64 a1_0, .int .i64 a1_1, .int .i64 a1_2] 32 (0, 0)) (by (with_reducible repeat (first | refine bN3 ?_ _ | refine bD3 ?_ | refine bA3 ?_ _)); exact BK147.out)) : gb147 ≠ gb174))
              have n17_ := zA3 ((by rw [hg]; exact Nat.ne_of_gt (blk_lt (g := gb147) (o := .cells #[.int .i64 a1_0, .int .i64 a1_1, .int .i64 a1_2] 32 (0, 0)) (by (with_reducible repeat (first | refine bN3 ?_ _ | refine bD3 ?_ | refine bA3 ?_ _)); exact BK147.out)) : gb174 ≠ gb147))
              have n18_ := zA3 ((by rw [hg]; exact Nat.ne_of_lt (blk_lt (g := gb148) (o := .cells #[.slice none 0 0, .slice none 0 0, .int .i64 x149002_2] 89 (0, 0)) (by (with_reducible repeat (first | refine bN3 ?_ _ | refine bD3 ?_ | refine bA3 ?_ _)); exact BK148.out)) : gb148 ≠ gb174))
              have n19_ := zA3 ((by rw [hg]; exact Nat.ne_of_gt (blk_lt (g := gb148) (o := .cells #[.slice none 0 0, .slice none 0 0, .int .i64 x149002_2] 89 (0, 0)) (by (with_reducible repeat (first | refine bN3 ?_ _ | refine bD3 ?_ | refine bA3 ?_ _)); exact BK148.out)) : gb174 ≠ gb148))
              have n20_ := zA3 ((by rw [hg]; exact Nat.ne_of_lt (blk_lt (g := gb155) (o := .cells #[u156000, u156001, .int .i64 x156002_2] 89 (0, 0)) (by (with_reducible repeat (first | refine bN3 ?_ _ | refine bD3 ?_ | refine bA3 ?_ _)); exact BK155.out)) : gb155 ≠ gb174))
              have n21_ := zA3 ((by rw [hg]; exact Nat.ne_of_gt (blk_lt (g := gb155) (o := .cells #[u156000, u156001, .int .i64 x156002_2] 89 (0, 0)) (by (with_reducible repeat (first | refine bN3 ?_ _ | refine bD3 ?_ | refine bA3 ?_ _)); exact BK155.out)) : gb174 ≠ gb155))
              have n22_ := zA3 ((by rw [hg]; exact Nat.ne_of_lt (blk_lt (g := gb159) (o := .cells #[.int .i64 x160000_2, .slice Ao85 x160001_2.length co85] 30 (0, 0)) (by (with_reducible repeat (first | refine bN3 ?_ _ | refine bD3 ?_ | refine bA3 ?_ _)); exact BK159.out)) : gb159 ≠ gb174))
              have n23_ := zA3 ((by rw [hg]; exact Nat.ne_of_gt (blk_lt (g := gb159) (o := .cells #[.int .i64 x160000_2, .slice Ao85 x160001_2.length co85] 30 (0, 0)) (by (with_reducible repeat (first | refine bN3 ?_ _ | refine bD3 ?_ | refine bA3 ?_ _)); exact BK159.out)) : gb174 ≠ gb159))
              clear HO_147001
              clear HO_156000
              clear HO_156001
              clear HO_160001
              clear HO172
              clear BK146
              clear BK147
              clear BK148
              clear BK155
              clear BK159
              clear HB
              have HO_147001 := n0_
              have HO_156000 := n1_
              have HO_156001 := n2_
              have HO_160001 := n3_
              have HO172 := n4_
              have BK146 := n5_
              have BK147 := n6_
              have BK148 := n7_
              have BK155 := n8_
              have BK159 := n9_
              have HB := n10_
              have BK174 := n11_
              have GW174 := n12_
              have GE174 := n13_
              have NB146_174 := n14_
              have NB174_146 := n15_
              have NB147_174 := n16_
              have NB174_147 := n17_
              have NB148_174 := n18_
              have NB174_148 := n19_
              have NB155_174 := n20_
              have NB174_155 := n21_
              have NB159_174 := n22_
              have NB174_159 := n23_
              clear n0_ n1_ n2_ n3_ n4_ n5_ n6_ n7_ n8_ n9_ n10_ n11_ n12_ n13_ n14_ n15_ n16_ n17_ n18_ n19_ n20_ n21_ n22_ n23_
              clear hb hbox hg
              refine hK.out _ _ ⟨(blk_cell BK159.out 0).trans rfl, (blk_cell BK159.out 1).trans rfl, ((HB.out.cell (World.block_lt_of_cell? w _ hw168_0)).trans hw168_0)⟩ (fun hHeld => ?_)
              clear hK K
              refine norm_ (a' := ?_) ?_ ?_
              rotate_left
              ·show Act.put _ (some 13) _ = _
               simp only [Act.put, List.setIfInBounds_toArray, List.set_cons_zero, List.set_cons_succ, i64_w, i32_w]
               rfl
              exact norm_ (by simp only [putAll, Act.put, List.setIfInBounds_toArray, List.set_cons_zero, List.set_cons_succ]) (hCont (v171, gb174) _ ⟨hHeld, (by (with_reducible repeat (first | apply Kd.R_alloc | apply Kd.R_drewN | apply Kd.R_drew)); exact Kd.R_mono HO172.out (fun _ hk => ⟨hk.1.1.1, ⟨hk.1.2, hk.2⟩⟩)), (by (with_reducible repeat (first | apply Kd.V_alloc | apply Kd.V_drewN | apply Kd.V_drew)); exact Kd.V_mono HO_147001.out (fun _ hk => ⟨hk.1.1.1, ⟨hk.1.2, ⟨hk.1.1.2.1, ⟨hk.1.1.2.2.1, ⟨hk.1.1.2.2.2.1, ⟨hk.1.1.2.2.2.2.1, ⟨hk.1.1.2.2.2.2.2.1, ⟨hk.1.1.2.2.2.2.2.2.1, ⟨hk.1.1.2.2.2.2.2.2.2, hk.2⟩⟩⟩⟩⟩⟩⟩⟩⟩)), (by (with_reducible repeat (first | apply Kd.R_alloc | apply Kd.R_drewN | apply Kd.R_drew)); exact Kd.R_mono HO_156000.out (fun _ hk => ⟨hk.1.1, ⟨hk.2, hk.1.2⟩⟩)), (by (with_reducible repeat (first | apply Kd.R_alloc | apply Kd.R_drewN | apply Kd.R_drew)); exact Kd.R_mono HO_156001.out (fun _ hk => ⟨hk.1.1, ⟨hk.2, hk.1.2⟩⟩)), (by (with_reducible repeat (first | apply Kd.V_alloc | apply Kd.V_drewN | apply Kd.V_drew)); exact Kd.V_mono HO_160001.out (fun _ hk => ⟨hk.1.1.1, ⟨hk.1.2, ⟨hk.1.1.2.1, ⟨hk.1.1.2.2.1, ⟨hk.1.1.2.2.2.1, ⟨hk.1.1.2.2.2.2.1, ⟨hk.1.1.2.2.2.2.2.1, ⟨hk.1.1.2.2.2.2.2.2.1, ⟨hk.1.1.2.2.2.2.2.2.2, hk.2⟩⟩⟩⟩⟩⟩⟩⟩⟩)), (by (with_reducible repeat (first | refine bN3 ?_ _ | refine bD3 ?_ | refine bA3 ?_ _)); exact BK146.out), (by (with_reducible repeat (first | refine bN3 ?_ _ | refine bD3 ?_ | refine bA3 ?_ _)); exact BK147.out), (by (with_reducible repeat (first | refine bN3 ?_ _ | refine bD3 ?_ | refine bA3 ?_ _)); exact BK148.out), (by (with_reducible repeat (first | refine bN3 ?_ _ | refine bD3 ?_ | refine bA3 ?_ _)); exact BK155.out), (by (with_reducible repeat (first | refine bN3 ?_ _ | refine bD3 ?_ | refine bA3 ?_ _)); exact BK159.out), (by (with_reducible repeat (first | refine bN3 ?_ _ | refine bD3 ?_ | refine bA3 ?_ _)); exact BK174.out), GW174.out, GE174.out, NB146_174.out, NB174_146.out, NB147_174.out, NB174_147.out, NB148_174.out, NB174_148.out, NB155_174.out, NB174_155.out, NB159_174.out, NB174_159.out, (by repeat (first | (with_reducible first | exact HB.out | apply below_alloc | apply pw_below_drewN | apply below_drew1 | refine below_set ?_ GE146.out | refine below_set ?_ GE147.out | refine below_set ?_ GE148.out | refine below_set ?_ GE155.out | refine below_set ?_ GE159.out | refine below_set ?_ GE174.out) | exact HB.out))⟩)
             ·skip
              refine box_step ?hg (N := 13) ?hd (cs := #[.int .i64 0, .slice none 0 0]) (t := 30) ?hr ?_; (case hd => rfl); (case hg => rfl); (case hr => first | (go_simp; done) | (go_simp; rfl))
              intro gb174 hg w88 hbox hb
              have n0_ := zA3 (Kd.V_below (Kd.V_elderB (by (with_reducible repeat (first | apply Kd.V_alloc | apply Kd.V_drewN | apply Kd.V_drew)); exact HO_147001.out) gb174 (Nat.le_of_eq hg.symm)) hb)
              have n1_ := zA3 (Kd.R_below (by (with_reducible repeat (first | apply Kd.R_alloc | apply Kd.R_drewN | apply Kd.R_drew)); exact HO_156000.out) hb)
              have n2_ := zA3 (Kd.R_below (by (with_reducible repeat (first | apply Kd.R_alloc | apply Kd.R_drewN | apply Kd.R_drew)); exact HO_156001.out) hb)
              have n3_ := zA3 (Kd.V_below (Kd.V_elderB (by (with_reducible repeat (first | apply Kd.V_alloc | apply Kd.V_drewN | apply Kd.V_drew)); exact HO_160001.out) gb174 (Nat.le_of_eq hg.symm)) hb)
              have n4_ := zA3 (blk_below (g := gb146) (o := .cells #[.int .i64 a0_0, .slice A0_1 l0_1.length c0_1] 30 (0, 0)) (by (with_reducible repeat (first | refine bN3 ?_ _ | refine bD3 ?_ | refine bA3 ?_ _)); exact BK146.out) hb)
              have n5_ := zA3 (blk_below (g := gb147) (o := .cells #[.int .i64 a1_0, .int .i64 a1_1, .int .i64 a1_2] 32 (0, 0)) (by (with_reducible repeat (first | refine bN3 ?_ _ | refine bD3 ?_ | refine bA3 ?_ _)); exact BK147.out) hb)
              have n6_ := zA3 (blk_below (g := gb148) (o := .cells #[.slice none 0 0, .slice none 0 0, .int .i64 x149002_2] 89 (0, 0)) (by (with_reducible repeat (first | refine bN3 ?_ _ | refine bD3 ?_ | refine bA3 ?_ _)); exact BK148.out) hb)
              have n7_ := zA3 (blk_below (g := gb155) (o := .cells #[u156000, u156001, .int .i64 x156002_2] 89 (0, 0)) (by (with_reducible repeat (first | refine bN3 ?_ _ | refine bD3 ?_ | refine bA3 ?_ _)); exact BK155.out) hb)
              have n8_ := zA3 (blk_below (g := gb159) (o := .cells #[.int .i64 x160000_2, .slice Ao85 x160001_2.length co85] 30 (0, 0)) (by (with_reducible repeat (first | refine bN3 ?_ _ | refine bD3 ?_ | refine bA3 ?_ _)); exact BK159.out) hb)
              have n9_ := zA3 (below_step (by repeat (first | (with_reducible first | exact HB.out | apply below_alloc | apply pw_below_drewN | apply below_drew1 | refine below_set ?_ GE146.out | refine below_set ?_ GE147.out | refine below_set ?_ GE148.out | refine below_set ?_ GE155.out | refine below_set ?_ GE159.out) | exact HB.out)) hb)
              have n10_ := zA3 (hbox)
              have n11_ := zA3 ((by rw [hg]; exact (below_size (by repeat (first | (with_reducible first | exact HB.out | apply below_alloc | apply pw_below_drewN | apply below_drew1 | refine below_set ?_ GE146.out | refine below_set ?_ GE147.out | refine below_set ?_ GE148.out | refine below_set ?_ GE155.out | refine below_set ?_ GE159.out) | exact HB.out))) : w.heap.size ≤ gb174))
              have n12_ := zA3 ((by rw [hg]; exact (below_size (by repeat (first | (with_reducible first | exact HB.out | apply below_alloc | apply pw_below_drewN | apply below_drew1 | refine below_set ?_ GE146.out | refine below_set ?_ GE147.out | refine below_set ?_ GE148.out | refine below_set ?_ GE155.out | refine below_set ?_ GE159.out) | exact HB.out))) : w.heap.size ≤ gb174))
              have n13_ := zA3 ((by rw [hg]; exact Nat.ne_of_lt (blk_lt (g := gb146) (o := .cells #[.int .i64 a0_0, .slice A0_1 l0_1.length c0_1] 30 (0, 0)) (by (with_reducible repeat (first | refine bN3 ?_ _ | refine bD3 ?_ | refine bA3 ?_ _)); exact BK146.out)) : gb146 ≠ gb174))
              have n14_ := zA3 ((by rw [hg]; exact Nat.ne_of_gt (blk_lt (g := gb146) (o := .cells #[.int .i64 a0_0, .slice A0_1 l0_1.length c0_1] 30 (0, 0)) (by (with_reducible repeat (first | refine bN3 ?_ _ | refine bD3 ?_ | refine bA3 ?_ _)); exact BK146.out)) : gb174 ≠ gb146))
              have n15_ := zA3 ((by rw [hg]; exact Nat.ne_of_lt (blk_lt (g := gb147) (o := .cells #[.int .i64 a1_0, .int .i64 a1_1, .int .i64 a1_2] 32 (0, 0)) (by (with_reducible repeat (first | refine bN3 ?_ _ | refine bD3 ?_ | refine bA3 ?_ _)); exact BK147.out)) : gb147 ≠ gb174))
              have n16_ := zA3 ((by rw [hg]; exact Nat.ne_of_gt (blk_lt (g := gb147) (o := .cells #[.int .i64 a1_0, .int .i64 a1_1, .int .i64 a1_2] 32 (0, 0)) (by (with_reducible repeat (first | refine bN3 ?_ _ | refine bD3 ?_ | refine bA3 ?_ _)); exact BK147.out)) : gb174 ≠ gb147))
              have n17_ := zA3 ((by rw [hg]; exact Nat.ne_of_lt (blk_lt (g := gb148) (o := .cells #[.slice none 0 0, .slice none 0 0, .int .i64 x149002_2] 89 (0, 0)) (by (with_reducible repeat (first | refine bN3 ?_ _ | refine bD3 ?_ | refine bA3 ?_ _)); exact BK148.out)) : gb148 ≠ gb174))
              have n18_ := zA3 ((by rw [hg]; exact Nat.ne_of_gt (blk_lt (g := gb148) (o := .cells #[.slice none 0 0, .slice none 0 0, .int .i64 x149002_2] 89 (0, 0)) (by (with_reducible repeat (first | refine bN3 ?_ _ | refine bD3 ?_ | refine bA3 ?_ _)); exact BK148.out)) : gb174 ≠ gb148))
              have n19_ := zA3 ((by rw [hg]; exact Nat.ne_of_lt (blk_lt (g := gb155) (o := .cells #[u156000, u156001, .int .i64 x156002_2] 89 (0, 0)) (by (with_reducible repeat (first | refine bN3 ?_ _ | refine bD3 ?_ | refine bA3 ?_ _)); exact BK155.out)) : gb155 ≠ gb174))
              have n20_ := zA3 ((by rw [hg]; exact Nat.ne_of_gt (blk_lt (g := gb155) (o := .cells #[u156000, u156001, .int .i64 x156002_2] 89 (0, 0)) (by (with_reducible repeat (first | refine bN3 ?_ _ | refine bD3 ?_ | refine bA3 ?_ _)); exact BK155.out)) : gb174 ≠ gb155))
              have n21_ := zA3 ((by rw [hg]; exact Nat.ne_of_lt (blk_lt (g := gb159) (o := .cells #[.int .i64 x160000_2, .slice Ao85 x160001_2.length co85] 30 (0, 0)) (by (with_reducible repeat (first | refine bN3 ?_ _ | refine bD3 ?_ | refine bA3 ?_ _)); exact BK159.out)) : gb159 ≠ gb174))
              have n22_ := zA3 ((by rw [hg]; exact Nat.ne_of_gt (blk_lt (g := gb159) (o := .cells #[.int .i64 x160000_2, .slice Ao85 x160001_2.length co85] 30 (0, 0)) (by (with_reducible repeat (first | refine bN3 ?_ _ | refine bD3 ?_ | refine bA3 ?_ _)); exact BK159.out)) : gb174 ≠ gb159))
              clear HO_147001
              clear HO_156000
              clear HO_156001
              clear HO_160001
              clear BK146
              clear BK147
              clear BK148
              clear BK155
              clear BK159
              clear HB
              have HO_147001 := n0_
              have HO_156000 := n1_
              have HO_156001 := n2_
              have HO_160001 := n3_
              have BK146 := n4_
              have BK147 := n5_
              have BK148 := n6_
              have BK155 := n7_
              have BK159 := n8_
              have HB := n9_
              have BK174 := n10_
              have GW174 := n11_
              have GE174 := n12_
              have NB146_174 := n13_
              have NB174_146 := n14_
              have NB147_174 := n15_
              have NB174_147 := n16_
              have NB148_174 := n17_
              have NB174_148 := n18_
              have NB155_174 := n19_
              have NB174_155 := n20_
              have NB159_174 := n21_
              have NB174_159 := n22_
              clear n0_ n1_ n2_ n3_ n4_ n5_ n6_ n7_ n8_ n9_ n10_ n11_ n12_ n13_ n14_ n15_ n16_ n17_ n18_ n19_ n20_ n21_ n22_
              clear hb hbox hg
              refine hK.out _ _ ⟨(blk_cell BK159.out 0).trans rfl, (blk_cell BK159.out 1).trans rfl, ((HB.out.cell (World.block_lt_of_cell? w _ hw168_0)).trans hw168_0)⟩ (fun hHeld => ?_)
              clear hK K
              refine norm_ (a' := ?_) ?_ ?_
              rotate_left
              ·show Act.put _ (some 13) _ = _
               simp only [Act.put, List.setIfInBounds_toArray, List.set_cons_zero, List.set_cons_succ, i64_w, i32_w]
               rfl
              refine one_ (i := 6) (N := some 57) #[true, true, true, true, true, true, true, false, false, false, true, false, false] rfl rfl (one_of HT_.out (by kernel_rfl)) (by decide) (fun K hK => ?_)
              refine goes_ Try.func79 (by kernel_rfl) rfl #[.agg #[.int .i64 x160000_2, .slice Ao85 x160001_2.length co85], .int .i64 t160, .int .i64 (rd l2 x10_2)] (by rfl) rfl rfl (by (try simp only [List.map_toArray, List.map_cons, List.map_nil]); first | done | rfl | (simp only [List.length_drop, List.length_take]; rfl)) ?_
              with_reducible refine (spec_l11Day.calls x160000_2 _ _ x160001_2 t160 (rd l2 x10_2) t169 t170 t173 _ ?side1 ?side2 A69.out).mono ?_
              (case side1 => repeat (first | exact (Kd.V_reads' HO_160001.out).2.2 | (with_reducible refine Kd.C_alloc ?_ _) | (with_reducible refine Kd.C_drewN ?_ _) | (with_reducible refine Kd.C_drew ?_)))
              (case side2 => exact (Kd.V_reads' HO_160001.out).2.1)
              rintro e w89 ⟨v171, rfl, ho0, hb⟩
              refine ⟨_, rfl, ?_⟩
              have n0_ := zA3 (Kd.V_elder' (by (with_reducible repeat (first | apply Kd.V_alloc | apply Kd.V_drewN | apply Kd.V_drew)); exact HO_147001.out) (Kd.R_base ho0) hb)
              have n1_ := zA3 (Kd.R_elder' (by (with_reducible repeat (first | apply Kd.R_alloc | apply Kd.R_drewN | apply Kd.R_drew)); exact HO_156000.out) (Kd.R_base ho0) hb)
              have n2_ := zA3 (Kd.R_elder' (by (with_reducible repeat (first | apply Kd.R_alloc | apply Kd.R_drewN | apply Kd.R_drew)); exact HO_156001.out) (Kd.R_base ho0) hb)
              have n3_ := zA3 (Kd.V_elder' (by (with_reducible repeat (first | apply Kd.V_alloc | apply Kd.V_drewN | apply Kd.V_drew)); exact HO_160001.out) (Kd.R_base ho0) hb)
              have n4_ := zA3 (Kd.R_lower (Kd.R_new' (Kd.R_new' (Kd.R_newM (M := fun k_ => (w.heap.size ≤ k_)) ho0 (below_size (by repeat (first | (with_reducible first | exact HB.out | apply below_alloc | apply pw_below_drewN | apply below_drew1 | refine below_set ?_ GE146.out | refine below_set ?_ GE147.out | refine below_set ?_ GE148.out | refine below_set ?_ GE155.out | refine below_set ?_ GE159.out | refine below_set ?_ GE174.out) | exact HB.out))) (fun k_ h_ => h_)) (Kd.R_lt (by (with_reducible repeat (first | apply Kd.R_alloc | apply Kd.R_drewN | apply Kd.R_drew)); exact HO_156000.out))) (Kd.R_lt (by (with_reducible repeat (first | apply Kd.R_alloc | apply Kd.R_drewN | apply Kd.R_drew)); exact HO_156001.out))) (below_size (by repeat (first | (with_reducible first | exact HB.out | apply below_alloc | apply pw_below_drewN | apply below_drew1 | refine below_set ?_ GE146.out | refine below_set ?_ GE147.out | refine below_set ?_ GE148.out | refine below_set ?_ GE155.out | refine below_set ?_ GE159.out | refine below_set ?_ GE174.out) | exact HB.out))))
              have n5_ := zA3 (blk_below (g := gb146) (o := .cells #[.int .i64 a0_0, .slice A0_1 l0_1.length c0_1] 30 (0, 0)) (by (with_reducible repeat (first | refine bN3 ?_ _ | refine bD3 ?_ | refine bA3 ?_ _)); exact BK146.out) hb)
              have n6_ := zA3 (blk_below (g := gb147) (o := .cells #[.int .i64 a1_0, .int .i64 a1_1, .int .i64 a1_2] 32 (0, 0)) (by (with_reducible repeat (first | refine bN3 ?_ _ | refine bD3 ?_ | refine bA3 ?_ _)); exact BK147.out) hb)
              have n7_ := zA3 (blk_below (g := gb148) (o := .cells #[.slice none 0 0, .slice none 0 0, .int .i64 x149002_2] 89 (0, 0)) (by (with_reducible repeat (first | refine bN3 ?_ _ | refine bD3 ?_ | refine bA3 ?_ _)); exact BK148.out) hb)
              have n8_ := zA3 (blk_below (g := gb155) (o := .cells #[u156000, u156001, .int .i64 x156002_2] 89 (0, 0)) (by (with_reducible repeat (first | refine bN3 ?_ _ | refine bD3 ?_ | refine bA3 ?_ _)); exact BK155.out) hb)
              have n9_ := zA3 (blk_below (g := gb159) (o := .cells #[.int .i64 x160000_2, .slice Ao85 x160001_2.length co85] 30 (0, 0)) (by (with_reducible repeat (first | refine bN3 ?_ _ | refine bD3 ?_ | refine bA3 ?_ _)); exact BK159.out) hb)
              have n10_ := zA3 (blk_below (g := gb174) (o := .cells #[.int .i64 0, .slice none 0 0] 30 (0, 0)) (by (with_reducible repeat (first | refine bN3 ?_ _ | refine bD3 ?_ | refine bA3 ?_ _)); exact BK174.out) hb)
              have n11_ := zA3 (below_step (by repeat (first | (with_reducible first | exact HB.out | apply below_alloc | apply pw_below_drewN | apply below_drew1 | refine below_set ?_ GE146.out | refine below_set ?_ GE147.out | refine below_set ?_ GE148.out | refine below_set ?_ GE155.out | refine below_set ?_ GE159.out | refine below_set ?_ GE174.out) | exact HB.out)) hb)
              clear HO_147001
              clear HO_156000
              clear HO_156001
              clear HO_160001
              clear BK146
              clear BK147
              clear BK148
              clear BK155
              clear BK159
              clear BK174
              clear HB
              have HO_147001 := n0_
              have HO_156000 := n1_
              have HO_156001 := n2_
              have HO_160001 := n3_
              have HO172 := n4_
              have BK146 := n5_
              have BK147 := n6_
              have BK148 := n7_
              have BK155 := n8_
              have BK159 := n9_
              have BK174 := n10_
              have HB := n11_
              clear n0_ n1_ n2_ n3_ n4_ n5_ n6_ n7_ n8_ n9_ n10_ n11_
              (try clear hb)
              (try clear hb2)
              (try clear hk)
              (try clear hi)
              (try clear ho0)
              refine hK.out _ _ ⟨(blk_cell BK159.out 0).trans rfl, (blk_cell BK159.out 1).trans rfl, ((HB.out.cell (World.block_lt_of_cell? w _ hw168_0)).trans hw168_0)⟩ (fun hHeld => ?_)
              clear hK K
              refine norm_ (a' := ?_) ?_ ?_
              rotate_left
              ·show Act.put _ (some 57) _ = _
               simp only [Act.put, List.setIfInBounds_toArray, List.set_cons_zero, List.set_cons_succ, i64_w, i32_w]
               rfl
              refine pure_ (i := 7) (N := some 50) (v := ?_) (a' := ?_) #[true, true, true, true, true, true, true, true, false, false, true, false, false] rfl rfl (any_of HT_.out (by kernel_rfl)) (fun _ _ _ h => h) (Or.inl ⟨by rfl, ?_⟩) ?_ ?_
              rotate_left
              ·intro w'
               go_simp
               with_reducible rfl
              rotate_left
              ·simp only [Act.put, List.setIfInBounds_toArray, List.set_cons_zero, List.set_cons_succ, i64_w, i32_w]
               rfl
              refine pure_ (i := 8) (N := some 58) (v := ?_) (a' := ?_) #[true, true, true, true, true, true, true, true, true, false, true, false, false] rfl rfl (any_of HT_.out (by kernel_rfl)) (fun _ _ _ h => h) (Or.inl ⟨by rfl, ?_⟩) ?_ ?_
              rotate_left
              ·intro w'
               go_simp
               with_reducible rfl
              rotate_left
              ·simp only [Act.put, List.setIfInBounds_toArray, List.set_cons_zero, List.set_cons_succ, i64_w, i32_w]
               rfl
              refine pure_ (i := 9) (N := some 59) (v := ?_) (a' := ?_) #[true, true, true, true, true, true, true, true, true, true, true, false, false] rfl rfl (any_of HT_.out (by kernel_rfl)) (fun _ _ _ h => h) (Or.inl ⟨by rfl, ?_⟩) ?_ ?_
              rotate_left
              ·intro w'
               go_simp
               with_reducible rfl
              rotate_left
              ·simp only [Act.put, List.setIfInBounds_toArray, List.set_cons_zero, List.set_cons_succ, i64_w, i32_w]
               rfl
              exact norm_ (by simp only [putAll, Act.put, List.setIfInBounds_toArray, List.set_cons_zero, List.set_cons_succ]) (hCont (v171, gb174) _ ⟨hHeld, (by (with_reducible repeat (first | apply Kd.R_alloc | apply Kd.R_drewN | apply Kd.R_drew)); exact Kd.R_mono HO172.out (fun _ hk => ⟨hk.1.1.1, ⟨hk.1.2, hk.2⟩⟩)), (by (with_reducible repeat (first | apply Kd.V_alloc | apply Kd.V_drewN | apply Kd.V_drew)); exact Kd.V_mono HO_147001.out (fun _ hk => ⟨hk.1.1.1, ⟨hk.2, ⟨hk.1.1.2.1, ⟨hk.1.1.2.2.1, ⟨hk.1.1.2.2.2.1, ⟨hk.1.1.2.2.2.2.1, ⟨hk.1.1.2.2.2.2.2.1, ⟨hk.1.1.2.2.2.2.2.2.1, ⟨hk.1.1.2.2.2.2.2.2.2, hk.1.2⟩⟩⟩⟩⟩⟩⟩⟩⟩)), (by (with_reducible repeat (first | apply Kd.R_alloc | apply Kd.R_drewN | apply Kd.R_drew)); exact Kd.R_mono HO_156000.out (fun _ hk => ⟨hk.1.1, ⟨hk.2, hk.1.2⟩⟩)), (by (with_reducible repeat (first | apply Kd.R_alloc | apply Kd.R_drewN | apply Kd.R_drew)); exact Kd.R_mono HO_156001.out (fun _ hk => ⟨hk.1.1, ⟨hk.2, hk.1.2⟩⟩)), (by (with_reducible repeat (first | apply Kd.V_alloc | apply Kd.V_drewN | apply Kd.V_drew)); exact Kd.V_mono HO_160001.out (fun _ hk => ⟨hk.1.1.1, ⟨hk.2, ⟨hk.1.1.2.1, ⟨hk.1.1.2.2.1, ⟨hk.1.1.2.2.2.1, ⟨hk.1.1.2.2.2.2.1, ⟨hk.1.1.2.2.2.2.2.1, ⟨hk.1.1.2.2.2.2.2.2.1, ⟨hk.1.1.2.2.2.2.2.2.2, hk.1.2⟩⟩⟩⟩⟩⟩⟩⟩⟩)), (by (with_reducible repeat (first | refine bN3 ?_ _ | refine bD3 ?_ | refine bA3 ?_ _)); exact BK146.out), (by (with_reducible repeat (first | refine bN3 ?_ _ | refine bD3 ?_ | refine bA3 ?_ _)); exact BK147.out), (by (with_reducible repeat (first | refine bN3 ?_ _ | refine bD3 ?_ | refine bA3 ?_ _)); exact BK148.out), (by (with_reducible repeat (first | refine bN3 ?_ _ | refine bD3 ?_ | refine bA3 ?_ _)); exact BK155.out), (by (with_reducible repeat (first | refine bN3 ?_ _ | refine bD3 ?_ | refine bA3 ?_ _)); exact BK159.out), (by (with_reducible repeat (first | refine bN3 ?_ _ | refine bD3 ?_ | refine bA3 ?_ _)); exact BK174.out), GW174.out, GE174.out, NB146_174.out, NB174_146.out, NB147_174.out, NB174_147.out, NB148_174.out, NB174_148.out, NB155_174.out, NB174_155.out, NB159_174.out, NB174_159.out, (by repeat (first | (with_reducible first | exact HB.out | apply below_alloc | apply pw_below_drewN | apply below_drew1 | refine below_set ?_ GE146.out | refine below_set ?_ GE147.out | refine below_set ?_ GE148.out | refine below_set ?_ GE155.out | refine below_set ?_ GE159.out | refine below_set ?_ GE174.out) | exact HB.out))⟩)
            rintro ⟨v171, gb174⟩ w90 ⟨hS_, h0_, h1_, h2_, h3_, h4_, h5_, h6_, h7_, h8_, h9_, h10_, h11_, h12_, h13_, h14_, h15_, h16_, h17_, h18_, h19_, h20_, h21_, h22_, h23_⟩
            have n0_ : Aside0 (Kd.R (Kd.int .i64) 3 w90 w.heap.size (fun k_ => (w.heap.size ≤ k_) ∧ some k_ ≠ (u156000 : Value).ownBlock ∧ some k_ ≠ (u156001 : Value).ownBlock) v171 t170) := ⟨h0_⟩
            have n1_ : Aside0 (Kd.V (Kd.int .i64) 3 w90 w.heap.size (fun k_ => (P0_1_ k_ ∨ w.heap.size ≤ k_) ∧ some k_ ≠ (v171 : Value).ownBlock ∧ some k_ ≠ (u156000 : Value).ownBlock ∧ some k_ ≠ (u156001 : Value).ownBlock ∧ k_ ≠ gb146 ∧ k_ ≠ gb147 ∧ k_ ≠ gb148 ∧ k_ ≠ gb155 ∧ k_ ≠ gb159 ∧ k_ ≠ gb174) (.slice A0_1 l0_1.length c0_1) l0_1) := ⟨h1_⟩
            have n2_ : Aside0 (Kd.R (Kd.int .i64) 3 w90 w.heap.size (fun k_ => (w.heap.size ≤ k_) ∧ some k_ ≠ (v171 : Value).ownBlock ∧ some k_ ≠ (u156001 : Value).ownBlock) u156000 x156000_2) := ⟨h2_⟩
            have n3_ : Aside0 (Kd.R (Kd.int .i64) 3 w90 w.heap.size (fun k_ => (w.heap.size ≤ k_) ∧ some k_ ≠ (v171 : Value).ownBlock ∧ some k_ ≠ (u156000 : Value).ownBlock) u156001 x156001_2) := ⟨h3_⟩
            have n4_ : Aside0 (Kd.V (Kd.int .i64) 3 w90 w.heap.size (fun k_ => (P0_1_ k_ ∨ w.heap.size ≤ k_) ∧ some k_ ≠ (v171 : Value).ownBlock ∧ some k_ ≠ (u156000 : Value).ownBlock ∧ some k_ ≠ (u156001 : Value).ownBlock ∧ k_ ≠ gb146 ∧ k_ ≠ gb147 ∧ k_ ≠ gb148 ∧ k_ ≠ gb155 ∧ k_ ≠ gb159 ∧ k_ ≠ gb174) (.slice Ao85 x160001_2.length co85) x160001_2) := ⟨h4_⟩
            have n5_ : Aside0 (w90.heap[gb146]? = some (.cells #[.int .i64 a0_0, .slice A0_1 l0_1.length c0_1] 30 (0, 0))) := ⟨h5_⟩
            have n6_ : Aside0 (w90.heap[gb147]? = some (.cells #[.int .i64 a1_0, .int .i64 a1_1, .int .i64 a1_2] 32 (0, 0))) := ⟨h6_⟩
            have n7_ : Aside0 (w90.heap[gb148]? = some (.cells #[.slice none 0 0, .slice none 0 0, .int .i64 x149002_2] 89 (0, 0))) := ⟨h7_⟩
            have n8_ : Aside0 (w90.heap[gb155]? = some (.cells #[u156000, u156001, .int .i64 x156002_2] 89 (0, 0))) := ⟨h8_⟩
            have n9_ : Aside0 (w90.heap[gb159]? = some (.cells #[.int .i64 x160000_2, .slice Ao85 x160001_2.length co85] 30 (0, 0))) := ⟨h9_⟩
            have n10_ : Aside0 (w90.heap[gb174]? = some (.cells #[.int .i64 0, .slice none 0 0] 30 (0, 0))) := ⟨h10_⟩
            have n11_ : Aside0 (w.heap.size ≤ gb174) := ⟨h11_⟩
            have n12_ : Aside0 (w.heap.size ≤ gb174) := ⟨h12_⟩
            have n13_ : Aside0 (gb146 ≠ gb174) := ⟨h13_⟩
            have n14_ : Aside0 (gb174 ≠ gb146) := ⟨h14_⟩
            have n15_ : Aside0 (gb147 ≠ gb174) := ⟨h15_⟩
            have n16_ : Aside0 (gb174 ≠ gb147) := ⟨h16_⟩
            have n17_ : Aside0 (gb148 ≠ gb174) := ⟨h17_⟩
            have n18_ : Aside0 (gb174 ≠ gb148) := ⟨h18_⟩
            have n19_ : Aside0 (gb155 ≠ gb174) := ⟨h19_⟩
            have n20_ : Aside0 (gb174 ≠ gb155) := ⟨h20_⟩
            have n21_ : Aside0 (gb159 ≠ gb174) := ⟨h21_⟩
            have n22_ : Aside0 (gb174 ≠ gb159) := ⟨h22_⟩
            have n23_ : Aside0 (Below w.heap.size w w90) := ⟨h23_⟩
            clear HO_147001
            clear HO_156000
            clear HO_156001
            clear HO_160001
            clear BK146
            clear BK147
            clear BK148
            clear BK155
            clear BK159
            clear HB
            clear h0_ h1_ h2_ h3_ h4_ h5_ h6_ h7_ h8_ h9_ h10_ h11_ h12_ h13_ h14_ h15_ h16_ h17_ h18_ h19_ h20_ h21_ h22_ h23_
            have HO172 := n0_
            have HO_147001 := n1_
            have HO_156000 := n2_
            have HO_156001 := n3_
            have HO_160001 := n4_
            have BK146 := n5_
            have BK147 := n6_
            have BK148 := n7_
            have BK155 := n8_
            have BK159 := n9_
            have BK174 := n10_
            have GW174 := n11_
            have GE174 := n12_
            have NB146_174 := n13_
            have NB174_146 := n14_
            have NB147_174 := n15_
            have NB174_147 := n16_
            have NB148_174 := n17_
            have NB174_148 := n18_
            have NB155_174 := n19_
            have NB174_155 := n20_
            have NB159_174 := n21_
            have NB174_159 := n22_
            have HB := n23_
            clear n0_ n1_ n2_ n3_ n4_ n5_ n6_ n7_ n8_ n9_ n10_ n11_ n12_ n13_ n14_ n15_ n16_ n17_ n18_ n19_ n20_ n21_ n22_ n23_
            have hHeld : w90.cell? ⟨gb159, 0, none⟩ = some (.int .i64 x160000_2) ∧ w90.cell? ⟨gb159, 1, none⟩ = some (.slice Ao85 x160001_2.length co85) ∧ w90.cell? (ad168.add (x10_2).toNat) = some (.int .i64 (rd l2 x10_2)) := hS_
            obtain ⟨Ao92, co92, eo92⟩ := Kd.R_slice HO172.out
            (first | subst eo92 | (injection eo92 with f1_ f2_ f3_; have f4_ := f1_.symm; have f5_ := f3_.symm; clear f1_ f2_ f3_; subst f4_; subst f5_))
            refine norm_ (a' := ?_) ?_ ?_
            rotate_left
            ·simp only [putAll, Act.put, List.setIfInBounds_toArray, List.set_cons_zero, List.set_cons_succ]
             rfl
            refine one_ (i := 11) (N := none) #[true, true, true, true, true, true, true, true, true, true, true, true, false] rfl rfl (one_of HT_.out (by kernel_rfl)) (by decide) (fun K hK => ?_)
            have hs91 : w90.cell? ⟨gb174, 0, none⟩ = some (.int .i64 0) := (blk_cell BK174.out 0).trans rfl
            have hfs91 := blk_frozen BK174.out 0
            have hns91_0 := NB146_174.out
            have hns91_1 := NB147_174.out
            have hns91_2 := NB148_174.out
            have hns91_3 := NB155_174.out
            have hns91_4 := NB159_174.out
            have hms91_0 := NB174_146.out
            have hms91_1 := NB174_147.out
            have hms91_2 := NB174_148.out
            have hms91_3 := NB174_155.out
            have hms91_4 := NB174_159.out
            have hs93 : w90.cell? ⟨gb174, 1, none⟩ = some (.slice none 0 0) := (blk_cell BK174.out 1).trans rfl
            have hfs93 := blk_frozen BK174.out 1
            have hns93_0 := NB146_174.out
            have hns93_1 := NB147_174.out
            have hns93_2 := NB148_174.out
            have hns93_3 := NB155_174.out
            have hns93_4 := NB159_174.out
            have hms93_0 := NB174_146.out
            have hms93_1 := NB174_147.out
            have hms93_2 := NB174_148.out
            have hms93_3 := NB174_155.out
            have hms93_4 := NB174_159.out
            refine skip_ (w1 := ?_) (by rfl) rfl ?_ ?_
            rotate_left
            ·go_simp
             rfl
            refine hK.out _ _ ⟨((cell_far (p := ⟨gb174, _, none⟩) NB159_174.out _).trans (((cell_far (p := ⟨gb174, _, none⟩) NB159_174.out _).trans (hHeld.1)))), ((cell_far (p := ⟨gb174, _, none⟩) NB159_174.out _).trans (((cell_far (p := ⟨gb174, _, none⟩) NB159_174.out _).trans (hHeld.2.1)))), ((cell_far (p := ⟨gb174, _, none⟩) (by first | exact Nat.ne_of_lt (Nat.lt_of_lt_of_le (by have := World.block_lt_of_cell? _ _ hw168_0; first | rwa [add_block] at this | exact this) GW174.out) | (rw [add_block]; exact Nat.ne_of_lt (Nat.lt_of_lt_of_le (by have := World.block_lt_of_cell? _ _ hw168_0; first | rwa [add_block] at this | exact this) GW174.out)) | (show (Addr.add _ _).block ≠ _; rw [add_block]; exact Nat.ne_of_lt (Nat.lt_of_lt_of_le (by have := World.block_lt_of_cell? _ _ hw168_0; first | rwa [add_block] at this | exact this) GW174.out)) | (dsimp only; exact Nat.ne_of_lt (Nat.lt_of_lt_of_le (by have := World.block_lt_of_cell? _ _ hw168_0; first | rwa [add_block] at this | exact this) GW174.out))) _).trans (((cell_far (p := ⟨gb174, _, none⟩) (by first | exact Nat.ne_of_lt (Nat.lt_of_lt_of_le (by have := World.block_lt_of_cell? _ _ hw168_0; first | rwa [add_block] at this | exact this) GW174.out) | (rw [add_block]; exact Nat.ne_of_lt (Nat.lt_of_lt_of_le (by have := World.block_lt_of_cell? _ _ hw168_0; first | rwa [add_block] at this | exact this) GW174.out)) | (show (Addr.add _ _).block ≠ _; rw [add_block]; exact Nat.ne_of_lt (Nat.lt_of_lt_of_le (by have := World.block_lt_of_cell? _ _ hw168_0; first | rwa [add_block] at this | exact this) GW174.out)) | (dsimp only; exact Nat.ne_of_lt (Nat.lt_of_lt_of_le (by have := World.block_lt_of_cell? _ _ hw168_0; first | rwa [add_block] at this | exact this) GW174.out))) _).trans (hHeld.2.2))))⟩ (fun hHeld => ?_)
            clear hK K
            refine pure_ (i := 12) (N := some 14) (v := ?_) (a' := ?_) #[true, true, true, true, true, true, true, true, true, true, true, true, true] rfl rfl (any_of HT_.out (by kernel_rfl)) (fun _ _ _ h => h) (Or.inl ⟨by rfl, ?_⟩) ?_ ?_
            rotate_left
            ·intro w'
             go_simp
             with_reducible rfl
            rotate_left
            ·simp only [Act.put, List.setIfInBounds_toArray, List.set_cons_zero, List.set_cons_succ, i64_w, i32_w]
             rfl
            refine done_ (done_of HT_.out (by kernel_rfl)) ?_
            have hnb94 := NB174_146.out
            have hnc94 := NB146_174.out
            have hnb95 := NB174_147.out
            have hnc95 := NB147_174.out
            have hnb96 := NB174_148.out
            have hnc96 := NB148_174.out
            have hnb97 := NB174_155.out
            have hnc97 := NB155_174.out
            have hnb98 := NB174_159.out
            have hnc98 := NB159_174.out
            have hcz99_0 : w90.cell? ⟨gb174, 0, none⟩ = some (.int .i64 0) := (blk_cell BK174.out 0).trans rfl
            have hcz99_1 : w90.cell? ⟨gb174, 1, none⟩ = some (.slice none 0 0) := (blk_cell BK174.out 1).trans rfl
            have hfz99_0 := blk_frozen BK174.out 0
            have hfz99_1 := blk_frozen BK174.out 1
            try go_wp2_with (first | ((with_reducible refine gate_callee (f := 77) rfl ?_); refine goesL_ (some 61) rfl rfl Try.func77 (by kernel_rfl) rfl #[.agg #[.int .i64 t169, .slice Ao92 t170.length co92]] rfl (by (try simp only [List.map_toArray, List.map_cons, List.map_nil]); first | done | rfl | (simp only [List.length_drop, List.length_take]; rfl)) ?_; (with_reducible refine (spec_l11Flow.calls k2 t169 _ _ t170 true _ ?side1 ?side2 A70.out).mono ?_); (case side1 => refine (Kd.R_reads' (e := 3) (base := w.heap.size) (ok := fun k_ => ((w.heap.size ≤ k_) ∧ (some k_ ≠ (u156000 : Value).ownBlock ∧ some k_ ≠ (u156001 : Value).ownBlock))) (n := t170.length) (c := co92) ?_).2.2; exact (by (with_reducible repeat (first | apply Kd.R_alloc | apply Kd.R_drewN | apply Kd.R_drew)); exact (Kd.R_mono (Kd.R_far (p := ⟨gb174, 1, none⟩) (Kd.R_far (p := ⟨gb174, 0, none⟩) (Kd.R_types HO172.out BK174.out (by decide)) (fun _ hk => hk.2) (.int .i64 t169)) (fun _ hk => hk.2) (.slice Ao92 t170.length co92)) (fun _ h_ => h_.1)))); (case side2 => exact (Kd.R_reads' HO172.out).2.1); rintro e w100 ⟨rfl, hb⟩; refine ⟨_, rfl, ?_⟩; have n0_ := zA3 (Kd.V_below (by (with_reducible repeat (first | apply Kd.V_alloc | apply Kd.V_drewN | apply Kd.V_drew)); exact (Kd.V_mono (Kd.V_far (p := ⟨gb174, 1, none⟩) (Kd.V_far (p := ⟨gb174, 0, none⟩) (Kd.V_mono HO_147001.out (fun k_ hk => (⟨hk, hk.2.2.2.2.2.2.2.2.2⟩ : _ ∧ k_ ≠ gb174))) (fun _ hk => hk.2) (.int .i64 t169)) (fun _ hk => hk.2) (.slice Ao92 t170.length co92)) (fun _ h_ => h_.1))) hb); have n1_ := zA3 (Kd.R_below (by (with_reducible repeat (first | apply Kd.R_alloc | apply Kd.R_drewN | apply Kd.R_drew)); exact (Kd.R_mono (Kd.R_far (p := ⟨gb174, 1, none⟩) (Kd.R_far (p := ⟨gb174, 0, none⟩) (Kd.R_types HO_156000.out BK174.out (by decide)) (fun _ hk => hk.2) (.int .i64 t169)) (fun _ hk => hk.2) (.slice Ao92 t170.length co92)) (fun _ h_ => h_.1))) hb); have n2_ := zA3 (Kd.R_below (by (with_reducible repeat (first | apply Kd.R_alloc | apply Kd.R_drewN | apply Kd.R_drew)); exact (Kd.R_mono (Kd.R_far (p := ⟨gb174, 1, none⟩) (Kd.R_far (p := ⟨gb174, 0, none⟩) (Kd.R_types HO_156001.out BK174.out (by decide)) (fun _ hk => hk.2) (.int .i64 t169)) (fun _ hk => hk.2) (.slice Ao92 t170.length co92)) (fun _ h_ => h_.1))) hb); have n3_ := zA3 (Kd.V_below (by (with_reducible repeat (first | apply Kd.V_alloc | apply Kd.V_drewN | apply Kd.V_drew)); exact (Kd.V_mono (Kd.V_far (p := ⟨gb174, 1, none⟩) (Kd.V_far (p := ⟨gb174, 0, none⟩) (Kd.V_mono HO_160001.out (fun k_ hk => (⟨hk, hk.2.2.2.2.2.2.2.2.2⟩ : _ ∧ k_ ≠ gb174))) (fun _ hk => hk.2) (.int .i64 t169)) (fun _ hk => hk.2) (.slice Ao92 t170.length co92)) (fun _ h_ => h_.1))) hb); have n4_ := zA3 (Kd.R_below (by (with_reducible repeat (first | apply Kd.R_alloc | apply Kd.R_drewN | apply Kd.R_drew)); exact (Kd.R_mono (Kd.R_far (p := ⟨gb174, 1, none⟩) (Kd.R_far (p := ⟨gb174, 0, none⟩) (Kd.R_types HO172.out BK174.out (by decide)) (fun _ hk => hk.2) (.int .i64 t169)) (fun _ hk => hk.2) (.slice Ao92 t170.length co92)) (fun _ h_ => h_.1))) hb); have n5_ := zA3 (blk_below (g := gb146) (o := .cells #[.int .i64 a0_0, .slice A0_1 l0_1.length c0_1] 30 (0, 0)) (by (with_reducible repeat (first | refine bN3 ?_ _ | refine bD3 ?_ | refine bA3 ?_ _)); refine blk_far ?_ NB146_174.out _; (with_reducible repeat (first | refine bN3 ?_ _ | refine bD3 ?_ | refine bA3 ?_ _)); refine blk_far ?_ NB146_174.out _; (with_reducible repeat (first | refine bN3 ?_ _ | refine bD3 ?_ | refine bA3 ?_ _)); exact BK146.out) hb); have n6_ := zA3 (blk_below (g := gb147) (o := .cells #[.int .i64 a1_0, .int .i64 a1_1, .int .i64 a1_2] 32 (0, 0)) (by (with_reducible repeat (first | refine bN3 ?_ _ | refine bD3 ?_ | refine bA3 ?_ _)); refine blk_far ?_ NB147_174.out _; (with_reducible repeat (first | refine bN3 ?_ _ | refine bD3 ?_ | refine bA3 ?_ _)); refine blk_far ?_ NB147_174.out _; (with_reducible repeat (first | refine bN3 ?_ _ | refine bD3 ?_ | refine bA3 ?_ _)); exact BK147.out) hb); have n7_ := zA3 (blk_below (g := gb148) (o := .cells #[.slice none 0 0, .slice none 0 0, .int .i64 x149002_2] 89 (0, 0)) (by (with_reducible repeat (first | refine bN3 ?_ _ | refine bD3 ?_ | refine bA3 ?_ _)); refine blk_far ?_ NB148_174.out _; (with_reducible repeat (first | refine bN3 ?_ _ | refine bD3 ?_ | refine bA3 ?_ _)); refine blk_far ?_ NB148_174.out _; (with_reducible repeat (first | refine bN3 ?_ _ | refine bD3 ?_ | refine bA3 ?_ _)); exact BK148.out) hb); have n8_ := zA3 (blk_below (g := gb155) (o := .cells #[u156000, u156001, .int .i64 x156002_2] 89 (0, 0)) (by (with_reducible repeat (first | refine bN3 ?_ _ | refine bD3 ?_ | refine bA3 ?_ _)); refine blk_far ?_ NB155_174.out _; (with_reducible repeat (first | refine bN3 ?_ _ | refine bD3 ?_ | refine bA3 ?_ _)); refine blk_far ?_ NB155_174.out _; (with_reducible repeat (first | refine bN3 ?_ _ | refine bD3 ?_ | refine bA3 ?_ _)); exact BK155.out) hb); have n9_ := zA3 (blk_below (g := gb159) (o := .cells #[.int .i64 x160000_2, .slice Ao85 x160001_2.length co85] 30 (0, 0)) (by (with_reducible repeat (first | refine bN3 ?_ _ | refine bD3 ?_ | refine bA3 ?_ _)); refine blk_far ?_ NB159_174.out _; (with_reducible repeat (first | refine bN3 ?_ _ | refine bD3 ?_ | refine bA3 ?_ _)); refine blk_far ?_ NB159_174.out _; (with_reducible repeat (first | refine bN3 ?_ _ | refine bD3 ?_ | refine bA3 ?_ _)); exact BK159.out) hb); have n10_ := zA3 (blk_below (g := gb174) (o := .cells #[.int .i64 t169, .slice Ao92 t170.length co92] 30 (0, 0)) (by (with_reducible repeat (first | refine bN3 ?_ _ | refine bD3 ?_ | refine bA3 ?_ _)); refine blk_put (cs := #[.int .i64 t169, .slice none 0 0]) ?_ 1 _ rfl; (with_reducible repeat (first | refine bN3 ?_ _ | refine bD3 ?_ | refine bA3 ?_ _)); refine blk_put (cs := #[.int .i64 0, .slice none 0 0]) ?_ 0 _ rfl; (with_reducible repeat (first | refine bN3 ?_ _ | refine bD3 ?_ | refine bA3 ?_ _)); exact BK174.out) hb); have n11_ := zA3 (below_step (by repeat (first | (with_reducible first | exact HB.out | apply below_alloc | apply pw_below_drewN | apply below_drew1 | refine below_set ?_ GE146.out | refine below_set ?_ GE147.out | refine below_set ?_ GE148.out | refine below_set ?_ GE155.out | refine below_set ?_ GE159.out | refine below_set ?_ GE174.out) | exact HB.out)) hb); clear HO_147001; clear HO_156000; clear HO_156001; clear HO_160001; clear HO172; clear BK146; clear BK147; clear BK148; clear BK155; clear BK159; clear BK174; clear HB; have HO_147001 := n0_; have HO_156000 := n1_; have HO_156001 := n2_; have HO_160001 := n3_; have HO172 := n4_; have BK146 := n5_; have BK147 := n6_; have BK148 := n7_; have BK155 := n8_; have BK159 := n9_; have BK174 := n10_; have HB := n11_; clear n0_ n1_ n2_ n3_ n4_ n5_ n6_ n7_ n8_ n9_ n10_ n11_; (try clear hb); (try clear hb2); (try clear hk); (try clear hi); have hnb101 := NB155_146.out; have hnc101 := NB146_155.out; have hnb102 := NB155_148.out; have hnc102 := NB148_155.out; have hcz103_0 : w100.cell? ⟨gb155, 0, none⟩ = some (u156000) := (blk_cell BK155.out 0).trans rfl; have hcz103_1 : w100.cell? ⟨gb155, 1, none⟩ = some (u156001) := (blk_cell BK155.out 1).trans rfl; have hcz103_2 : w100.cell? ⟨gb155, 2, none⟩ = some (.int .i64 x156002_2) := (blk_cell BK155.out 2).trans rfl; have hfz103_0 := blk_frozen BK155.out 0; have hfz103_1 := blk_frozen BK155.out 1; have hfz103_2 := blk_frozen BK155.out 2) | ((with_reducible refine gate_builtin (b := .append) (xs := #[.tmp 67, .tmp 69]) rfl ?_); at_builtin; refine Kd.R_append (Kd.int .i64) (w0 := w) w.heap.size rfl (.tmp 67) (.tmp 69) 22 3 (.int .i64 0) 8 rfl Try.underlying22 info3 rfl (by decide) (by omega) u156000 x156000_2 t160 [.int .i64 t160] (fun k_ => (w.heap.size ≤ k_) ∧ some k_ ≠ (u156001 : Value).ownBlock ∧ some k_ ≠ (.slice Ao92 t170.length co92 : Value).ownBlock) (fun _ => False) rfl rfl ?aP (fun _ hk => hk.elim) ?aF ?aO ?aB ?aS ?aL ?_; (case aP => exact rfl); (case aB => exact (by repeat (first | (with_reducible first | exact HB.out | apply below_alloc | apply pw_below_drewN | apply below_drew1 | refine below_set ?_ GE146.out | refine below_set ?_ GE147.out | refine below_set ?_ GE148.out | refine below_set ?_ GE155.out | refine below_set ?_ GE159.out | refine below_set ?_ GE174.out) | exact HB.out))); (case aF => exact (fun k_ hk => ⟨(Nat.le_trans (below_size (by repeat (first | (with_reducible first | exact HB.out | apply below_alloc | apply pw_below_drewN | apply below_drew1 | refine below_set ?_ GE146.out | refine below_set ?_ GE147.out | refine below_set ?_ GE148.out | refine below_set ?_ GE155.out | refine below_set ?_ GE159.out | refine below_set ?_ GE174.out) | exact HB.out))) hk), Kd.fresh' (Kd.R_lt (by (with_reducible repeat (first | apply Kd.R_alloc | apply Kd.R_drewN | apply Kd.R_drew)); exact HO_156001.out)) k_ hk, Kd.fresh' (Kd.R_lt (by (with_reducible repeat (first | apply Kd.R_alloc | apply Kd.R_drewN | apply Kd.R_drew)); exact HO172.out)) k_ hk⟩)); (case aO => exact (by (with_reducible repeat (first | apply Kd.R_alloc | apply Kd.R_drewN | apply Kd.R_drew)); exact Kd.R_mono HO_156000.out (fun _ hk => ⟨hk.1, ⟨hk.2.2, hk.2.1⟩⟩))); (case aS => exact (below_size (by repeat (first | (with_reducible first | exact HB.out | apply below_alloc | apply pw_below_drewN | apply below_drew1 | refine below_set ?_ GE146.out | refine below_set ?_ GE147.out | refine below_set ?_ GE148.out | refine below_set ?_ GE155.out | refine below_set ?_ GE159.out | refine below_set ?_ GE174.out) | exact HB.out)))); (case aL => have := LMc72.out; omega); intro v177 w104 ho hb hg hat; rw [← Ny176.out] at ho; have n0_ := zA3 (Kd.V_afterv (ok := (fun k_ => (P0_1_ k_ ∨ w.heap.size ≤ k_) ∧ some k_ ≠ (u156001 : Value).ownBlock ∧ some k_ ≠ (.slice Ao92 t170.length co92 : Value).ownBlock ∧ k_ ≠ gb146 ∧ k_ ≠ gb147 ∧ k_ ≠ gb148 ∧ k_ ≠ gb155 ∧ k_ ≠ gb159 ∧ k_ ≠ gb174)) (by (with_reducible repeat (first | apply Kd.V_alloc | apply Kd.V_drewN | apply Kd.V_drew)); exact Kd.V_mono HO_147001.out (fun _ hk => ⟨⟨hk.1, ⟨hk.2.2.2.1, ⟨hk.2.1, ⟨hk.2.2.2.2.1, ⟨hk.2.2.2.2.2.1, ⟨hk.2.2.2.2.2.2.1, ⟨hk.2.2.2.2.2.2.2.1, ⟨hk.2.2.2.2.2.2.2.2.1, hk.2.2.2.2.2.2.2.2.2⟩⟩⟩⟩⟩⟩⟩⟩, hk.2.2.1⟩)) hg hat); have n1_ := zA3 (Kd.R_after (ok := (fun k_ => (w.heap.size ≤ k_) ∧ some k_ ≠ (.slice Ao92 t170.length co92 : Value).ownBlock)) (by (with_reducible repeat (first | apply Kd.R_alloc | apply Kd.R_drewN | apply Kd.R_drew)); exact Kd.R_mono HO_156001.out (fun _ hk => ⟨⟨hk.1, hk.2.1⟩, hk.2.2⟩)) hg hat); have n2_ := zA3 (Kd.V_afterv (ok := (fun k_ => (P0_1_ k_ ∨ w.heap.size ≤ k_) ∧ some k_ ≠ (u156001 : Value).ownBlock ∧ some k_ ≠ (.slice Ao92 t170.length co92 : Value).ownBlock ∧ k_ ≠ gb146 ∧ k_ ≠ gb147 ∧ k_ ≠ gb148 ∧ k_ ≠ gb155 ∧ k_ ≠ gb159 ∧ k_ ≠ gb174)) (by (with_reducible repeat (first | apply Kd.V_alloc | apply Kd.V_drewN | apply Kd.V_drew)); exact Kd.V_mono HO_160001.out (fun _ hk => ⟨⟨hk.1, ⟨hk.2.2.2.1, ⟨hk.2.1, ⟨hk.2.2.2.2.1, ⟨hk.2.2.2.2.2.1, ⟨hk.2.2.2.2.2.2.1, ⟨hk.2.2.2.2.2.2.2.1, ⟨hk.2.2.2.2.2.2.2.2.1, hk.2.2.2.2.2.2.2.2.2⟩⟩⟩⟩⟩⟩⟩⟩, hk.2.2.1⟩)) hg hat); have n3_ := zA3 (blk_grown (g := gb146) (o := .cells #[.int .i64 a0_0, .slice A0_1 l0_1.length c0_1] 30 (0, 0)) (by (with_reducible repeat (first | refine bN3 ?_ _ | refine bD3 ?_ | refine bA3 ?_ _)); exact BK146.out) hg (Kd.R_ne HO_156000.out BK146.out (by decide))); have n4_ := zA3 (blk_grown (g := gb147) (o := .cells #[.int .i64 a1_0, .int .i64 a1_1, .int .i64 a1_2] 32 (0, 0)) (by (with_reducible repeat (first | refine bN3 ?_ _ | refine bD3 ?_ | refine bA3 ?_ _)); exact BK147.out) hg (Kd.R_ne HO_156000.out BK147.out (by decide))); have n5_ := zA3 (blk_grown (g := gb148) (o := .cells #[.slice none 0 0, .slice none 0 0, .int .i64 x149002_2] 89 (0, 0)) (by (with_reducible repeat (first | refine bN3 ?_ _ | refine bD3 ?_ | refine bA3 ?_ _)); exact BK148.out) hg (Kd.R_ne HO_156000.out BK148.out (by decide))); have n6_ := zA3 (blk_grown (g := gb155) (o := .cells #[u156000, u156001, .int .i64 x156002_2] 89 (0, 0)) (by (with_reducible repeat (first | refine bN3 ?_ _ | refine bD3 ?_ | refine bA3 ?_ _)); exact BK155.out) hg (Kd.R_ne HO_156000.out BK155.out (by decide))); have n7_ := zA3 (blk_grown (g := gb159) (o := .cells #[.int .i64 x160000_2, .slice Ao85 x160001_2.length co85] 30 (0, 0)) (by (with_reducible repeat (first | refine bN3 ?_ _ | refine bD3 ?_ | refine bA3 ?_ _)); exact BK159.out) hg (Kd.R_ne HO_156000.out BK159.out (by decide))); have n8_ := zA3 (Kd.R_after (ok := (fun k_ => (w.heap.size ≤ k_) ∧ some k_ ≠ (u156001 : Value).ownBlock)) (by (with_reducible repeat (first | apply Kd.R_alloc | apply Kd.R_drewN | apply Kd.R_drew)); exact Kd.R_mono HO172.out (fun _ hk => ⟨⟨hk.1, hk.2.2⟩, hk.2.1⟩)) hg hat); have n9_ := zA3 (blk_grown (g := gb174) (o := .cells #[.int .i64 t169, .slice Ao92 t170.length co92] 30 (0, 0)) (by (with_reducible repeat (first | refine bN3 ?_ _ | refine bD3 ?_ | refine bA3 ?_ _)); exact BK174.out) hg (Kd.R_ne HO_156000.out BK174.out (by decide))); have n10_ := zA3 (hb); have n11_ := zA3 (ho); clear HO_147001; clear HO_156001; clear HO_160001; clear BK146; clear BK147; clear BK148; clear BK155; clear BK159; clear HO172; clear BK174; clear HB; clear HO_156000; have HO_147001 := n0_; have HO_156001 := n1_; have HO_160001 := n2_; have BK146 := n3_; have BK147 := n4_; have BK148 := n5_; have BK155 := n6_; have BK159 := n7_; have HO172 := n8_; have BK174 := n9_; have HB := n10_; have HO178 := n11_; clear n0_ n1_ n2_ n3_ n4_ n5_ n6_ n7_ n8_ n9_ n10_ n11_; clear ho hb hg hat; obtain ⟨Ao105, co105, eo105⟩ := Kd.R_slice HO178.out; subst eo105; have hcz106_0 : w104.cell? ⟨gb155, 0, none⟩ = some (u156000) := (blk_cell BK155.out 0).trans rfl; have hcz106_1 : w104.cell? ⟨gb155, 1, none⟩ = some (u156001) := (blk_cell BK155.out 1).trans rfl; have hcz106_2 : w104.cell? ⟨gb155, 2, none⟩ = some (.int .i64 x156002_2) := (blk_cell BK155.out 2).trans rfl; have hfz106_0 := blk_frozen BK155.out 0; have hfz106_1 := blk_frozen BK155.out 1; have hfz106_2 := blk_frozen BK155.out 2; have hcz107_0 : w104.cell? ⟨gb174, 0, none⟩ = some (.int .i64 t169) := (blk_cell BK174.out 0).trans rfl; have hcz107_1 : w104.cell? ⟨gb174, 1, none⟩ = some (.slice Ao92 t170.length co92) := (blk_cell BK174.out 1).trans rfl; have hfz107_0 := blk_frozen BK174.out 0; have hfz107_1 := blk_frozen BK174.out 1) | ((with_reducible refine gate_builtin (b := .append) (xs := #[.tmp 73, .tmp 76]) rfl ?_); at_builtin; refine Kd.R_append (Kd.int .i64) (w0 := w) w.heap.size rfl (.tmp 73) (.tmp 76) 22 3 (.int .i64 0) 8 rfl Try.underlying22 info3 rfl (by decide) (by omega) u156001 x156001_2 t169 [.int .i64 t169] (fun k_ => (w.heap.size ≤ k_) ∧ some k_ ≠ (.slice Ao92 t170.length co92 : Value).ownBlock ∧ some k_ ≠ (.slice Ao105 y176.length co105 : Value).ownBlock) (fun _ => False) rfl (by first | (go_simp; done) | (go_simp; rfl)) ?aP (fun _ hk => hk.elim) ?aF ?aO ?aB ?aS ?aL ?_; (case aP => exact rfl); (case aB => exact (by repeat (first | (with_reducible first | exact HB.out | apply below_alloc | apply pw_below_drewN | apply below_drew1 | refine below_set ?_ GE146.out | refine below_set ?_ GE147.out | refine below_set ?_ GE148.out | refine below_set ?_ GE155.out | refine below_set ?_ GE159.out | refine below_set ?_ GE174.out) | exact HB.out))); (case aF => exact (fun k_ hk => ⟨(Nat.le_trans (below_size (by repeat (first | (with_reducible first | exact HB.out | apply below_alloc | apply pw_below_drewN | apply below_drew1 | refine below_set ?_ GE146.out | refine below_set ?_ GE147.out | refine below_set ?_ GE148.out | refine below_set ?_ GE155.out | refine below_set ?_ GE159.out | refine below_set ?_ GE174.out) | exact HB.out))) hk), Kd.fresh' (Kd.R_lt (by (with_reducible repeat (first | apply Kd.R_alloc | apply Kd.R_drewN | apply Kd.R_drew)); exact (Kd.R_mono (Kd.R_far (p := ⟨gb155, 0, none⟩) (Kd.R_types HO172.out BK155.out (by decide)) (fun _ hk => hk.2) (.slice Ao105 y176.length co105)) (fun _ h_ => h_.1)))) k_ hk, Kd.fresh' (Kd.R_lt (by (with_reducible repeat (first | apply Kd.R_alloc | apply Kd.R_drewN | apply Kd.R_drew)); exact (Kd.R_mono (Kd.R_far (p := ⟨gb155, 0, none⟩) (Kd.R_types HO178.out BK155.out (by decide)) (fun _ hk => hk.2) (.slice Ao105 y176.length co105)) (fun _ h_ => h_.1)))) k_ hk⟩)); (case aO => exact (by (with_reducible repeat (first | apply Kd.R_alloc | apply Kd.R_drewN | apply Kd.R_drew)); exact Kd.R_mono (Kd.R_far (p := ⟨gb155, 0, none⟩) (Kd.R_types HO_156001.out BK155.out (by decide)) (fun _ hk => hk.2) (.slice Ao105 y176.length co105)) (fun _ hk => ⟨hk.1.1.1, ⟨hk.1.1.2, hk.1.2⟩⟩))); (case aS => exact (below_size (by repeat (first | (with_reducible first | exact HB.out | apply below_alloc | apply pw_below_drewN | apply below_drew1 | refine below_set ?_ GE146.out | refine below_set ?_ GE147.out | refine below_set ?_ GE148.out | refine below_set ?_ GE155.out | refine below_set ?_ GE159.out | refine below_set ?_ GE174.out) | exact HB.out)))); (case aL => have := LMc73.out; omega); intro v180 w108 ho hb hg hat; rw [← Ny179.out] at ho; have n0_ := zA3 (Kd.V_afterv (ok := (fun k_ => (P0_1_ k_ ∨ w.heap.size ≤ k_) ∧ some k_ ≠ (.slice Ao92 t170.length co92 : Value).ownBlock ∧ some k_ ≠ (.slice Ao105 y176.length co105 : Value).ownBlock ∧ k_ ≠ gb146 ∧ k_ ≠ gb147 ∧ k_ ≠ gb148 ∧ k_ ≠ gb155 ∧ k_ ≠ gb159 ∧ k_ ≠ gb174)) (by (with_reducible repeat (first | apply Kd.V_alloc | apply Kd.V_drewN | apply Kd.V_drew)); exact Kd.V_mono (Kd.V_far (p := ⟨gb155, 0, none⟩) (Kd.V_mono HO_147001.out (fun k_ hk => (⟨hk, hk.1.2.2.2.2.2.2.1⟩ : _ ∧ k_ ≠ gb155))) (fun _ hk => hk.2) (.slice Ao105 y176.length co105)) (fun _ hk => ⟨⟨hk.1.1.1, ⟨hk.1.1.2.2.1, ⟨hk.1.2, ⟨hk.1.1.2.2.2.1, ⟨hk.1.1.2.2.2.2.1, ⟨hk.1.1.2.2.2.2.2.1, ⟨hk.1.1.2.2.2.2.2.2.1, ⟨hk.1.1.2.2.2.2.2.2.2.1, hk.1.1.2.2.2.2.2.2.2.2⟩⟩⟩⟩⟩⟩⟩⟩, hk.1.1.2.1⟩)) hg hat); have n1_ := zA3 (Kd.V_afterv (ok := (fun k_ => (P0_1_ k_ ∨ w.heap.size ≤ k_) ∧ some k_ ≠ (.slice Ao92 t170.length co92 : Value).ownBlock ∧ some k_ ≠ (.slice Ao105 y176.length co105 : Value).ownBlock ∧ k_ ≠ gb146 ∧ k_ ≠ gb147 ∧ k_ ≠ gb148 ∧ k_ ≠ gb155 ∧ k_ ≠ gb159 ∧ k_ ≠ gb174)) (by (with_reducible repeat (first | apply Kd.V_alloc | apply Kd.V_drewN | apply Kd.V_drew)); exact Kd.V_mono (Kd.V_far (p := ⟨gb155, 0, none⟩) (Kd.V_mono HO_160001.out (fun k_ hk => (⟨hk, hk.1.2.2.2.2.2.2.1⟩ : _ ∧ k_ ≠ gb155))) (fun _ hk => hk.2) (.slice Ao105 y176.length co105)) (fun _ hk => ⟨⟨hk.1.1.1, ⟨hk.1.1.2.2.1, ⟨hk.1.2, ⟨hk.1.1.2.2.2.1, ⟨hk.1.1.2.2.2.2.1, ⟨hk.1.1.2.2.2.2.2.1, ⟨hk.1.1.2.2.2.2.2.2.1, ⟨hk.1.1.2.2.2.2.2.2.2.1, hk.1.1.2.2.2.2.2.2.2.2⟩⟩⟩⟩⟩⟩⟩⟩, hk.1.1.2.1⟩)) hg hat); have n2_ := zA3 (blk_grown (g := gb146) (o := .cells #[.int .i64 a0_0, .slice A0_1 l0_1.length c0_1] 30 (0, 0)) (by (with_reducible repeat (first | refine bN3 ?_ _ | refine bD3 ?_ | refine bA3 ?_ _)); refine blk_far ?_ NB146_155.out _; (with_reducible repeat (first | refine bN3 ?_ _ | refine bD3 ?_ | refine bA3 ?_ _)); exact BK146.out) hg (Kd.R_ne HO_156001.out BK146.out (by decide))); have n3_ := zA3 (blk_grown (g := gb147) (o := .cells #[.int .i64 a1_0, .int .i64 a1_1, .int .i64 a1_2] 32 (0, 0)) (by (with_reducible repeat (first | refine bN3 ?_ _ | refine bD3 ?_ | refine bA3 ?_ _)); refine blk_far ?_ NB147_155.out _; (with_reducible repeat (first | refine bN3 ?_ _ | refine bD3 ?_ | refine bA3 ?_ _)); exact BK147.out) hg (Kd.R_ne HO_156001.out BK147.out (by decide))); have n4_ := zA3 (blk_grown (g := gb148) (o := .cells #[.slice none 0 0, .slice none 0 0, .int .i64 x149002_2] 89 (0, 0)) (by (with_reducible repeat (first | refine bN3 ?_ _ | refine bD3 ?_ | refine bA3 ?_ _)); refine blk_far ?_ NB148_155.out _; (with_reducible repeat (first | refine bN3 ?_ _ | refine bD3 ?_ | refine bA3 ?_ _)); exact BK148.out) hg (Kd.R_ne HO_156001.out BK148.out (by decide))); have n5_ := zA3 (blk_grown (g := gb155) (o := .cells #[.slice Ao105 y176.length co105, u156001, .int .i64 x156002_2] 89 (0, 0)) (by (with_reducible repeat (first | refine bN3 ?_ _ | refine bD3 ?_ | refine bA3 ?_ _)); refine blk_put (cs := #[u156000, u156001, .int .i64 x156002_2]) ?_ 0 _ rfl; (with_reducible repeat (first | refine bN3 ?_ _ | refine bD3 ?_ | refine bA3 ?_ _)); exact BK155.out) hg (Kd.R_ne HO_156001.out BK155.out (by decide))); have n6_ := zA3 (blk_grown (g := gb159) (o := .cells #[.int .i64 x160000_2, .slice Ao85 x160001_2.length co85] 30 (0, 0)) (by (with_reducible repeat (first | refine bN3 ?_ _ | refine bD3 ?_ | refine bA3 ?_ _)); refine blk_far ?_ NB159_155.out _; (with_reducible repeat (first | refine bN3 ?_ _ | refine bD3 ?_ | refine bA3 ?_ _)); exact BK159.out) hg (Kd.R_ne HO_156001.out BK159.out (by decide))); have n7_ := zA3 (Kd.R_after (ok := (fun k_ => (w.heap.size ≤ k_) ∧ some k_ ≠ (.slice Ao105 y176.length co105 : Value).ownBlock)) (by (with_reducible repeat (first | apply Kd.R_alloc | apply Kd.R_drewN | apply Kd.R_drew)); exact Kd.R_mono (Kd.R_far (p := ⟨gb155, 0, none⟩) (Kd.R_types HO172.out BK155.out (by decide)) (fun _ hk => hk.2) (.slice Ao105 y176.length co105)) (fun _ hk => ⟨⟨hk.1.1.1, hk.1.2⟩, hk.1.1.2⟩)) hg hat); have n8_ := zA3 (blk_grown (g := gb174) (o := .cells #[.int .i64 t169, .slice Ao92 t170.length co92] 30 (0, 0)) (by (with_reducible repeat (first | refine bN3 ?_ _ | refine bD3 ?_ | refine bA3 ?_ _)); refine blk_far ?_ NB174_155.out _; (with_reducible repeat (first | refine bN3 ?_ _ | refine bD3 ?_ | refine bA3 ?_ _)); exact BK174.out) hg (Kd.R_ne HO_156001.out BK174.out (by decide))); have n9_ := zA3 (Kd.R_after (ok := (fun k_ => (w.heap.size ≤ k_) ∧ some k_ ≠ (.slice Ao92 t170.length co92 : Value).ownBlock)) (by (with_reducible repeat (first | apply Kd.R_alloc | apply Kd.R_drewN | apply Kd.R_drew)); exact Kd.R_mono (Kd.R_far (p := ⟨gb155, 0, none⟩) (Kd.R_types HO178.out BK155.out (by decide)) (fun _ hk => hk.2) (.slice Ao105 y176.length co105)) (fun _ hk => ⟨⟨hk.1.1, hk.1.2.2⟩, hk.1.2.1⟩)) hg hat); have n10_ := zA3 (hb); have n11_ := zA3 (ho); clear HO_147001; clear HO_160001; clear BK146; clear BK147; clear BK148; clear BK155; clear BK159; clear HO172; clear BK174; clear HO178; clear HB; clear HO_156001; have HO_147001 := n0_; have HO_160001 := n1_; have BK146 := n2_; have BK147 := n3_; have BK148 := n4_; have BK155 := n5_; have BK159 := n6_; have HO172 := n7_; have BK174 := n8_; have HO178 := n9_; have HB := n10_; have HO181 := n11_; clear n0_ n1_ n2_ n3_ n4_ n5_ n6_ n7_ n8_ n9_ n10_ n11_; clear ho hb hg hat; obtain ⟨Ao109, co109, eo109⟩ := Kd.R_slice HO181.out; subst eo109; have hcz110_0 : w108.cell? ⟨gb155, 0, none⟩ = some (.slice Ao105 y176.length co105) := (blk_cell BK155.out 0).trans rfl; have hcz110_1 : w108.cell? ⟨gb155, 1, none⟩ = some (u156001) := (blk_cell BK155.out 1).trans rfl; have hcz110_2 : w108.cell? ⟨gb155, 2, none⟩ = some (.int .i64 x156002_2) := (blk_cell BK155.out 2).trans rfl; have hfz110_0 := blk_frozen BK155.out 0; have hfz110_1 := blk_frozen BK155.out 1; have hfz110_2 := blk_frozen BK155.out 2))
            have n0_ : Aside0 (Kd.V (Kd.int .i64) 3 (w108.setCell ⟨gb155, 1, none⟩ (.slice Ao109 y179.length co109)) w.heap.size (fun k_ => (P0_1_ k_ ∨ w.heap.size ≤ k_) ∧ some k_ ≠ (.slice Ao92 t170.length co92 : Value).ownBlock ∧ some k_ ≠ (.slice Ao105 y176.length co105 : Value).ownBlock ∧ some k_ ≠ (.slice Ao109 y179.length co109 : Value).ownBlock ∧ k_ ≠ gb146 ∧ k_ ≠ gb147 ∧ k_ ≠ gb148 ∧ k_ ≠ gb155 ∧ k_ ≠ gb159 ∧ k_ ≠ gb174) (.slice A0_1 l0_1.length c0_1) l0_1) := ⟨by (with_reducible repeat (first | apply Kd.V_alloc | apply Kd.V_drewN | apply Kd.V_drew)); exact Kd.V_mono (Kd.V_far (p := ⟨gb155, 1, none⟩) (Kd.V_mono HO_147001.out (fun k_ hk => (⟨hk, hk.1.2.2.2.2.2.2.1⟩ : _ ∧ k_ ≠ gb155))) (fun _ hk => hk.2) (.slice Ao109 y179.length co109)) (fun _ hk => ⟨hk.1.1.1, ⟨hk.1.1.2.1, ⟨hk.1.1.2.2.1, ⟨hk.1.2, ⟨hk.1.1.2.2.2.1, ⟨hk.1.1.2.2.2.2.1, ⟨hk.1.1.2.2.2.2.2.1, ⟨hk.1.1.2.2.2.2.2.2.1, ⟨hk.1.1.2.2.2.2.2.2.2.1, hk.1.1.2.2.2.2.2.2.2.2⟩⟩⟩⟩⟩⟩⟩⟩⟩)⟩
            have n1_ : Aside0 (Kd.V (Kd.int .i64) 3 (w108.setCell ⟨gb155, 1, none⟩ (.slice Ao109 y179.length co109)) w.heap.size (fun k_ => (P0_1_ k_ ∨ w.heap.size ≤ k_) ∧ some k_ ≠ (.slice Ao92 t170.length co92 : Value).ownBlock ∧ some k_ ≠ (.slice Ao105 y176.length co105 : Value).ownBlock ∧ some k_ ≠ (.slice Ao109 y179.length co109 : Value).ownBlock ∧ k_ ≠ gb146 ∧ k_ ≠ gb147 ∧ k_ ≠ gb148 ∧ k_ ≠ gb155 ∧ k_ ≠ gb159 ∧ k_ ≠ gb174) (.slice Ao85 x160001_2.length co85) x160001_2) := ⟨by (with_reducible repeat (first | apply Kd.V_alloc | apply Kd.V_drewN | apply Kd.V_drew)); exact Kd.V_mono (Kd.V_far (p := ⟨gb155, 1, none⟩) (Kd.V_mono HO_160001.out (fun k_ hk => (⟨hk, hk.1.2.2.2.2.2.2.1⟩ : _ ∧ k_ ≠ gb155))) (fun _ hk => hk.2) (.slice Ao109 y179.length co109)) (fun _ hk => ⟨hk.1.1.1, ⟨hk.1.1.2.1, ⟨hk.1.1.2.2.1, ⟨hk.1.2, ⟨hk.1.1.2.2.2.1, ⟨hk.1.1.2.2.2.2.1, ⟨hk.1.1.2.2.2.2.2.1, ⟨hk.1.1.2.2.2.2.2.2.1, ⟨hk.1.1.2.2.2.2.2.2.2.1, hk.1.1.2.2.2.2.2.2.2.2⟩⟩⟩⟩⟩⟩⟩⟩⟩)⟩
            have n2_ : Aside0 (Kd.R (Kd.int .i64) 3 (w108.setCell ⟨gb155, 1, none⟩ (.slice Ao109 y179.length co109)) w.heap.size (fun k_ => (w.heap.size ≤ k_) ∧ some k_ ≠ (.slice Ao105 y176.length co105 : Value).ownBlock ∧ some k_ ≠ (.slice Ao109 y179.length co109 : Value).ownBlock) (.slice Ao92 t170.length co92) t170) := ⟨by (with_reducible repeat (first | apply Kd.R_alloc | apply Kd.R_drewN | apply Kd.R_drew)); exact Kd.R_mono (Kd.R_far (p := ⟨gb155, 1, none⟩) (Kd.R_types HO172.out BK155.out (by decide)) (fun _ hk => hk.2) (.slice Ao109 y179.length co109)) (fun _ hk => ⟨hk.1.1.1, ⟨hk.1.1.2, hk.1.2⟩⟩)⟩
            have n3_ : Aside0 (Kd.R (Kd.int .i64) 3 (w108.setCell ⟨gb155, 1, none⟩ (.slice Ao109 y179.length co109)) w.heap.size (fun k_ => (w.heap.size ≤ k_) ∧ some k_ ≠ (.slice Ao92 t170.length co92 : Value).ownBlock ∧ some k_ ≠ (.slice Ao109 y179.length co109 : Value).ownBlock) (.slice Ao105 y176.length co105) y176) := ⟨by (with_reducible repeat (first | apply Kd.R_alloc | apply Kd.R_drewN | apply Kd.R_drew)); exact Kd.R_mono (Kd.R_far (p := ⟨gb155, 1, none⟩) (Kd.R_types HO178.out BK155.out (by decide)) (fun _ hk => hk.2) (.slice Ao109 y179.length co109)) (fun _ hk => ⟨hk.1.1.1, ⟨hk.1.1.2, hk.1.2⟩⟩)⟩
            have n4_ : Aside0 (Kd.R (Kd.int .i64) 3 (w108.setCell ⟨gb155, 1, none⟩ (.slice Ao109 y179.length co109)) w.heap.size (fun k_ => (w.heap.size ≤ k_) ∧ some k_ ≠ (.slice Ao92 t170.length co92 : Value).ownBlock ∧ some k_ ≠ (.slice Ao105 y176.length co105 : Value).ownBlock) (.slice Ao109 y179.length co109) y179) := ⟨by (with_reducible repeat (first | apply Kd.R_alloc | apply Kd.R_drewN | apply Kd.R_drew)); exact Kd.R_mono (Kd.R_far (p := ⟨gb155, 1, none⟩) (Kd.R_types HO181.out BK155.out (by decide)) (fun _ hk => hk.2) (.slice Ao109 y179.length co109)) (fun _ hk => ⟨hk.1.1, ⟨hk.1.2.1, hk.1.2.2⟩⟩)⟩
            have n5_ : Aside0 ((w108.setCell ⟨gb155, 1, none⟩ (.slice Ao109 y179.length co109)).heap[gb146]? = some (.cells #[.int .i64 a0_0, .slice A0_1 l0_1.length c0_1] 30 (0, 0))) := ⟨by (with_reducible repeat (first | refine bN3 ?_ _ | refine bD3 ?_ | refine bA3 ?_ _)); refine blk_far ?_ NB146_155.out _; (with_reducible repeat (first | refine bN3 ?_ _ | refine bD3 ?_ | refine bA3 ?_ _)); exact BK146.out⟩
            have n6_ : Aside0 ((w108.setCell ⟨gb155, 1, none⟩ (.slice Ao109 y179.length co109)).heap[gb147]? = some (.cells #[.int .i64 a1_0, .int .i64 a1_1, .int .i64 a1_2] 32 (0, 0))) := ⟨by (with_reducible repeat (first | refine bN3 ?_ _ | refine bD3 ?_ | refine bA3 ?_ _)); refine blk_far ?_ NB147_155.out _; (with_reducible repeat (first | refine bN3 ?_ _ | refine bD3 ?_ | refine bA3 ?_ _)); exact BK147.out⟩
            have n7_ : Aside0 ((w108.setCell ⟨gb155, 1, none⟩ (.slice Ao109 y179.length co109)).heap[gb148]? = some (.cells #[.slice none 0 0, .slice none 0 0, .int .i64 x149002_2] 89 (0, 0))) := ⟨by (with_reducible repeat (first | refine bN3 ?_ _ | refine bD3 ?_ | refine bA3 ?_ _)); refine blk_far ?_ NB148_155.out _; (with_reducible repeat (first | refine bN3 ?_ _ | refine bD3 ?_ | refine bA3 ?_ _)); exact BK148.out⟩
            have n8_ : Aside0 ((w108.setCell ⟨gb155, 1, none⟩ (.slice Ao109 y179.length co109)).heap[gb155]? = some (.cells #[.slice Ao105 y176.length co105, .slice Ao109 y179.length co109, .int .i64 x156002_2] 89 (0, 0))) := ⟨by (with_reducible repeat (first | refine bN3 ?_ _ | refine bD3 ?_ | refine bA3 ?_ _)); refine blk_put (cs := #[.slice Ao105 y176.length co105, u156001, .int .i64 x156002_2]) ?_ 1 _ rfl; (with_reducible repeat (first | refine bN3 ?_ _ | refine bD3 ?_ | refine bA3 ?_ _)); exact BK155.out⟩
            have n9_ : Aside0 ((w108.setCell ⟨gb155, 1, none⟩ (.slice Ao109 y179.length co109)).heap[gb159]? = some (.cells #[.int .i64 x160000_2, .slice Ao85 x160001_2.length co85] 30 (0, 0))) := ⟨by (with_reducible repeat (first | refine bN3 ?_ _ | refine bD3 ?_ | refine bA3 ?_ _)); refine blk_far ?_ NB159_155.out _; (with_reducible repeat (first | refine bN3 ?_ _ | refine bD3 ?_ | refine bA3 ?_ _)); exact BK159.out⟩
            have n10_ : Aside0 ((w108.setCell ⟨gb155, 1, none⟩ (.slice Ao109 y179.length co109)).heap[gb174]? = some (.cells #[.int .i64 t169, .slice Ao92 t170.length co92] 30 (0, 0))) := ⟨by (with_reducible repeat (first | refine bN3 ?_ _ | refine bD3 ?_ | refine bA3 ?_ _)); refine blk_far ?_ NB174_155.out _; (with_reducible repeat (first | refine bN3 ?_ _ | refine bD3 ?_ | refine bA3 ?_ _)); exact BK174.out⟩
            have n11_ : Aside0 (Below w.heap.size w (w108.setCell ⟨gb155, 1, none⟩ (.slice Ao109 y179.length co109))) := ⟨by repeat (first | (with_reducible first | exact HB.out | apply below_alloc | apply pw_below_drewN | apply below_drew1 | refine below_set ?_ GE146.out | refine below_set ?_ GE147.out | refine below_set ?_ GE148.out | refine below_set ?_ GE155.out | refine below_set ?_ GE159.out | refine below_set ?_ GE174.out) | exact HB.out)⟩
            (try clear HO_147001)
            (try clear HO_160001)
            (try clear HO172)
            (try clear HO178)
            (try clear HO181)
            (try clear BK146)
            (try clear BK147)
            (try clear BK148)
            (try clear BK155)
            (try clear BK159)
            (try clear BK174)
            (try clear HB)
            generalize (w108.setCell ⟨gb155, 1, none⟩ (.slice Ao109 y179.length co109)) = w111 at n0_ n1_ n2_ n3_ n4_ n5_ n6_ n7_ n8_ n9_ n10_ n11_ ⊢
            have HO_147001 := n0_
            have HO_160001 := n1_
            have HO172 := n2_
            have HO178 := n3_
            have HO181 := n4_
            have BK146 := n5_
            have BK147 := n6_
            have BK148 := n7_
            have BK155 := n8_
            have BK159 := n9_
            have BK174 := n10_
            have HB := n11_
            clear n0_ n1_ n2_ n3_ n4_ n5_ n6_ n7_ n8_ n9_ n10_ n11_
            have n0_ := zA3 (Kd.V_drew HO_147001.out)
            have n1_ := zA3 (Kd.V_drew HO_160001.out)
            have n2_ := zA3 (Kd.R_drew HO172.out)
            have n3_ := zA3 (Kd.R_drew HO178.out)
            have n4_ := zA3 (Kd.R_drew HO181.out)
            have n5_ := zA3 (blk_drew BK146.out)
            have n6_ := zA3 (blk_drew BK147.out)
            have n7_ := zA3 (blk_drew BK148.out)
            have n8_ := zA3 (blk_drew BK155.out)
            have n9_ := zA3 (blk_drew BK159.out)
            have n10_ := zA3 (blk_drew BK174.out)
            have n11_ := zA3 (below_drew1 HB.out)
            clear HO_147001
            clear HO_160001
            clear HO172
            clear HO178
            clear HO181
            clear BK146
            clear BK147
            clear BK148
            clear BK155
            clear BK159
            clear BK174
            clear HB
            have HO_147001 := n0_
            have HO_160001 := n1_
            have HO172 := n2_
            have HO178 := n3_
            have HO181 := n4_
            have BK146 := n5_
            have BK147 := n6_
            have BK148 := n7_
            have BK155 := n8_
            have BK159 := n9_
            have BK174 := n10_
            have HB := n11_
            clear n0_ n1_ n2_ n3_ n4_ n5_ n6_ n7_ n8_ n9_ n10_ n11_
            have p182 : 0 ≤ (x10_2 : Int) := of_decide_eq_true (by first | (with_reducible assumption) | assumption)
            have q182 : x10_2 < (l2.length : Int) := of_decide_eq_true (by first | (with_reducible assumption) | assumption)
            obtain ⟨ad182, e182, hx182_0⟩ := Kd.at_int HR2.out x10_2 p182 q182
            have hw182_0 := hx182_0
            obtain rfl : ad168 = ad182 := (by injection e182)
            replace hx182_0 := (HB.out.cell (World.block_lt_of_cell? w _ hx182_0)).trans hx182_0
            replace p182 := eq_true p182
            replace q182 := eq_true q182
            refine start_ (n := 12) (S := fun w' => w'.cell? ⟨gb155, 0, none⟩ = some (.slice Ao105 y176.length co105) ∧ w'.cell? ⟨gb155, 1, none⟩ = some (.slice Ao109 y179.length co109) ∧ w'.cell? ⟨gb155, 2, none⟩ = some (.int .i64 x156002_2) ∧ w'.cell? (ad168.add (x10_2).toNat) = some (.int .i64 (rd l2 x10_2))) (ds := [11]) #[false, false, false, false, false, false, false, false, false, false, false, false] (by kernel_rfl) rfl rfl ⟨(blk_cell BK155.out 0).trans rfl, (blk_cell BK155.out 1).trans rfl, (blk_cell BK155.out 2).trans rfl, ((HB.out.cell (World.block_lt_of_cell? w _ hw182_0)).trans hw182_0)⟩ (fun hHeld => ?_); refine with_tabW spec_l11Run.tab16 spec_l11Run.bits16 (fun HT_ HW_ => ?_)
            generalize w111.drew = w112 at HO_147001 HO_160001 HO172 HO178 HO181 BK146 BK147 BK148 BK155 BK159 BK174 HB hx182_0 hHeld ⊢
            refine pure_ (i := 0) (N := some 79) (v := ?_) (a' := ?_) #[true, false, false, false, false, false, false, false, false, false, false, false] rfl rfl (any_of HT_.out (by kernel_rfl)) (fun _ _ _ h => h) (Or.inl ⟨by rfl, ?_⟩) ?_ ?_
            rotate_left
            ·intro w'
             go_simp
             with_reducible rfl
            rotate_left
            ·simp only [Act.put, List.setIfInBounds_toArray, List.set_cons_zero, List.set_cons_succ, i64_w, i32_w]
             rfl
            refine pure_ (i := 2) (N := some 81) (v := ?_) (a' := ?_) #[true, false, true, false, false, false, false, false, false, false, false, false] rfl rfl (any_of HT_.out (by kernel_rfl)) (fun _ _ _ h => h) (Or.inl ⟨by rfl, ?_⟩) ?_ ?_
            rotate_left
            ·intro w'
             go_simp
             with_reducible rfl
            rotate_left
            ·simp only [Act.put, List.setIfInBounds_toArray, List.set_cons_zero, List.set_cons_succ, i64_w, i32_w]
             rfl
            refine pure_ (i := 3) (N := some 82) (v := ?_) (a' := ?_) #[true, false, true, true, false, false, false, false, false, false, false, false] rfl rfl (any_of HT_.out (by kernel_rfl)) (fun _ _ _ h => h) (Or.inl ⟨by rfl, ?_⟩) ?_ ?_
            rotate_left
            ·intro w'
             go_simp
             with_reducible rfl
            rotate_left
            ·simp only [Act.put, List.setIfInBounds_toArray, List.set_cons_zero, List.set_cons_succ, i64_w, i32_w]
             rfl
            refine pure_ (i := 4) (N := some 83) (v := ?_) (a' := ?_) #[true, false, true, true, true, false, false, false, false, false, false, false] rfl rfl (any_of HT_.out (by kernel_rfl)) (fun _ _ _ h => h) (Or.inl ⟨by rfl, ?_⟩) ?_ ?_
            rotate_left
            ·intro w'
             go_simp
             with_reducible rfl
            rotate_left
            ·simp only [Act.put, List.setIfInBounds_toArray, List.set_cons_zero, List.set_cons_succ, i64_w, i32_w]
             rfl
            refine pure_ (i := 6) (N := some 85) (v := ?_) (a' := ?_) #[true, false, true, true, true, false, true, false, false, false, false, false] rfl rfl (any_of HT_.out (by kernel_rfl)) (fun _ _ _ h => h) (Or.inl ⟨by rfl, ?_⟩) ?_ ?_
            rotate_left
            ·intro w'
             go_simp
             with_reducible rfl
            rotate_left
            ·simp only [Act.put, List.setIfInBounds_toArray, List.set_cons_zero, List.set_cons_succ, i64_w, i32_w]
             rfl
            refine take_ (i := 1) (N := some 80) (v := ?_) (a' := ?_) #[true, true, true, true, true, false, true, false, false, false, false, false] rfl rfl (take_ofW HT_.out HW_.out (by kernel_rfl)) (fun _ _ _ h => h) (Or.inl ⟨by rfl, ?_⟩) hHeld ?_ ?_
            rotate_left
            ·rintro w' ⟨s0, s1, s2, s3⟩
             go_simp
             with_reducible rfl
            rotate_left
            ·simp only [Act.put, List.setIfInBounds_toArray, List.set_cons_zero, List.set_cons_succ, i64_w, i32_w]
             rfl
            refine take_ (i := 5) (N := some 84) (v := ?_) (a' := ?_) #[true, true, true, true, true, true, true, false, false, false, false, false] rfl rfl (take_ofW HT_.out HW_.out (by kernel_rfl)) (fun _ _ _ h => h) (Or.inl ⟨by rfl, ?_⟩) hHeld ?_ ?_
            rotate_left
            ·rintro w' ⟨s0, s1, s2, s3⟩
             go_simp
             with_reducible rfl
            rotate_left
            ·simp only [Act.put, List.setIfInBounds_toArray, List.set_cons_zero, List.set_cons_succ, i64_w, i32_w]
             rfl
            refine one_ (i := 7) (N := some 86) #[true, true, true, true, true, true, true, true, false, false, false, false] rfl rfl (one_of HT_.out (by kernel_rfl)) (by decide) (fun K hK => ?_)
            refine goes_ Try.func106 (by kernel_rfl) rfl #[.int .i64 (rd l2 x10_2), .int .i64 t173] (by rfl) rfl rfl (by (try simp only [List.map_toArray, List.map_cons, List.map_nil]); first | done | rfl | (simp only [List.length_drop, List.length_take]; rfl)) ?_
            with_reducible refine (spec_l1Least.calls (rd l2 x10_2) t173 t183 _ A74.out).mono ?_
            rintro e w' ⟨rfl, ⟨nd, rfl⟩⟩
            refine ⟨_, rfl, ?_⟩
            refine hK.out _ _ ⟨(blk_cell BK155.out 0).trans rfl, (blk_cell BK155.out 1).trans rfl, (blk_cell BK155.out 2).trans rfl, ((HB.out.cell (World.block_lt_of_cell? w _ hw182_0)).trans hw182_0)⟩ (fun hHeld => ?_)
            clear hK K
            refine norm_ (a' := ?_) ?_ ?_
            rotate_left
            ·show Act.put _ (some 86) _ = _
             simp only [Act.put, List.setIfInBounds_toArray, List.set_cons_zero, List.set_cons_succ, i64_w, i32_w]
             rfl
            refine one_ (i := 8) (N := some 87) #[true, true, true, true, true, true, true, true, true, false, false, false] rfl rfl (one_of HT_.out (by kernel_rfl)) (by decide) (fun K hK => ?_)
            refine goes_ Try.func105 (by kernel_rfl) rfl #[.int .i64 t183, .int .i64 0] (by rfl) rfl rfl (by (try simp only [List.map_toArray, List.map_cons, List.map_nil]); first | done | rfl | (simp only [List.length_drop, List.length_take]; rfl)) ?_
            with_reducible refine (spec_l1Most.calls t183 0 t184 _ A75.out).mono ?_
            rintro e w' ⟨rfl, ⟨nd, rfl⟩⟩
            refine ⟨_, rfl, ?_⟩
            refine hK.out _ _ ⟨(blk_cell BK155.out 0).trans rfl, (blk_cell BK155.out 1).trans rfl, (blk_cell BK155.out 2).trans rfl, ((HB.out.cell (World.block_lt_of_cell? w _ hw182_0)).trans hw182_0)⟩ (fun hHeld => ?_)
            clear hK K
            refine norm_ (a' := ?_) ?_ ?_
            rotate_left
            ·show Act.put _ (some 87) _ = _
             simp only [Act.put, List.setIfInBounds_toArray, List.set_cons_zero, List.set_cons_succ, i64_w, i32_w]
             rfl
            refine pure_ (i := 9) (N := some 88) (v := ?_) (a' := ?_) #[true, true, true, true, true, true, true, true, true, true, false, false] rfl rfl (any_of HT_.out (by kernel_rfl)) (fun _ _ _ h => h) (Or.inl ⟨by rfl, ?_⟩) ?_ ?_
            rotate_left
            ·intro w'
             go_simp
             with_reducible rfl
            rotate_left
            ·simp only [Act.put, List.setIfInBounds_toArray, List.set_cons_zero, List.set_cons_succ, i64_w, i32_w]
             rfl
            refine pure_ (i := 10) (N := some 89) (v := ?_) (a' := ?_) #[true, true, true, true, true, true, true, true, true, true, true, false] rfl rfl (any_of HT_.out (by kernel_rfl)) (fun _ _ _ h => h) (Or.inl ⟨by rfl, ?_⟩) ?_ ?_
            rotate_left
            ·intro w'
             go_simp
             with_reducible rfl
            rotate_left
            ·simp only [Act.put, List.setIfInBounds_toArray, List.set_cons_zero, List.set_cons_succ, i64_w, i32_w]
             rfl
            refine last_ (i := 11) (N := none) #[true, true, true, true, true, true, true, true, true, true, true, true] rfl rfl (one_of HT_.out (by kernel_rfl)) (by decide) (fun K hK => ?_)
            have hs113 : w112.cell? ⟨gb155, 2, none⟩ = some (.int .i64 x156002_2) := (blk_cell BK155.out 2).trans rfl
            have hfs113 := blk_frozen BK155.out 2
            have hns113_0 := NB146_155.out
            have hns113_1 := NB147_155.out
            have hns113_2 := NB148_155.out
            have hns113_4 := NB159_155.out
            have hns113_5 := NB174_155.out
            have hms113_0 := NB155_146.out
            have hms113_1 := NB155_147.out
            have hms113_2 := NB155_148.out
            have hms113_4 := NB155_159.out
            have hms113_5 := NB155_174.out
            refine skip_ (w1 := ?_) (by rfl) rfl ?_ ?_
            rotate_left
            ·go_simp
             rfl
            refine hK.out _ _ ?_
            clear hK K
            refine done_ (done_of HT_.out (by kernel_rfl)) ?_
            have hcz114_0 : w112.cell? ⟨gb174, 0, none⟩ = some (.int .i64 t169) := (blk_cell BK174.out 0).trans rfl
            have hcz114_1 : w112.cell? ⟨gb174, 1, none⟩ = some (.slice Ao92 t170.length co92) := (blk_cell BK174.out 1).trans rfl
            have hfz114_0 := blk_frozen BK174.out 0
            have hfz114_1 := blk_frozen BK174.out 1
            have hcz115_0 : w112.cell? ⟨gb159, 0, none⟩ = some (.int .i64 x160000_2) := (blk_cell BK159.out 0).trans rfl
            have hcz115_1 : w112.cell? ⟨gb159, 1, none⟩ = some (.slice Ao85 x160001_2.length co85) := (blk_cell BK159.out 1).trans rfl
            have hfz115_0 := blk_frozen BK159.out 0
            have hfz115_1 := blk_frozen BK159.out 1
            try go_wp2
            go_roundg k2
            case measure => have := HJ3.out; have := HK2.out; omega
            case rel => exact ⟨(wrap64 (x10_2 + 1)), (x149002_2), (y176), (y179), (wrap64 (x156002_2 + t184)), (t169), (t170), (.slice Ao105 y176.length co105), (.slice Ao109 y179.length co109), (.slice Ao92 t170.length co92), (by first | rfl | (simp; done) | (simp [*]; done)), H', ⟨by have := HJ3.out; have := HK2.out; omega⟩, ⟨by (with_reducible repeat (first | apply Kd.V_alloc | apply Kd.V_drewN | apply Kd.V_drew)); exact Kd.V_mono (Kd.V_far (p := ⟨gb159, 1, none⟩) (Kd.V_far (p := ⟨gb159, 0, none⟩) (Kd.V_far (p := ⟨gb155, 2, none⟩) (Kd.V_mono (Kd.V_mono HO_147001.out (fun k_ hk => (⟨hk, hk.2.2.2.2.2.2.2.1⟩ : _ ∧ k_ ≠ gb155))) (fun k_ hk => (⟨hk, hk.1.2.2.2.2.2.2.2.2.1⟩ : _ ∧ k_ ≠ gb159))) (fun _ hk => hk.1.2) (.int .i64 (wrap64 (x156002_2 + t184)))) (fun _ hk => hk.2) (.int .i64 t169)) (fun _ hk => hk.2) (.slice Ao92 t170.length co92)) (fun _ hk => ⟨hk.1.1.1, ⟨hk.1.1.2.2.1, ⟨hk.1.1.2.2.2.1, ⟨hk.1.1.2.2.2.2.1, ⟨hk.1.1.2.2.2.2.2.1, ⟨hk.1.1.2.2.2.2.2.2.1, ⟨hk.1.1.2.2.2.2.2.2.2.1, hk.1.1.2.2.2.2.2.2.2.2.1⟩⟩⟩⟩⟩⟩⟩)⟩, ⟨by (with_reducible repeat (first | apply Kd.R_alloc | apply Kd.R_drewN | apply Kd.R_drew)); exact Kd.R_mono (Kd.R_far (p := ⟨gb159, 1, none⟩) (Kd.R_far (p := ⟨gb159, 0, none⟩) (Kd.R_far (p := ⟨gb155, 2, none⟩) (Kd.R_types (Kd.R_types HO178.out BK155.out (by decide)) BK159.out (by decide)) (fun _ hk => hk.1.2) (.int .i64 (wrap64 (x156002_2 + t184)))) (fun _ hk => hk.2) (.int .i64 t169)) (fun _ hk => hk.2) (.slice Ao92 t170.length co92)) (fun _ hk => ⟨hk.1.1.1, hk.1.1.2.2⟩)⟩, ⟨by (with_reducible repeat (first | apply Kd.R_alloc | apply Kd.R_drewN | apply Kd.R_drew)); exact Kd.R_mono (Kd.R_far (p := ⟨gb159, 1, none⟩) (Kd.R_far (p := ⟨gb159, 0, none⟩) (Kd.R_far (p := ⟨gb155, 2, none⟩) (Kd.R_types (Kd.R_types HO181.out BK155.out (by decide)) BK159.out (by decide)) (fun _ hk => hk.1.2) (.int .i64 (wrap64 (x156002_2 + t184)))) (fun _ hk => hk.2) (.int .i64 t169)) (fun _ hk => hk.2) (.slice Ao92 t170.length co92)) (fun _ hk => ⟨hk.1.1.1, hk.1.1.2.2⟩)⟩, ⟨Kd.V_mono (Kd.R_V (by (with_reducible repeat (first | apply Kd.R_alloc | apply Kd.R_drewN | apply Kd.R_drew)); exact (Kd.R_far (p := ⟨gb159, 1, none⟩) (Kd.R_far (p := ⟨gb159, 0, none⟩) (Kd.R_far (p := ⟨gb155, 2, none⟩) (Kd.R_types (Kd.R_types (Kd.R_types (Kd.R_types (Kd.R_types (Kd.R_types (Kd.R_types HO172.out BK146.out (by decide)) BK147.out (by decide)) BK148.out (by decide)) BK155.out (by decide)) BK159.out (by decide)) BK155.out (by decide)) BK159.out (by decide)) (fun _ hk => hk.1.2) (.int .i64 (wrap64 (x156002_2 + t184)))) (fun _ hk => hk.2) (.int .i64 t169)) (fun _ hk => hk.2) (.slice Ao92 t170.length co92)))) (fun k_ hk0 => by have hk := And.intro (hk0.1.1.1.1.1.1.1.1) (And.intro (hk0.1.1.1.1.1.1.1.2.1) (And.intro (hk0.1.1.1.1.1.1.1.2.2) (And.intro (hk0.1.1.1.1.1.1.2) (And.intro (hk0.1.1.1.1.1.2) (And.intro (hk0.1.1.1.1.2) (And.intro (hk0.1.1.1.2) (hk0.1.1.2))))))); first | exact ⟨(.inr (hk.1)), hk.2⟩ | exact (.inr (hk)))⟩, ⟨by (with_reducible repeat (first | refine bN3 ?_ _ | refine bD3 ?_ | refine bA3 ?_ _)); refine blk_far ?_ NB146_159.out _; (with_reducible repeat (first | refine bN3 ?_ _ | refine bD3 ?_ | refine bA3 ?_ _)); refine blk_far ?_ NB146_159.out _; (with_reducible repeat (first | refine bN3 ?_ _ | refine bD3 ?_ | refine bA3 ?_ _)); refine blk_far ?_ NB146_155.out _; (with_reducible repeat (first | refine bN3 ?_ _ | refine bD3 ?_ | refine bA3 ?_ _)); exact BK146.out⟩, ⟨by (with_reducible repeat (first | refine bN3 ?_ _ | refine bD3 ?_ | refine bA3 ?_ _)); refine blk_far ?_ NB147_159.out _; (with_reducible repeat (first | refine bN3 ?_ _ | refine bD3 ?_ | refine bA3 ?_ _)); refine blk_far ?_ NB147_159.out _; (with_reducible repeat (first | refine bN3 ?_ _ | refine bD3 ?_ | refine bA3 ?_ _)); refine blk_far ?_ NB147_155.out _; (with_reducible repeat (first | refine bN3 ?_ _ | refine bD3 ?_ | refine bA3 ?_ _)); exact BK147.out⟩, ⟨by (with_reducible repeat (first | refine bN3 ?_ _ | refine bD3 ?_ | refine bA3 ?_ _)); refine blk_far ?_ NB148_159.out _; (with_reducible repeat (first | refine bN3 ?_ _ | refine bD3 ?_ | refine bA3 ?_ _)); refine blk_far ?_ NB148_159.out _; (with_reducible repeat (first | refine bN3 ?_ _ | refine bD3 ?_ | refine bA3 ?_ _)); refine blk_far ?_ NB148_155.out _; (with_reducible repeat (first | refine bN3 ?_ _ | refine bD3 ?_ | refine bA3 ?_ _)); exact BK148.out⟩, ⟨by (with_reducible repeat (first | refine bN3 ?_ _ | refine bD3 ?_ | refine bA3 ?_ _)); refine blk_far ?_ NB155_159.out _; (with_reducible repeat (first | refine bN3 ?_ _ | refine bD3 ?_ | refine bA3 ?_ _)); refine blk_far ?_ NB155_159.out _; (with_reducible repeat (first | refine bN3 ?_ _ | refine bD3 ?_ | refine bA3 ?_ _)); refine blk_put (cs := #[.slice Ao105 y176.length co105, .slice Ao109 y179.length co109, .int .i64 x156002_2]) ?_ 2 _ rfl; (with_reducible repeat (first | refine bN3 ?_ _ | refine bD3 ?_ | refine bA3 ?_ _)); exact BK155.out⟩, ⟨by (with_reducible repeat (first | refine bN3 ?_ _ | refine bD3 ?_ | refine bA3 ?_ _)); refine blk_put (cs := #[.int .i64 t169, .slice Ao85 x160001_2.length co85]) ?_ 1 _ rfl; (with_reducible repeat (first | refine bN3 ?_ _ | refine bD3 ?_ | refine bA3 ?_ _)); refine blk_put (cs := #[.int .i64 x160000_2, .slice Ao85 x160001_2.length co85]) ?_ 0 _ rfl; (with_reducible repeat (first | refine bN3 ?_ _ | refine bD3 ?_ | refine bA3 ?_ _)); refine blk_far ?_ NB159_155.out _; (with_reducible repeat (first | refine bN3 ?_ _ | refine bD3 ?_ | refine bA3 ?_ _)); exact BK159.out⟩, ⟨by repeat (first | (with_reducible first | exact HB.out | apply below_alloc | apply pw_below_drewN | apply below_drew1 | refine below_set ?_ GE146.out | refine below_set ?_ GE147.out | refine below_set ?_ GE148.out | refine below_set ?_ GE155.out | refine below_set ?_ GE159.out | refine below_set ?_ GE174.out) | exact HB.out)⟩⟩
           ·rw [if_neg c73] at H
            exact absurd H (by simp)
          ·rw [if_neg c72] at H
           exact absurd H (by simp)
         ·replace c71 := Bool.eq_false_iff.mpr c71
          subst c71
          have H1 : (some ((([] : List Int)), (([] : List Int)), 0, false)) = some (r1, r2, r3, r4) := by rw [if_neg (show ¬ (false = true) by decide)] at H; exact H
          clear H
          have H := H1
          clear H1
          obtain ⟨y185, hy185⟩ : ∃ y_ : List Int, y_ = (([] : List Int)) := ⟨_, rfl⟩
          replace H : (some (y185, (([] : List Int)), 0, false)) = some (r1, r2, r3, r4) := by first | (rw [hy185]; with_reducible exact H) | (have H2_ := (Option.bind_some _ _).symm.trans H; rw [hy185]; with_reducible exact H2_) | (have H2_ := (Option.bind_some _ _).symm.trans H; with_reducible exact H2_) | with_reducible exact H | (rw [hy185]; exact H) | exact H
          have Ny185 := zA3 hy185
          clear hy185
          obtain ⟨y188, hy188⟩ : ∃ y_ : List Int, y_ = (([] : List Int)) := ⟨_, rfl⟩
          replace H : (some (y185, y188, 0, false)) = some (r1, r2, r3, r4) := by first | (rw [hy188]; with_reducible exact H) | (have H2_ := (Option.bind_some _ _).symm.trans H; rw [hy188]; with_reducible exact H2_) | (have H2_ := (Option.bind_some _ _).symm.trans H; with_reducible exact H2_) | with_reducible exact H | (rw [hy188]; exact H) | exact H
          have Ny188 := zA3 hy188
          clear hy188
          simp only [Option.some.injEq, Prod.mk.injEq] at H
          obtain ⟨rfl, rfl, rfl, rfl⟩ := H
          have hnb116 := NB159_146.out
          have hnc116 := NB146_159.out
          have hnb117 := NB159_147.out
          have hnc117 := NB147_159.out
          have hnb118 := NB159_148.out
          have hnc118 := NB148_159.out
          have hnb119 := NB159_155.out
          have hnc119 := NB155_159.out
          have hcz120_0 : wr.cell? ⟨gb159, 0, none⟩ = some (.int .i64 x160000_2) := (blk_cell BK159.out 0).trans rfl
          have hcz120_1 : wr.cell? ⟨gb159, 1, none⟩ = some (u160001) := (blk_cell BK159.out 1).trans rfl
          have hfz120_0 := blk_frozen BK159.out 0
          have hfz120_1 := blk_frozen BK159.out 1
          have hnb121 := NB147_146.out
          have hnc121 := NB146_147.out
          have hnb122 := NB147_148.out
          have hnc122 := NB148_147.out
          have hnb123 := NB147_155.out
          have hnc123 := NB155_147.out
          have hcz124_0 : wr.cell? ⟨gb147, 0, none⟩ = some (.int .i64 a1_0) := (blk_cell BK147.out 0).trans rfl
          have hcz124_1 : wr.cell? ⟨gb147, 1, none⟩ = some (.int .i64 a1_1) := (blk_cell BK147.out 1).trans rfl
          have hcz124_2 : wr.cell? ⟨gb147, 2, none⟩ = some (.int .i64 a1_2) := (blk_cell BK147.out 2).trans rfl
          have hfz124_0 := blk_frozen BK147.out 0
          have hfz124_1 := blk_frozen BK147.out 1
          have hfz124_2 := blk_frozen BK147.out 2
          obtain ⟨Ao125, co125, eo125⟩ := Kd.V_slice HO_160001.out
          subst eo125
          try go_wp2_with (first | ((with_reducible refine gate_callee (f := 47) rfl ?_); refine goesL_ (some 42) rfl rfl Try.func47 (by kernel_rfl) rfl #[.agg #[.int .i64 x160000_2, .slice Ao125 x160001_2.length co125], .agg #[.int .i64 a1_0, .int .i64 a1_1, .int .i64 a1_2]] rfl (by (try simp only [List.map_toArray, List.map_cons, List.map_nil]); first | done | rfl | (simp only [List.length_drop, List.length_take]; rfl)) ?_; (with_reducible refine (spec_RuleOrder.calls k2 x160000_2 _ _ x160001_2 a1_0 a1_1 a1_2 t160 true _ ?side1 ?side2 A66.out).mono ?_); (case side1 => repeat (first | exact (Kd.V_reads' HO_160001.out).2.2 | (with_reducible refine Kd.C_alloc ?_ _) | (with_reducible refine Kd.C_drewN ?_ _) | (with_reducible refine Kd.C_drew ?_))); (case side2 => exact (Kd.V_reads' HO_160001.out).2.1); rintro e w126 ⟨rfl, hb⟩; refine ⟨_, rfl, ?_⟩; have n0_ := zA3 (Kd.V_below (by (with_reducible repeat (first | apply Kd.V_alloc | apply Kd.V_drewN | apply Kd.V_drew)); exact HO_147001.out) hb); have n1_ := zA3 (Kd.R_below (by (with_reducible repeat (first | apply Kd.R_alloc | apply Kd.R_drewN | apply Kd.R_drew)); exact HO_156000.out) hb); have n2_ := zA3 (Kd.R_below (by (with_reducible repeat (first | apply Kd.R_alloc | apply Kd.R_drewN | apply Kd.R_drew)); exact HO_156001.out) hb); have n3_ := zA3 (Kd.V_below (by (with_reducible repeat (first | apply Kd.V_alloc | apply Kd.V_drewN | apply Kd.V_drew)); exact HO_160001.out) hb); have n4_ := zA3 (blk_below (g := gb146) (o := .cells #[.int .i64 a0_0, .slice A0_1 l0_1.length c0_1] 30 (0, 0)) (by (with_reducible repeat (first | refine bN3 ?_ _ | refine bD3 ?_ | refine bA3 ?_ _)); exact BK146.out) hb); have n5_ := zA3 (blk_below (g := gb147) (o := .cells #[.int .i64 a1_0, .int .i64 a1_1, .int .i64 a1_2] 32 (0, 0)) (by (with_reducible repeat (first | refine bN3 ?_ _ | refine bD3 ?_ | refine bA3 ?_ _)); exact BK147.out) hb); have n6_ := zA3 (blk_below (g := gb148) (o := .cells #[.slice none 0 0, .slice none 0 0, .int .i64 x149002_2] 89 (0, 0)) (by (with_reducible repeat (first | refine bN3 ?_ _ | refine bD3 ?_ | refine bA3 ?_ _)); exact BK148.out) hb); have n7_ := zA3 (blk_below (g := gb155) (o := .cells #[u156000, u156001, .int .i64 x156002_2] 89 (0, 0)) (by (with_reducible repeat (first | refine bN3 ?_ _ | refine bD3 ?_ | refine bA3 ?_ _)); exact BK155.out) hb); have n8_ := zA3 (blk_below (g := gb159) (o := .cells #[.int .i64 x160000_2, .slice Ao125 x160001_2.length co125] 30 (0, 0)) (by (with_reducible repeat (first | refine bN3 ?_ _ | refine bD3 ?_ | refine bA3 ?_ _)); exact BK159.out) hb); have n9_ := zA3 (below_step (by repeat (first | (with_reducible first | exact HB.out | apply below_alloc | apply pw_below_drewN | apply below_drew1 | refine below_set ?_ GE146.out | refine below_set ?_ GE147.out | refine below_set ?_ GE148.out | refine below_set ?_ GE155.out | refine below_set ?_ GE159.out) | exact HB.out)) hb); clear HO_147001; clear HO_156000; clear HO_156001; clear HO_160001; clear BK146; clear BK147; clear BK148; clear BK155; clear BK159; clear HB; have HO_147001 := n0_; have HO_156000 := n1_; have HO_156001 := n2_; have HO_160001 := n3_; have BK146 := n4_; have BK147 := n5_; have BK148 := n6_; have BK155 := n7_; have BK159 := n8_; have HB := n9_; clear n0_ n1_ n2_ n3_ n4_ n5_ n6_ n7_ n8_ n9_; (try clear hb); (try clear hb2); (try clear hk); (try clear hi)))
          have n0_ := zA3 (Kd.V_drew HO_147001.out)
          have n1_ := zA3 (Kd.R_drew HO_156000.out)
          have n2_ := zA3 (Kd.R_drew HO_156001.out)
          have n3_ := zA3 (Kd.V_drew HO_160001.out)
          have n4_ := zA3 (blk_drew BK146.out)
          have n5_ := zA3 (blk_drew BK147.out)
          have n6_ := zA3 (blk_drew BK148.out)
          have n7_ := zA3 (blk_drew BK155.out)
          have n8_ := zA3 (blk_drew BK159.out)
          have n9_ := zA3 (below_drew1 HB.out)
          clear HO_147001
          clear HO_156000
          clear HO_156001
          clear HO_160001
          clear BK146
          clear BK147
          clear BK148
          clear BK155
          clear BK159
          clear HB
          have HO_147001 := n0_
          have HO_156000 := n1_
          have HO_156001 := n2_
          have HO_160001 := n3_
          have BK146 := n4_
          have BK147 := n5_
          have BK148 := n6_
          have BK155 := n7_
          have BK159 := n8_
          have HB := n9_
          clear n0_ n1_ n2_ n3_ n4_ n5_ n6_ n7_ n8_ n9_
          have p168 : 0 ≤ (x10_2 : Int) := of_decide_eq_true (by first | (with_reducible assumption) | assumption)
          have q168 : x10_2 < (l2.length : Int) := of_decide_eq_true (by first | (with_reducible assumption) | assumption)
          obtain ⟨ad168, e168, hx168_0⟩ := Kd.at_int HR2.out x10_2 p168 q168
          have hw168_0 := hx168_0
          cases e168
          replace hx168_0 := (HB.out.cell (World.block_lt_of_cell? w _ hx168_0)).trans hx168_0
          replace p168 := eq_true p168
          replace q168 := eq_true q168
          refine start_ (n := 13) (S := fun w' => w'.cell? ⟨gb159, 0, none⟩ = some (.int .i64 x160000_2) ∧ w'.cell? ⟨gb159, 1, none⟩ = some (.slice Ao125 x160001_2.length co125) ∧ w'.cell? (ad168.add (x10_2).toNat) = some (.int .i64 (rd l2 x10_2))) (ds := []) #[false, false, false, false, false, false, false, false, false, false, false, false, false] (by kernel_rfl) rfl rfl ⟨(blk_cell BK159.out 0).trans rfl, (blk_cell BK159.out 1).trans rfl, ((HB.out.cell (World.block_lt_of_cell? w _ hw168_0)).trans hw168_0)⟩ (fun hHeld => ?_); refine with_tabW spec_l11Run.tab11 spec_l11Run.bits11 (fun HT_ HW_ => ?_)
          generalize w126.drew = w127 at HO_147001 HO_156000 HO_156001 HO_160001 BK146 BK147 BK148 BK155 BK159 HB hx168_0 hHeld ⊢
          refine pure_ (i := 1) (N := some 52) (v := ?_) (a' := ?_) #[false, true, false, false, false, false, false, false, false, false, false, false, false] rfl rfl (any_of HT_.out (by kernel_rfl)) (fun _ _ _ h => h) (Or.inl ⟨by rfl, ?_⟩) ?_ ?_
          rotate_left
          ·intro w'
           go_simp
           with_reducible rfl
          rotate_left
          ·simp only [Act.put, List.setIfInBounds_toArray, List.set_cons_zero, List.set_cons_succ, i64_w, i32_w]
           rfl
          refine pure_ (i := 2) (N := some 53) (v := ?_) (a' := ?_) #[false, true, true, false, false, false, false, false, false, false, false, false, false] rfl rfl (any_of HT_.out (by kernel_rfl)) (fun _ _ _ h => h) (Or.inl ⟨by rfl, ?_⟩) ?_ ?_
          rotate_left
          ·intro w'
           go_simp
           with_reducible rfl
          rotate_left
          ·simp only [Act.put, List.setIfInBounds_toArray, List.set_cons_zero, List.set_cons_succ, i64_w, i32_w]
           rfl
          refine pure_ (i := 3) (N := some 54) (v := ?_) (a' := ?_) #[false, true, true, true, false, false, false, false, false, false, false, false, false] rfl rfl (any_of HT_.out (by kernel_rfl)) (fun _ _ _ h => h) (Or.inl ⟨by rfl, ?_⟩) ?_ ?_
          rotate_left
          ·intro w'
           go_simp
           with_reducible rfl
          rotate_left
          ·simp only [Act.put, List.setIfInBounds_toArray, List.set_cons_zero, List.set_cons_succ, i64_w, i32_w]
           rfl
          refine pure_ (i := 4) (N := some 55) (v := ?_) (a' := ?_) #[false, true, true, true, true, false, false, false, false, false, false, false, false] rfl rfl (any_of HT_.out (by kernel_rfl)) (fun _ _ _ h => h) (Or.inl ⟨by rfl, ?_⟩) ?_ ?_
          rotate_left
          ·intro w'
           go_simp
           with_reducible rfl
          rotate_left
          ·simp only [Act.put, List.setIfInBounds_toArray, List.set_cons_zero, List.set_cons_succ, i64_w, i32_w]
           rfl
          refine take_ (i := 0) (N := some 51) (v := ?_) (a' := ?_) #[true, true, true, true, true, false, false, false, false, false, false, false, false] rfl rfl (take_ofW HT_.out HW_.out (by kernel_rfl)) (fun _ _ _ h => h) (Or.inl ⟨by rfl, ?_⟩) hHeld ?_ ?_
          rotate_left
          ·rintro w' ⟨s0, s1, s2⟩
           go_simp
           with_reducible rfl
          rotate_left
          ·simp only [Act.put, List.setIfInBounds_toArray, List.set_cons_zero, List.set_cons_succ, i64_w, i32_w]
           rfl
          refine take_ (i := 5) (N := some 56) (v := ?_) (a' := ?_) #[true, true, true, true, true, true, false, false, false, false, false, false, false] rfl rfl (take_ofW HT_.out HW_.out (by kernel_rfl)) (fun _ _ _ h => h) (Or.inl ⟨by rfl, ?_⟩) hHeld ?_ ?_
          rotate_left
          ·rintro w' ⟨s0, s1, s2⟩
           go_simp
           with_reducible rfl
          rotate_left
          ·simp only [Act.put, List.setIfInBounds_toArray, List.set_cons_zero, List.set_cons_succ, i64_w, i32_w]
           rfl
          refine join_ (σ := Value × Nat) 2 #[true, true, true, true, true, true, true, true, true, true, true, false, false] (fun s_ => [(57, .tuple #[.agg #[.int .i64 t169, s_.1], .int .i64 t173]), (13, .pointer (some ⟨s_.2, 0, none⟩)), (50, .tuple #[.agg #[.int .i64 t169, s_.1], .int .i64 t173]), (58, .agg #[.int .i64 t169, s_.1]), (59, .int .i64 t173)]) (fun s_ w' => (w'.cell? ⟨gb159, 0, none⟩ = some (.int .i64 x160000_2) ∧ w'.cell? ⟨gb159, 1, none⟩ = some (.slice Ao125 x160001_2.length co125) ∧ w'.cell? (ad168.add (x10_2).toNat) = some (.int .i64 (rd l2 x10_2))) ∧ (Kd.R (Kd.int .i64) 3 w' w.heap.size (fun k_ => (w.heap.size ≤ k_) ∧ some k_ ≠ (u156000 : Value).ownBlock ∧ some k_ ≠ (u156001 : Value).ownBlock) s_.1 t170) ∧ (Kd.V (Kd.int .i64) 3 w' w.heap.size (fun k_ => (P0_1_ k_ ∨ w.heap.size ≤ k_) ∧ some k_ ≠ (s_.1 : Value).ownBlock ∧ some k_ ≠ (u156000 : Value).ownBlock ∧ some k_ ≠ (u156001 : Value).ownBlock ∧ k_ ≠ gb146 ∧ k_ ≠ gb147 ∧ k_ ≠ gb148 ∧ k_ ≠ gb155 ∧ k_ ≠ gb159 ∧ k_ ≠ s_.2) (.slice A0_1 l0_1.length c0_1) l0_1) ∧ (Kd.R (Kd.int .i64) 3 w' w.heap.size (fun k_ => (w.heap.size ≤ k_) ∧ some k_ ≠ (s_.1 : Value).ownBlock ∧ some k_ ≠ (u156001 : Value).ownBlock) u156000 x156000_2) ∧ (Kd.R (Kd.int .i64) 3 w' w.heap.size (fun k_ => (w.heap.size ≤ k_) ∧ some k_ ≠ (s_.1 : Value).ownBlock ∧ some k_ ≠ (u156000 : Value).ownBlock) u156001 x156001_2) ∧ (Kd.V (Kd.int .i64) 3 w' w.heap.size (fun k_ => (P0_1_ k_ ∨ w.heap.size ≤ k_) ∧ some k_ ≠ (s_.1 : Value).ownBlock ∧ some k_ ≠ (u156000 : Value).ownBlock ∧ some k_ ≠ (u156001 : Value).ownBlock ∧ k_ ≠ gb146 ∧ k_ ≠ gb147 ∧ k_ ≠ gb148 ∧ k_ ≠ gb155 ∧ k_ ≠ gb159 ∧ k_ ≠ s_.2) (.slice Ao125 x160001_2.length co125) x160001_2) ∧ (w'.heap[gb146]? = some (.cells #[.int .i64 a0_0, .slice A0_1 l0_1.length c0_1] 30 (0, 0))) ∧ (w'.heap[gb147]? = some (.cells #[.int .i64 a1_0, .int .i64 a1_1, .int .i64 a1_2] 32 (0, 0))) ∧ (w'.heap[gb148]? = some (.cells #[.slice none 0 0, .slice none 0 0, .int .i64 x149002_2] 89 (0, 0))) ∧ (w'.heap[gb155]? = some (.cells #[u156000, u156001, .int .i64 x156002_2] 89 (0, 0))) ∧ (w'.heap[gb159]? = some (.cells #[.int .i64 x160000_2, .slice Ao125 x160001_2.length co125] 30 (0, 0))) ∧ (w'.heap[s_.2]? = some (.cells #[.int .i64 0, .slice none 0 0] 30 (0, 0))) ∧ (w.heap.size ≤ s_.2) ∧ (w.heap.size ≤ s_.2) ∧ (gb146 ≠ s_.2) ∧ (s_.2 ≠ gb146) ∧ (gb147 ≠ s_.2) ∧ (s_.2 ≠ gb147) ∧ (gb148 ≠ s_.2) ∧ (s_.2 ≠ gb148) ∧ (gb155 ≠ s_.2) ∧ (s_.2 ≠ gb155) ∧ (gb159 ≠ s_.2) ∧ (s_.2 ≠ gb159) ∧ (Below w.heap.size w w')) ?_ ?_
          rotate_left
          ·intro hCont
           refine two_ (i := 6) (j := 10) (Ni := some 57) (Nj := some 13) #[true, true, true, true, true, true, true, false, false, false, false, false, false] #[true, true, true, true, true, true, false, false, false, false, true, false, false] rfl rfl rfl rfl (two_of HT_.out (by kernel_rfl)) (by decide) (by decide) (fun K hK => ?_) (fun K hK => ?_)
           ·skip
            refine goes_ Try.func79 (by kernel_rfl) rfl #[.agg #[.int .i64 x160000_2, .slice Ao125 x160001_2.length co125], .int .i64 t160, .int .i64 (rd l2 x10_2)] (by rfl) rfl rfl (by (try simp only [List.map_toArray, List.map_cons, List.map_nil]); first | done | rfl | (simp only [List.length_drop, List.length_take]; rfl)) ?_
            with_reducible refine (spec_l11Day.calls x160000_2 _ _ x160001_2 t160 (rd l2 x10_2) t169 t170 t173 _ ?side1 ?side2 A69.out).mono ?_
            (case side1 => repeat (first | exact (Kd.V_reads' HO_160001.out).2.2 | (with_reducible refine Kd.C_alloc ?_ _) | (with_reducible refine Kd.C_drewN ?_ _) | (with_reducible refine Kd.C_drew ?_)))
            (case side2 => exact (Kd.V_reads' HO_160001.out).2.1)
            rintro e w128 ⟨v171, rfl, ho0, hb⟩
            refine ⟨_, rfl, ?_⟩
            have n0_ := zA3 (Kd.V_elder' (by (with_reducible repeat (first | apply Kd.V_alloc | apply Kd.V_drewN | apply Kd.V_drew)); exact HO_147001.out) (Kd.R_base ho0) hb)
            have n1_ := zA3 (Kd.R_elder' (by (with_reducible repeat (first | apply Kd.R_alloc | apply Kd.R_drewN | apply Kd.R_drew)); exact HO_156000.out) (Kd.R_base ho0) hb)
            have n2_ := zA3 (Kd.R_elder' (by (with_reducible repeat (first | apply Kd.R_alloc | apply Kd.R_drewN | apply Kd.R_drew)); exact HO_156001.out) (Kd.R_base ho0) hb)
            have n3_ := zA3 (Kd.V_elder' (by (with_reducible repeat (first | apply Kd.V_alloc | apply Kd.V_drewN | apply Kd.V_drew)); exact HO_160001.out) (Kd.R_base ho0) hb)
            have n4_ := zA3 (Kd.R_lower (Kd.R_new' (Kd.R_new' (Kd.R_newM (M := fun k_ => (w.heap.size ≤ k_)) ho0 (below_size (by repeat (first | (with_reducible first | exact HB.out | apply below_alloc | apply pw_below_drewN | apply below_drew1 | refine below_set ?_ GE146.out | refine below_set ?_ GE147.out | refine below_set ?_ GE148.out | refine below_set ?_ GE155.out | refine below_set ?_ GE159.out) | exact HB.out))) (fun k_ h_ => h_)) (Kd.R_lt (by (with_reducible repeat (first | apply Kd.R_alloc | apply Kd.R_drewN | apply Kd.R_drew)); exact HO_156000.out))) (Kd.R_lt (by (with_reducible repeat (first | apply Kd.R_alloc | apply Kd.R_drewN | apply Kd.R_drew)); exact HO_156001.out))) (below_size (by repeat (first | (with_reducible first | exact HB.out | apply below_alloc | apply pw_below_drewN | apply below_drew1 | refine below_set ?_ GE146.out | refine below_set ?_ GE147.out | refine below_set ?_ GE148.out | refine below_set ?_ GE155.out | refine below_set ?_ GE159.out) | exact HB.out))))
            have n5_ := zA3 (blk_below (g := gb146) (o := .cells #[.int .i64 a0_0, .slice A0_1 l0_1.length c0_1] 30 (0, 0)) (by (with_reducible repeat (first | refine bN3 ?_ _ | refine bD3 ?_ | refine bA3 ?_ _)); exact BK146.out) hb)
            have n6_ := zA3 (blk_below (g := gb147) (o := .cells #[.int .i64 a1_0, .int .i64 a1_1, .int .i64 a1_2] 32 (0, 0)) (by (with_reducible repeat (first | refine bN3 ?_ _ | refine bD3 ?_ | refine bA3 ?_ _)); exact BK147.out) hb)
            have n7_ := zA3 (blk_below (g := gb148) (o := .cells #[.slice none 0 0, .slice none 0 0, .int .i64 x149002_2] 89 (0, 0)) (by (with_reducible repeat (first | refine bN3 ?_ _ | refine bD3 ?_ | refine bA3 ?_ _)); exact BK148.out) hb)
            have n8_ := zA3 (blk_below (g := gb155) (o := .cells #[u156000, u156001, .int .i64 x156002_2] 89 (0, 0)) (by (with_reducible repeat (first | refine bN3 ?_ _ | refine bD3 ?_ | refine bA3 ?_ _)); exact BK155.out) hb)
            have n9_ := zA3 (blk_below (g := gb159) (o := .cells #[.int .i64 x160000_2, .slice Ao125 x160001_2.length co125] 30 (0, 0)) (by (with_reducible repeat (first | refine bN3 ?_ _ | refine bD3 ?_ | refine bA3 ?_ _)); exact BK159.out) hb)
            have n10_ := zA3 (below_step (by repeat (first | (with_reducible first | exact HB.out | apply below_alloc | apply pw_below_drewN | apply below_drew1 | refine below_set ?_ GE146.out | refine below_set ?_ GE147.out | refine below_set ?_ GE148.out | refine below_set ?_ GE155.out | refine below_set ?_ GE159.out) | exact HB.out)) hb)
            clear HO_147001
            clear HO_156000
            clear HO_156001
            clear HO_160001
            clear BK146
            clear BK147
            clear BK148
            clear BK155
            clear BK159
            clear HB
            have HO_147001 := n0_
            have HO_156000 := n1_
            have HO_156001 := n2_
            have HO_160001 := n3_
            have HO172 := n4_
            have BK146 := n5_
            have BK147 := n6_
            have BK148 := n7_
            have BK155 := n8_
            have BK159 := n9_
            have HB := n10_
            clear n0_ n1_ n2_ n3_ n4_ n5_ n6_ n7_ n8_ n9_ n10_
            (try clear hb)
            (try clear hb2)
            (try clear hk)
            (try clear hi)
            (try clear ho0)
            refine hK.out _ _ ⟨(blk_cell BK159.out 0).trans rfl, (blk_cell BK159.out 1).trans rfl, ((HB.out.cell (World.block_lt_of_cell? w _ hw168_0)).trans hw168_0)⟩ (fun hHeld => ?_)
            clear hK K
            refine norm_ (a' := ?_) ?_ ?_
            rotate_left
            ·show Act.put _ (some 57) _ = _
             simp only [Act.put, List.setIfInBounds_toArray, List.set_cons_zero, List.set_cons_succ, i64_w, i32_w]
             rfl
            refine pure_ (i := 7) (N := some 50) (v := ?_) (a' := ?_) #[true, true, true, true, true, true, true, true, false, false, false, false, false] rfl rfl (any_of HT_.out (by kernel_rfl)) (fun _ _ _ h => h) (Or.inl ⟨by rfl, ?_⟩) ?_ ?_
            rotate_left
            ·intro w'
             go_simp
             with_reducible rfl
            rotate_left
            ·simp only [Act.put, List.setIfInBounds_toArray, List.set_cons_zero, List.set_cons_succ, i64_w, i32_w]
             rfl
            refine pure_ (i := 8) (N := some 58) (v := ?_) (a' := ?_) #[true, true, true, true, true, true, true, true, true, false, false, false, false] rfl rfl (any_of HT_.out (by kernel_rfl)) (fun _ _ _ h => h) (Or.inl ⟨by rfl, ?_⟩) ?_ ?_
            rotate_left
            ·intro w'
             go_simp
             with_reducible rfl
            rotate_left
            ·simp only [Act.put, List.setIfInBounds_toArray, List.set_cons_zero, List.set_cons_succ, i64_w, i32_w]
             rfl
            refine pure_ (i := 9) (N := some 59) (v := ?_) (a' := ?_) #[true, true, true, true, true, true, true, true, true, true, false, false, false] rfl rfl (any_of HT_.out (by kernel_rfl)) (fun _ _ _ h => h) (Or.inl ⟨by rfl, ?_⟩) ?_ ?_
            rotate_left
            ·intro w'
             go_simp
             with_reducible rfl
            rotate_left
            ·simp only [Act.put, List.setIfInBounds_toArray, List.set_cons_zero, List.set_cons_succ, i64_w, i32_w]
             rfl
            refine one_ (i := 10) (N := some 13) #[true, true, true, true, true, true, true, true, true, true, true, false, false] rfl rfl (one_of HT_.out (by kernel_rfl)) (by decide) (fun K hK => ?_)
            refine box_step ?hg (N := 13) ?hd (cs := #[.int .i64 0, .slice none 0 0]) (t := 30) ?hr ?_; (case hd => rfl); (case hg => rfl); (case hr => first | (go_simp; done) | (go_simp; rfl))
            intro gb174 hg w129 hbox hb
            have n0_ := zA3 (Kd.V_below (Kd.V_elderB (by (with_reducible repeat (first | apply Kd.V_alloc | apply Kd.V_drewN | apply Kd.V_drew)); exact HO_147001.out) gb174 (Nat.le_of_eq hg.symm)) hb)
            have n1_ := zA3 (Kd.R_below (by (with_reducible repeat (first | apply Kd.R_alloc | apply Kd.R_drewN | apply Kd.R_drew)); exact HO_156000.out) hb)
            have n2_ := zA3 (Kd.R_below (by (with_reducible repeat (first | apply Kd.R_alloc | apply Kd.R_drewN | apply Kd.R_drew)); exact HO_156001.out) hb)
            have n3_ := zA3 (Kd.V_below (Kd.V_elderB (by (with_reducible repeat (first | apply Kd.V_alloc | apply Kd.V_drewN | apply Kd.V_drew)); exact HO_160001.out) gb174 (Nat.le_of_eq hg.symm)) hb)
            have n4_ := zA3 (Kd.R_below (by (with_reducible repeat (first | apply Kd.R_alloc | apply Kd.R_drewN | apply Kd.R_drew)); exact HO172.out) hb)
            have n5_ := zA3 (blk_below (g := gb146) (o := .cells #[.int .i64 a0_0, .slice A0_1 l0_1.length c0_1] 30 (0, 0)) (by (with_reducible repeat (first | refine bN3 ?_ _ | refine bD3 ?_ | refine bA3 ?_ _)); exact BK146.out) hb)
            have n6_ := zA3 (blk_below (g := gb147) (o := .cells #[.int .i64 a1_0, .int .i64 a1_1, .int .i64 a1_2] 32 (0, 0)) (by (with_reducible repeat (first | refine bN3 ?_ _ | refine bD3 ?_ | refine bA3 ?_ _)); exact BK147.out) hb)
            have n7_ := zA3 (blk_below (g := gb148) (o := .cells #[.slice none 0 0, .slice none 0 0, .int .i64 x149002_2] 89 (0, 0)) (by (with_reducible repeat (first | refine bN3 ?_ _ | refine bD3 ?_ | refine bA3 ?_ _)); exact BK148.out) hb)
            have n8_ := zA3 (blk_below (g := gb155) (o := .cells #[u156000, u156001, .int .i64 x156002_2] 89 (0, 0)) (by (with_reducible repeat (first | refine bN3 ?_ _ | refine bD3 ?_ | refine bA3 ?_ _)); exact BK155.out) hb)
            have n9_ := zA3 (blk_below (g := gb159) (o := .cells #[.int .i64 x160000_2, .slice Ao125 x160001_2.length co125] 30 (0, 0)) (by (with_reducible repeat (first | refine bN3 ?_ _ | refine bD3 ?_ | refine bA3 ?_ _)); exact BK159.out) hb)
            have n10_ := zA3 (below_step (by repeat (first | (with_reducible first | exact HB.out | apply below_alloc | apply pw_below_drewN | apply below_drew1 | refine below_set ?_ GE146.out | refine below_set ?_ GE147.out | refine below_set ?_ GE148.out | refine below_set ?_ GE155.out | refine below_set ?_ GE159.out) | exact HB.out)) hb)
            have n11_ := zA3 (hbox)
            have n12_ := zA3 ((by rw [hg]; exact (below_size (by repeat (first | (with_reducible first | exact HB.out | apply below_alloc | apply pw_below_drewN | apply below_drew1 | refine below_set ?_ GE146.out | refine below_set ?_ GE147.out | refine below_set ?_ GE148.out | refine below_set ?_ GE155.out | refine below_set ?_ GE159.out) | exact HB.out))) : w.heap.size ≤ gb174))
            have n13_ := zA3 ((by rw [hg]; exact (below_size (by repeat (first | (with_reducible first | exact HB.out | apply below_alloc | apply pw_below_drewN | apply below_drew1 | refine below_set ?_ GE146.out | refine below_set ?_ GE147.out | refine below_set ?_ GE148.out | refine below_set ?_ GE155.out | refine below_set ?_ GE159.out) | exact HB.out))) : w.heap.size ≤ gb174))
            have n14_ := zA3 ((by rw [hg]; exact Nat.ne_of_lt (blk_lt (g := gb146) (o := .cells #[.int .i64 a0_0, .slice A0_1 l0_1.length c0_1] 30 (0, 0)) (by (with_reducible repeat (first | refine bN3 ?_ _ | refine bD3 ?_ | refine bA3 ?_ _)); exact BK146.out)) : gb146 ≠ gb174))
            have n15_ := zA3 ((by rw [hg]; exact Nat.ne_of_gt (blk_lt (g := gb146) (o := .cells #[.int .i64 a0_0, .slice A0_1 l0_1.length c0_1] 30 (0, 0)) (by (with_reducible repeat (first | refine bN3 ?_ _ | refine bD3 ?_ | refine bA3 ?_ _)); exact BK146.out)) : gb174 ≠ gb146))
            have n16_ := zA3 ((by rw [hg]; exact Nat.ne_of_lt (blk_lt (g := gb147) (o := .cells #[.int .i64 a1_0, .int .i64 a1_1, .int .i64 a1_2] 32 (0, 0)) (by (with_reducible repeat (first | refine bN3 ?_ _ | refine bD3 ?_ | refine bA3 ?_ _)); exact BK147.out)) : gb147 ≠ gb174))
            have n17_ := zA3 ((by rw [hg]; exact Nat.ne_of_gt (blk_lt (g := gb147) (o := .cells #[.int .i64 a1_0, .int .i64 a1_1, .int .i64 a1_2] 32 (0, 0)) (by (with_reducible repeat (first | refine bN3 ?_ _ | refine bD3 ?_ | refine bA3 ?_ _)); exact BK147.out)) : gb174 ≠ gb147))
            have n18_ := zA3 ((by rw [hg]; exact Nat.ne_of_lt (blk_lt (g := gb148) (o := .cells #[.slice none 0 0, .slice none 0 0, .int .i64 x149002_2] 89 (0, 0)) (by (with_reducible repeat (first | refine bN3 ?_ _ | refine bD3 ?_ | refine bA3 ?_ _)); exact BK148.out)) : gb148 ≠ gb174))
            have n19_ := zA3 ((by rw [hg]; exact Nat.ne_of_gt (blk_lt (g := gb148) (o := .cells #[.slice none 0 0, .slice none 0 0, .int .i64 x149002_2] 89 (0, 0)) (by (with_reducible repeat (first | refine bN3 ?_ _ | refine bD3 ?_ | refine bA3 ?_ _)); exact BK148.out)) : gb174 ≠ gb148))
            have n20_ := zA3 ((by rw [hg]; exact Nat.ne_of_lt (blk_lt (g := gb155) (o := .cells #[u156000, u156001, .int .i64 x156002_2] 89 (0, 0)) (by (with_reducible repeat (first | refine bN3 ?_ _ | refine bD3 ?_ | refine bA3 ?_ _)); exact BK155.out)) : gb155 ≠ gb174))
            have n21_ := zA3 ((by rw [hg]; exact Nat.ne_of_gt (blk_lt (g := gb155) (o := .cells #[u156000, u156001, .int .i64 x156002_2] 89 (0, 0)) (by (with_reducible repeat (first | refine bN3 ?_ _ | refine bD3 ?_ | refine bA3 ?_ _)); exact BK155.out)) : gb174 ≠ gb155))
            have n22_ := zA3 ((by rw [hg]; exact Nat.ne_of_lt (blk_lt (g := gb159) (o := .cells #[.int .i64 x160000_2, .slice Ao125 x160001_2.length co125] 30 (0, 0)) (by (with_reducible repeat (first | refine bN3 ?_ _ | refine bD3 ?_ | refine bA3 ?_ _)); exact BK159.out)) : gb159 ≠ gb174))
            have n23_ := zA3 ((by rw [hg]; exact Nat.ne_of_gt (blk_lt (g := gb159) (o := .cells #[.int .i64 x160000_2, .slice Ao125 x160001_2.length co125] 30 (0, 0)) (by (with_reducible repeat (first | refine bN3 ?_ _ | refine bD3 ?_ | refine bA3 ?_ _)); exact BK159.out)) : gb174 ≠ gb159))
            clear HO_147001
            clear HO_156000
            clear HO_156001
            clear HO_160001
            clear HO172
            clear BK146
            clear BK147
            clear BK148
            clear BK155
            clear BK159
            clear HB
            have HO_147001 := n0_
            have HO_156000 := n1_
            have HO_156001 := n2_
            have HO_160001 := n3_
            have HO172 := n4_
            have BK146 := n5_
            have BK147 := n6_
            have BK148 := n7_
            have BK155 := n8_
            have BK159 := n9_
            have HB := n10_
            have BK174 := n11_
            have GW174 := n12_
            have GE174 := n13_
            have NB146_174 := n14_
            have NB174_146 := n15_
            have NB147_174 := n16_
            have NB174_147 := n17_
            have NB148_174 := n18_
            have NB174_148 := n19_
            have NB155_174 := n20_
            have NB174_155 := n21_
            have NB159_174 := n22_
            have NB174_159 := n23_
            clear n0_ n1_ n2_ n3_ n4_ n5_ n6_ n7_ n8_ n9_ n10_ n11_ n12_ n13_ n14_ n15_ n16_ n17_ n18_ n19_ n20_ n21_ n22_ n23_
            clear hb hbox hg
            refine hK.out _ _ ⟨(blk_cell BK159.out 0).trans rfl, (blk_cell BK159.out 1).trans rfl, ((HB.out.cell (World.block_lt_of_cell? w _ hw168_0)).trans hw168_0)⟩ (fun hHeld => ?_)
            clear hK K
            refine norm_ (a' := ?_) ?_ ?_
            rotate_left
            ·show Act.put _ (some 13) _ = _
             simp only [Act.put, List.setIfInBounds_toArray, List.set_cons_zero, List.set_cons_succ, i64_w, i32_w]
             rfl
            exact norm_ (by simp only [putAll, Act.put, List.setIfInBounds_toArray, List.set_cons_zero, List.set_cons_succ]) (hCont (v171, gb174) _ ⟨hHeld, (by (with_reducible repeat (first | apply Kd.R_alloc | apply Kd.R_drewN | apply Kd.R_drew)); exact Kd.R_mono HO172.out (fun _ hk => ⟨hk.1.1.1, ⟨hk.1.2, hk.2⟩⟩)), (by (with_reducible repeat (first | apply Kd.V_alloc | apply Kd.V_drewN | apply Kd.V_drew)); exact Kd.V_mono HO_147001.out (fun _ hk => ⟨hk.1.1.1, ⟨hk.1.2, ⟨hk.1.1.2.1, ⟨hk.1.1.2.2.1, ⟨hk.1.1.2.2.2.1, ⟨hk.1.1.2.2.2.2.1, ⟨hk.1.1.2.2.2.2.2.1, ⟨hk.1.1.2.2.2.2.2.2.1, ⟨hk.1.1.2.2.2.2.2.2.2, hk.2⟩⟩⟩⟩⟩⟩⟩⟩⟩)), (by (with_reducible repeat (first | apply Kd.R_alloc | apply Kd.R_drewN | apply Kd.R_drew)); exact Kd.R_mono HO_156000.out (fun _ hk => ⟨hk.1.1, ⟨hk.2, hk.1.2⟩⟩)), (by (with_reducible repeat (first | apply Kd.R_alloc | apply Kd.R_drewN | apply Kd.R_drew)); exact Kd.R_mono HO_156001.out (fun _ hk => ⟨hk.1.1, ⟨hk.2, hk.1.2⟩⟩)), (by (with_reducible repeat (first | apply Kd.V_alloc | apply Kd.V_drewN | apply Kd.V_drew)); exact Kd.V_mono HO_160001.out (fun _ hk => ⟨hk.1.1.1, ⟨hk.1.2, ⟨hk.1.1.2.1, ⟨hk.1.1.2.2.1, ⟨hk.1.1.2.2.2.1, ⟨hk.1.1.2.2.2.2.1, ⟨hk.1.1.2.2.2.2.2.1, ⟨hk.1.1.2.2.2.2.2.2.1, ⟨hk.1.1.2.2.2.2.2.2.2, hk.2⟩⟩⟩⟩⟩⟩⟩⟩⟩)), (by (with_reducible repeat (first | refine bN3 ?_ _ | refine bD3 ?_ | refine bA3 ?_ _)); exact BK146.out), (by (with_reducible repeat (first | refine bN3 ?_ _ | refine bD3 ?_ | refine bA3 ?_ _)); exact BK147.out), (by (with_reducible repeat (first | refine bN3 ?_ _ | refine bD3 ?_ | refine bA3 ?_ _)); exact BK148.out), (by (with_reducible repeat (first | refine bN3 ?_ _ | refine bD3 ?_ | refine bA3 ?_ _)); exact BK155.out), (by (with_reducible repeat (first | refine bN3 ?_ _ | refine bD3 ?_ | refine bA3 ?_ _)); exact BK159.out), (by (with_reducible repeat (first | refine bN3 ?_ _ | refine bD3 ?_ | refine bA3 ?_ _)); exact BK174.out), GW174.out, GE174.out, NB146_174.out, NB174_146.out, NB147_174.out, NB174_147.out, NB148_174.out, NB174_148.out, NB155_174.out, NB174_155.out, NB159_174.out, NB174_159.out, (by repeat (first | (with_reducible first | exact HB.out | apply below_alloc | apply pw_below_drewN | apply below_drew1 | refine below_set ?_ GE146.out | refine below_set ?_ GE147.out | refine below_set ?_ GE148.out | refine below_set ?_ GE155.out | refine below_set ?_ GE159.out | refine below_set ?_ GE174.out) | exact HB.out))⟩)
           ·skip
            refine box_step ?hg (N := 13) ?hd (cs := #[.int .i64 0, .slice none 0 0]) (t := 30) ?hr ?_; (case hd => rfl); (case hg => rfl); (case hr => first | (go_simp; done) | (go_simp; rfl))
            intro gb174 hg w128 hbox hb
            have n0_ := zA3 (Kd.V_below (Kd.V_elderB (by (with_reducible repeat (first | apply Kd.V_alloc | apply Kd.V_drewN | apply Kd.V_drew)); exact HO_147001.out) gb174 (Nat.le_of_eq hg.symm)) hb)
            have n1_ := zA3 (Kd.R_below (by (with_reducible repeat (first | apply Kd.R_alloc | apply Kd.R_drewN | apply Kd.R_drew)); exact HO_156000.out) hb)
            have n2_ := zA3 (Kd.R_below (by (with_reducible repeat (first | apply Kd.R_alloc | apply Kd.R_drewN | apply Kd.R_drew)); exact HO_156001.out) hb)
            have n3_ := zA3 (Kd.V_below (Kd.V_elderB (by (with_reducible repeat (first | apply Kd.V_alloc | apply Kd.V_drewN | apply Kd.V_drew)); exact HO_160001.out) gb174 (Nat.le_of_eq hg.symm)) hb)
            have n4_ := zA3 (blk_below (g := gb146) (o := .cells #[.int .i64 a0_0, .slice A0_1 l0_1.length c0_1] 30 (0, 0)) (by (with_reducible repeat (first | refine bN3 ?_ _ | refine bD3 ?_ | refine bA3 ?_ _)); exact BK146.out) hb)
            have n5_ := zA3 (blk_below (g := gb147) (o := .cells #[.int .i64 a1_0, .int .i64 a1_1, .int .i64 a1_2] 32 (0, 0)) (by (with_reducible repeat (first | refine bN3 ?_ _ | refine bD3 ?_ | refine bA3 ?_ _)); exact BK147.out) hb)
            have n6_ := zA3 (blk_below (g := gb148) (o := .cells #[.slice none 0 0, .slice none 0 0, .int .i64 x149002_2] 89 (0, 0)) (by (with_reducible repeat (first | refine bN3 ?_ _ | refine bD3 ?_ | refine bA3 ?_ _)); exact BK148.out) hb)
            have n7_ := zA3 (blk_below (g := gb155) (o := .cells #[u156000, u156001, .int .i64 x156002_2] 89 (0, 0)) (by (with_reducible repeat (first | refine bN3 ?_ _ | refine bD3 ?_ | refine bA3 ?_ _)); exact BK155.out) hb)
            have n8_ := zA3 (blk_below (g := gb159) (o := .cells #[.int .i64 x160000_2, .slice Ao125 x160001_2.length co125] 30 (0, 0)) (by (with_reducible repeat (first | refine bN3 ?_ _ | refine bD3 ?_ | refine bA3 ?_ _)); exact BK159.out) hb)
            have n9_ := zA3 (below_step (by repeat (first | (with_reducible first | exact HB.out | apply below_alloc | apply pw_below_drewN | apply below_drew1 | refine below_set ?_ GE146.out | refine below_set ?_ GE147.out | refine below_set ?_ GE148.out | refine below_set ?_ GE155.out | refine below_set ?_ GE159.out) | exact HB.out)) hb)
            have n10_ := zA3 (hbox)
            have n11_ := zA3 ((by rw [hg]; exact (below_size (by repeat (first | (with_reducible first | exact HB.out | apply below_alloc | apply pw_below_drewN | apply below_drew1 | refine below_set ?_ GE146.out | refine below_set ?_ GE147.out | refine below_set ?_ GE148.out | refine below_set ?_ GE155.out | refine below_set ?_ GE159.out) | exact HB.out))) : w.heap.size ≤ gb174))
            have n12_ := zA3 ((by rw [hg]; exact (below_size (by repeat (first | (with_reducible first | exact HB.out | apply below_alloc | apply pw_below_drewN | apply below_drew1 | refine below_set ?_ GE146.out | refine below_set ?_ GE147.out | refine below_set ?_ GE148.out | refine below_set ?_ GE155.out | refine below_set ?_ GE159.out) | exact HB.out))) : w.heap.size ≤ gb174))
            have n13_ := zA3 ((by rw [hg]; exact Nat.ne_of_lt (blk_lt (g := gb146) (o := .cells #[.int .i64 a0_0, .slice A0_1 l0_1.length c0_1] 30 (0, 0)) (by (with_reducible repeat (first | refine bN3 ?_ _ | refine bD3 ?_ | refine bA3 ?_ _)); exact BK146.out)) : gb146 ≠ gb174))
            have n14_ := zA3 ((by rw [hg]; exact Nat.ne_of_gt (blk_lt (g := gb146) (o := .cells #[.int .i64 a0_0, .slice A0_1 l0_1.length c0_1] 30 (0, 0)) (by (with_reducible repeat (first | refine bN3 ?_ _ | refine bD3 ?_ | refine bA3 ?_ _)); exact BK146.out)) : gb174 ≠ gb146))
            have n15_ := zA3 ((by rw [hg]; exact Nat.ne_of_lt (blk_lt (g := gb147) (o := .cells #[.int .i64 a1_0, .int .i64 a1_1, .int .i64 a1_2] 32 (0, 0)) (by (with_reducible repeat (first | refine bN3 ?_ _ | refine bD3 ?_ | refine bA3 ?_ _)); exact BK147.out)) : gb147 ≠ gb174))
            have n16_ := zA3 ((by rw [hg]; exact Nat.ne_of_gt (blk_lt (g := gb147) (o := .cells #[.int .i64 a1_0, .int .i64 a1_1, .int .i64 a1_2] 32 (0, 0)) (by (with_reducible repeat (first | refine bN3 ?_ _ | refine bD3 ?_ | refine bA3 ?_ _)); exact BK147.out)) : gb174 ≠ gb147))
            have n17_ := zA3 ((by rw [hg]; exact Nat.ne_of_lt (blk_lt (g := gb148) (o := .cells #[.slice none 0 0, .slice none 0 0, .int .i64 x149002_2] 89 (0, 0)) (by (with_reducible repeat (first | refine bN3 ?_ _ | refine bD3 ?_ | refine bA3 ?_ _)); exact BK148.out)) : gb148 ≠ gb174))
            have n18_ := zA3 ((by rw [hg]; exact Nat.ne_of_gt (blk_lt (g := gb148) (o := .cells #[.slice none 0 0, .slice none 0 0, .int .i64 x149002_2] 89 (0, 0)) (by (with_reducible repeat (first | refine bN3 ?_ _ | refine bD3 ?_ | refine bA3 ?_ _)); exact BK148.out)) : gb174 ≠ gb148))
            have n19_ := zA3 ((by rw [hg]; exact Nat.ne_of_lt (blk_lt (g := gb155) (o := .cells #[u156000, u156001, .int .i64 x156002_2] 89 (0, 0)) (by (with_reducible repeat (first | refine bN3 ?_ _ | refine bD3 ?_ | refine bA3 ?_ _)); exact BK155.out)) : gb155 ≠ gb174))
            have n20_ := zA3 ((by rw [hg]; exact Nat.ne_of_gt (blk_lt (g := gb155) (o := .cells #[u156000, u156001, .int .i64 x156002_2] 89 (0, 0)) (by (with_reducible repeat (first | refine bN3 ?_ _ | refine bD3 ?_ | refine bA3 ?_ _)); exact BK155.out)) : gb174 ≠ gb155))
            have n21_ := zA3 ((by rw [hg]; exact Nat.ne_of_lt (blk_lt (g := gb159) (o := .cells #[.int .i64 x160000_2, .slice Ao125 x160001_2.length co125] 30 (0, 0)) (by (with_reducible repeat (first | refine bN3 ?_ _ | refine bD3 ?_ | refine bA3 ?_ _)); exact BK159.out)) : gb159 ≠ gb174))
            have n22_ := zA3 ((by rw [hg]; exact Nat.ne_of_gt (blk_lt (g := gb159) (o := .cells #[.int .i64 x160000_2, .slice Ao125 x160001_2.length co125] 30 (0, 0)) (by (with_reducible repeat (first | refine bN3 ?_ _ | refine bD3 ?_ | refine bA3 ?_ _)); exact BK159.out)) : gb174 ≠ gb159))
            clear HO_147001
            clear HO_156000
            clear HO_156001
            clear HO_160001
            clear BK146
            clear BK147
            clear BK148
            clear BK155
            clear BK159
            clear HB
            have HO_147001 := n0_
            have HO_156000 := n1_
            have HO_156001 := n2_
            have HO_160001 := n3_
            have BK146 := n4_
            have BK147 := n5_
            have BK148 := n6_
            have BK155 := n7_
            have BK159 := n8_
            have HB := n9_
            have BK174 := n10_
            have GW174 := n11_
            have GE174 := n12_
            have NB146_174 := n13_
            have NB174_146 := n14_
            have NB147_174 := n15_
            have NB174_147 := n16_
            have NB148_174 := n17_
            have NB174_148 := n18_
            have NB155_174 := n19_
            have NB174_155 := n20_
            have NB159_174 := n21_
            have NB174_159 := n22_
            clear n0_ n1_ n2_ n3_ n4_ n5_ n6_ n7_ n8_ n9_ n10_ n11_ n12_ n13_ n14_ n15_ n16_ n17_ n18_ n19_ n20_ n21_ n22_
            clear hb hbox hg
            refine hK.out _ _ ⟨(blk_cell BK159.out 0).trans rfl, (blk_cell BK159.out 1).trans rfl, ((HB.out.cell (World.block_lt_of_cell? w _ hw168_0)).trans hw168_0)⟩ (fun hHeld => ?_)
            clear hK K
            refine norm_ (a' := ?_) ?_ ?_
            rotate_left
            ·show Act.put _ (some 13) _ = _
             simp only [Act.put, List.setIfInBounds_toArray, List.set_cons_zero, List.set_cons_succ, i64_w, i32_w]
             rfl
            refine one_ (i := 6) (N := some 57) #[true, true, true, true, true, true, true, false, false, false, true, false, false] rfl rfl (one_of HT_.out (by kernel_rfl)) (by decide) (fun K hK => ?_)
            refine goes_ Try.func79 (by kernel_rfl) rfl #[.agg #[.int .i64 x160000_2, .slice Ao125 x160001_2.length co125], .int .i64 t160, .int .i64 (rd l2 x10_2)] (by rfl) rfl rfl (by (try simp only [List.map_toArray, List.map_cons, List.map_nil]); first | done | rfl | (simp only [List.length_drop, List.length_take]; rfl)) ?_
            with_reducible refine (spec_l11Day.calls x160000_2 _ _ x160001_2 t160 (rd l2 x10_2) t169 t170 t173 _ ?side1 ?side2 A69.out).mono ?_
            (case side1 => repeat (first | exact (Kd.V_reads' HO_160001.out).2.2 | (with_reducible refine Kd.C_alloc ?_ _) | (with_reducible refine Kd.C_drewN ?_ _) | (with_reducible refine Kd.C_drew ?_)))
            (case side2 => exact (Kd.V_reads' HO_160001.out).2.1)
            rintro e w129 ⟨v171, rfl, ho0, hb⟩
            refine ⟨_, rfl, ?_⟩
            have n0_ := zA3 (Kd.V_elder' (by (with_reducible repeat (first | apply Kd.V_alloc | apply Kd.V_drewN | apply Kd.V_drew)); exact HO_147001.out) (Kd.R_base ho0) hb)
            have n1_ := zA3 (Kd.R_elder' (by (with_reducible repeat (first | apply Kd.R_alloc | apply Kd.R_drewN | apply Kd.R_drew)); exact HO_156000.out) (Kd.R_base ho0) hb)
            have n2_ := zA3 (Kd.R_elder' (by (with_reducible repeat (first | apply Kd.R_alloc | apply Kd.R_drewN | apply Kd.R_drew)); exact HO_156001.out) (Kd.R_base ho0) hb)
            have n3_ := zA3 (Kd.V_elder' (by (with_reducible repeat (first | apply Kd.V_alloc | apply Kd.V_drewN | apply Kd.V_drew)); exact HO_160001.out) (Kd.R_base ho0) hb)
            have n4_ := zA3 (Kd.R_lower (Kd.R_new' (Kd.R_new' (Kd.R_newM (M := fun k_ => (w.heap.size ≤ k_)) ho0 (below_size (by repeat (first | (with_reducible first | exact HB.out | apply below_alloc | apply pw_below_drewN | apply below_drew1 | refine below_set ?_ GE146.out | refine below_set ?_ GE147.out | refine below_set ?_ GE148.out | refine below_set ?_ GE155.out | refine below_set ?_ GE159.out | refine below_set ?_ GE174.out) | exact HB.out))) (fun k_ h_ => h_)) (Kd.R_lt (by (with_reducible repeat (first | apply Kd.R_alloc | apply Kd.R_drewN | apply Kd.R_drew)); exact HO_156000.out))) (Kd.R_lt (by (with_reducible repeat (first | apply Kd.R_alloc | apply Kd.R_drewN | apply Kd.R_drew)); exact HO_156001.out))) (below_size (by repeat (first | (with_reducible first | exact HB.out | apply below_alloc | apply pw_below_drewN | apply below_drew1 | refine below_set ?_ GE146.out | refine below_set ?_ GE147.out | refine below_set ?_ GE148.out | refine below_set ?_ GE155.out | refine below_set ?_ GE159.out | refine below_set ?_ GE174.out) | exact HB.out))))
            have n5_ := zA3 (blk_below (g := gb146) (o := .cells #[.int .i64 a0_0, .slice A0_1 l0_1.length c0_1] 30 (0, 0)) (by (with_reducible repeat (first | refine bN3 ?_ _ | refine bD3 ?_ | refine bA3 ?_ _)); exact BK146.out) hb)
            have n6_ := zA3 (blk_below (g := gb147) (o := .cells #[.int .i64 a1_0, .int .i64 a1_1, .int .i64 a1_2] 32 (0, 0)) (by (with_reducible repeat (first | refine bN3 ?_ _ | refine bD3 ?_ | refine bA3 ?_ _)); exact BK147.out) hb)
            have n7_ := zA3 (blk_below (g := gb148) (o := .cells #[.slice none 0 0, .slice none 0 0, .int .i64 x149002_2] 89 (0, 0)) (by (with_reducible repeat (first | refine bN3 ?_ _ | refine bD3 ?_ | refine bA3 ?_ _)); exact BK148.out) hb)
            have n8_ := zA3 (blk_below (g := gb155) (o := .cells #[u156000, u156001, .int .i64 x156002_2] 89 (0, 0)) (by (with_reducible repeat (first | refine bN3 ?_ _ | refine bD3 ?_ | refine bA3 ?_ _)); exact BK155.out) hb)
            have n9_ := zA3 (blk_below (g := gb159) (o := .cells #[.int .i64 x160000_2, .slice Ao125 x160001_2.length co125] 30 (0, 0)) (by (with_reducible repeat (first | refine bN3 ?_ _ | refine bD3 ?_ | refine bA3 ?_ _)); exact BK159.out) hb)
            have n10_ := zA3 (blk_below (g := gb174) (o := .cells #[.int .i64 0, .slice none 0 0] 30 (0, 0)) (by (with_reducible repeat (first | refine bN3 ?_ _ | refine bD3 ?_ | refine bA3 ?_ _)); exact BK174.out) hb)
            have n11_ := zA3 (below_step (by repeat (first | (with_reducible first | exact HB.out | apply below_alloc | apply pw_below_drewN | apply below_drew1 | refine below_set ?_ GE146.out | refine below_set ?_ GE147.out | refine below_set ?_ GE148.out | refine below_set ?_ GE155.out | refine below_set ?_ GE159.out | refine below_set ?_ GE174.out) | exact HB.out)) hb)
            clear HO_147001
            clear HO_156000
            clear HO_156001
            clear HO_160001
            clear BK146
            clear BK147
            clear BK148
            clear BK155
            clear BK159
            clear BK174
            clear HB
            have HO_147001 := n0_
            have HO_156000 := n1_
            have HO_156001 := n2_
            have HO_160001 := n3_
            have HO172 := n4_
            have BK146 := n5_
            have BK147 := n6_
            have BK148 := n7_
            have BK155 := n8_
            have BK159 := n9_
            have BK174 := n10_
            have HB := n11_
            clear n0_ n1_ n2_ n3_ n4_ n5_ n6_ n7_ n8_ n9_ n10_ n11_
            (try clear hb)
            (try clear hb2)
            (try clear hk)
            (try clear hi)
            (try clear ho0)
            refine hK.out _ _ ⟨(blk_cell BK159.out 0).trans rfl, (blk_cell BK159.out 1).trans rfl, ((HB.out.cell (World.block_lt_of_cell? w _ hw168_0)).trans hw168_0)⟩ (fun hHeld => ?_)
            clear hK K
            refine norm_ (a' := ?_) ?_ ?_
            rotate_left
            ·show Act.put _ (some 57) _ = _
             simp only [Act.put, List.setIfInBounds_toArray, List.set_cons_zero, List.set_cons_succ, i64_w, i32_w]
             rfl
            refine pure_ (i := 7) (N := some 50) (v := ?_) (a' := ?_) #[true, true, true, true, true, true, true, true, false, false, true, false, false] rfl rfl (any_of HT_.out (by kernel_rfl)) (fun _ _ _ h => h) (Or.inl ⟨by rfl, ?_⟩) ?_ ?_
            rotate_left
            ·intro w'
             go_simp
             with_reducible rfl
            rotate_left
            ·simp only [Act.put, List.setIfInBounds_toArray, List.set_cons_zero, List.set_cons_succ, i64_w, i32_w]
             rfl
            refine pure_ (i := 8) (N := some 58) (v := ?_) (a' := ?_) #[true, true, true, true, true, true, true, true, true, false, true, false, false] rfl rfl (any_of HT_.out (by kernel_rfl)) (fun _ _ _ h => h) (Or.inl ⟨by rfl, ?_⟩) ?_ ?_
            rotate_left
            ·intro w'
             go_simp
             with_reducible rfl
            rotate_left
            ·simp only [Act.put, List.setIfInBounds_toArray, List.set_cons_zero, List.set_cons_succ, i64_w, i32_w]
             rfl
            refine pure_ (i := 9) (N := some 59) (v := ?_) (a' := ?_) #[true, true, true, true, true, true, true, true, true, true, true, false, false] rfl rfl (any_of HT_.out (by kernel_rfl)) (fun _ _ _ h => h) (Or.inl ⟨by rfl, ?_⟩) ?_ ?_
            rotate_left
            ·intro w'
             go_simp
             with_reducible rfl
            rotate_left
            ·simp only [Act.put, List.setIfInBounds_toArray, List.set_cons_zero, List.set_cons_succ, i64_w, i32_w]
             rfl
            exact norm_ (by simp only [putAll, Act.put, List.setIfInBounds_toArray, List.set_cons_zero, List.set_cons_succ]) (hCont (v171, gb174) _ ⟨hHeld, (by (with_reducible repeat (first | apply Kd.R_alloc | apply Kd.R_drewN | apply Kd.R_drew)); exact Kd.R_mono HO172.out (fun _ hk => ⟨hk.1.1.1, ⟨hk.1.2, hk.2⟩⟩)), (by (with_reducible repeat (first | apply Kd.V_alloc | apply Kd.V_drewN | apply Kd.V_drew)); exact Kd.V_mono HO_147001.out (fun _ hk => ⟨hk.1.1.1, ⟨hk.2, ⟨hk.1.1.2.1, ⟨hk.1.1.2.2.1, ⟨hk.1.1.2.2.2.1, ⟨hk.1.1.2.2.2.2.1, ⟨hk.1.1.2.2.2.2.2.1, ⟨hk.1.1.2.2.2.2.2.2.1, ⟨hk.1.1.2.2.2.2.2.2.2, hk.1.2⟩⟩⟩⟩⟩⟩⟩⟩⟩)), (by (with_reducible repeat (first | apply Kd.R_alloc | apply Kd.R_drewN | apply Kd.R_drew)); exact Kd.R_mono HO_156000.out (fun _ hk => ⟨hk.1.1, ⟨hk.2, hk.1.2⟩⟩)), (by (with_reducible repeat (first | apply Kd.R_alloc | apply Kd.R_drewN | apply Kd.R_drew)); exact Kd.R_mono HO_156001.out (fun _ hk => ⟨hk.1.1, ⟨hk.2, hk.1.2⟩⟩)), (by (with_reducible repeat (first | apply Kd.V_alloc | apply Kd.V_drewN | apply Kd.V_drew)); exact Kd.V_mono HO_160001.out (fun _ hk => ⟨hk.1.1.1, ⟨hk.2, ⟨hk.1.1.2.1, ⟨hk.1.1.2.2.1, ⟨hk.1.1.2.2.2.1, ⟨hk.1.1.2.2.2.2.1, ⟨hk.1.1.2.2.2.2.2.1, ⟨hk.1.1.2.2.2.2.2.2.1, ⟨hk.1.1.2.2.2.2.2.2.2, hk.1.2⟩⟩⟩⟩⟩⟩⟩⟩⟩)), (by (with_reducible repeat (first | refine bN3 ?_ _ | refine bD3 ?_ | refine bA3 ?_ _)); exact BK146.out), (by (with_reducible repeat (first | refine bN3 ?_ _ | refine bD3 ?_ | refine bA3 ?_ _)); exact BK147.out), (by (with_reducible repeat (first | refine bN3 ?_ _ | refine bD3 ?_ | refine bA3 ?_ _)); exact BK148.out), (by (with_reducible repeat (first | refine bN3 ?_ _ | refine bD3 ?_ | refine bA3 ?_ _)); exact BK155.out), (by (with_reducible repeat (first | refine bN3 ?_ _ | refine bD3 ?_ | refine bA3 ?_ _)); exact BK159.out), (by (with_reducible repeat (first | refine bN3 ?_ _ | refine bD3 ?_ | refine bA3 ?_ _)); exact BK174.out), GW174.out, GE174.out, NB146_174.out, NB174_146.out, NB147_174.out, NB174_147.out, NB148_174.out, NB174_148.out, NB155_174.out, NB174_155.out, NB159_174.out, NB174_159.out, (by repeat (first | (with_reducible first | exact HB.out | apply below_alloc | apply pw_below_drewN | apply below_drew1 | refine below_set ?_ GE146.out | refine below_set ?_ GE147.out | refine below_set ?_ GE148.out | refine below_set ?_ GE155.out | refine below_set ?_ GE159.out | refine below_set ?_ GE174.out) | exact HB.out))⟩)
          rintro ⟨v171, gb174⟩ w130 ⟨hS_, h0_, h1_, h2_, h3_, h4_, h5_, h6_, h7_, h8_, h9_, h10_, h11_, h12_, h13_, h14_, h15_, h16_, h17_, h18_, h19_, h20_, h21_, h22_, h23_⟩
          have n0_ : Aside0 (Kd.R (Kd.int .i64) 3 w130 w.heap.size (fun k_ => (w.heap.size ≤ k_) ∧ some k_ ≠ (u156000 : Value).ownBlock ∧ some k_ ≠ (u156001 : Value).ownBlock) v171 t170) := ⟨h0_⟩
          have n1_ : Aside0 (Kd.V (Kd.int .i64) 3 w130 w.heap.size (fun k_ => (P0_1_ k_ ∨ w.heap.size ≤ k_) ∧ some k_ ≠ (v171 : Value).ownBlock ∧ some k_ ≠ (u156000 : Value).ownBlock ∧ some k_ ≠ (u156001 : Value).ownBlock ∧ k_ ≠ gb146 ∧ k_ ≠ gb147 ∧ k_ ≠ gb148 ∧ k_ ≠ gb155 ∧ k_ ≠ gb159 ∧ k_ ≠ gb174) (.slice A0_1 l0_1.length c0_1) l0_1) := ⟨h1_⟩
          have n2_ : Aside0 (Kd.R (Kd.int .i64) 3 w130 w.heap.size (fun k_ => (w.heap.size ≤ k_) ∧ some k_ ≠ (v171 : Value).ownBlock ∧ some k_ ≠ (u156001 : Value).ownBlock) u156000 x156000_2) := ⟨h2_⟩
          have n3_ : Aside0 (Kd.R (Kd.int .i64) 3 w130 w.heap.size (fun k_ => (w.heap.size ≤ k_) ∧ some k_ ≠ (v171 : Value).ownBlock ∧ some k_ ≠ (u156000 : Value).ownBlock) u156001 x156001_2) := ⟨h3_⟩
          have n4_ : Aside0 (Kd.V (Kd.int .i64) 3 w130 w.heap.size (fun k_ => (P0_1_ k_ ∨ w.heap.size ≤ k_) ∧ some k_ ≠ (v171 : Value).ownBlock ∧ some k_ ≠ (u156000 : Value).ownBlock ∧ some k_ ≠ (u156001 : Value).ownBlock ∧ k_ ≠ gb146 ∧ k_ ≠ gb147 ∧ k_ ≠ gb148 ∧ k_ ≠ gb155 ∧ k_ ≠ gb159 ∧ k_ ≠ gb174) (.slice Ao125 x160001_2.length co125) x160001_2) := ⟨h4_⟩
          have n5_ : Aside0 (w130.heap[gb146]? = some (.cells #[.int .i64 a0_0, .slice A0_1 l0_1.length c0_1] 30 (0, 0))) := ⟨h5_⟩
          have n6_ : Aside0 (w130.heap[gb147]? = some (.cells #[.int .i64 a1_0, .int .i64 a1_1, .int .i64 a1_2] 32 (0, 0))) := ⟨h6_⟩
          have n7_ : Aside0 (w130.heap[gb148]? = some (.cells #[.slice none 0 0, .slice none 0 0, .int .i64 x149002_2] 89 (0, 0))) := ⟨h7_⟩
          have n8_ : Aside0 (w130.heap[gb155]? = some (.cells #[u156000, u156001, .int .i64 x156002_2] 89 (0, 0))) := ⟨h8_⟩
          have n9_ : Aside0 (w130.heap[gb159]? = some (.cells #[.int .i64 x160000_2, .slice Ao125 x160001_2.length co125] 30 (0, 0))) := ⟨h9_⟩
          have n10_ : Aside0 (w130.heap[gb174]? = some (.cells #[.int .i64 0, .slice none 0 0] 30 (0, 0))) := ⟨h10_⟩
          have n11_ : Aside0 (w.heap.size ≤ gb174) := ⟨h11_⟩
          have n12_ : Aside0 (w.heap.size ≤ gb174) := ⟨h12_⟩
          have n13_ : Aside0 (gb146 ≠ gb174) := ⟨h13_⟩
          have n14_ : Aside0 (gb174 ≠ gb146) := ⟨h14_⟩
          have n15_ : Aside0 (gb147 ≠ gb174) := ⟨h15_⟩
          have n16_ : Aside0 (gb174 ≠ gb147) := ⟨h16_⟩
          have n17_ : Aside0 (gb148 ≠ gb174) := ⟨h17_⟩
          have n18_ : Aside0 (gb174 ≠ gb148) := ⟨h18_⟩
          have n19_ : Aside0 (gb155 ≠ gb174) := ⟨h19_⟩
          have n20_ : Aside0 (gb174 ≠ gb155) := ⟨h20_⟩
          have n21_ : Aside0 (gb159 ≠ gb174) := ⟨h21_⟩
          have n22_ : Aside0 (gb174 ≠ gb159) := ⟨h22_⟩
          have n23_ : Aside0 (Below w.heap.size w w130) := ⟨h23_⟩
          clear HO_147001
          clear HO_156000
          clear HO_156001
          clear HO_160001
          clear BK146
          clear BK147
          clear BK148
          clear BK155
          clear BK159
          clear HB
          clear h0_ h1_ h2_ h3_ h4_ h5_ h6_ h7_ h8_ h9_ h10_ h11_ h12_ h13_ h14_ h15_ h16_ h17_ h18_ h19_ h20_ h21_ h22_ h23_
          have HO172 := n0_
          have HO_147001 := n1_
          have HO_156000 := n2_
          have HO_156001 := n3_
          have HO_160001 := n4_
          have BK146 := n5_
          have BK147 := n6_
          have BK148 := n7_
          have BK155 := n8_
          have BK159 := n9_
          have BK174 := n10_
          have GW174 := n11_
          have GE174 := n12_
          have NB146_174 := n13_
          have NB174_146 := n14_
          have NB147_174 := n15_
          have NB174_147 := n16_
          have NB148_174 := n17_
          have NB174_148 := n18_
          have NB155_174 := n19_
          have NB174_155 := n20_
          have NB159_174 := n21_
          have NB174_159 := n22_
          have HB := n23_
          clear n0_ n1_ n2_ n3_ n4_ n5_ n6_ n7_ n8_ n9_ n10_ n11_ n12_ n13_ n14_ n15_ n16_ n17_ n18_ n19_ n20_ n21_ n22_ n23_
          have hHeld : w130.cell? ⟨gb159, 0, none⟩ = some (.int .i64 x160000_2) ∧ w130.cell? ⟨gb159, 1, none⟩ = some (.slice Ao125 x160001_2.length co125) ∧ w130.cell? (ad168.add (x10_2).toNat) = some (.int .i64 (rd l2 x10_2)) := hS_
          obtain ⟨Ao132, co132, eo132⟩ := Kd.R_slice HO172.out
          (first | subst eo132 | (injection eo132 with f1_ f2_ f3_; have f4_ := f1_.symm; have f5_ := f3_.symm; clear f1_ f2_ f3_; subst f4_; subst f5_))
          refine norm_ (a' := ?_) ?_ ?_
          rotate_left
          ·simp only [putAll, Act.put, List.setIfInBounds_toArray, List.set_cons_zero, List.set_cons_succ]
           rfl
          refine one_ (i := 11) (N := none) #[true, true, true, true, true, true, true, true, true, true, true, true, false] rfl rfl (one_of HT_.out (by kernel_rfl)) (by decide) (fun K hK => ?_)
          have hs131 : w130.cell? ⟨gb174, 0, none⟩ = some (.int .i64 0) := (blk_cell BK174.out 0).trans rfl
          have hfs131 := blk_frozen BK174.out 0
          have hns131_0 := NB146_174.out
          have hns131_1 := NB147_174.out
          have hns131_2 := NB148_174.out
          have hns131_3 := NB155_174.out
          have hns131_4 := NB159_174.out
          have hms131_0 := NB174_146.out
          have hms131_1 := NB174_147.out
          have hms131_2 := NB174_148.out
          have hms131_3 := NB174_155.out
          have hms131_4 := NB174_159.out
          have hs133 : w130.cell? ⟨gb174, 1, none⟩ = some (.slice none 0 0) := (blk_cell BK174.out 1).trans rfl
          have hfs133 := blk_frozen BK174.out 1
          have hns133_0 := NB146_174.out
          have hns133_1 := NB147_174.out
          have hns133_2 := NB148_174.out
          have hns133_3 := NB155_174.out
          have hns133_4 := NB159_174.out
          have hms133_0 := NB174_146.out
          have hms133_1 := NB174_147.out
          have hms133_2 := NB174_148.out
          have hms133_3 := NB174_155.out
          have hms133_4 := NB174_159.out
          refine skip_ (w1 := ?_) (by rfl) rfl ?_ ?_
          rotate_left
          ·go_simp
           rfl
          refine hK.out _ _ ⟨((cell_far (p := ⟨gb174, _, none⟩) NB159_174.out _).trans (((cell_far (p := ⟨gb174, _, none⟩) NB159_174.out _).trans (hHeld.1)))), ((cell_far (p := ⟨gb174, _, none⟩) NB159_174.out _).trans (((cell_far (p := ⟨gb174, _, none⟩) NB159_174.out _).trans (hHeld.2.1)))), ((cell_far (p := ⟨gb174, _, none⟩) (by first | exact Nat.ne_of_lt (Nat.lt_of_lt_of_le (by have := World.block_lt_of_cell? _ _ hw168_0; first | rwa [add_block] at this | exact this) GW174.out) | (rw [add_block]; exact Nat.ne_of_lt (Nat.lt_of_lt_of_le (by have := World.block_lt_of_cell? _ _ hw168_0; first | rwa [add_block] at this | exact this) GW174.out)) | (show (Addr.add _ _).block ≠ _; rw [add_block]; exact Nat.ne_of_lt (Nat.lt_of_lt_of_le (by have := World.block_lt_of_cell? _ _ hw168_0; first | rwa [add_block] at this | exact this) GW174.out)) | (dsimp only; exact Nat.ne_of_lt (Nat.lt_of_lt_of_le (by have := World.block_lt_of_cell? _ _ hw168_0; first | rwa [add_block] at this | exact this) GW174.out))) _).trans (((cell_far (p := ⟨gb174, _, none⟩) (by first | exact Nat.ne_of_lt (Nat.lt_of_lt_of_le (by have := World.block_lt_of_cell? _ _ hw168_0; first | rwa [add_block] at this | exact this) GW174.out) | (rw [add_block]; exact Nat.ne_of_lt (Nat.lt_of_lt_of_le (by have := World.block_lt_of_cell? _ _ hw168_0; first | rwa [add_block] at this | exact this) GW174.out)) | (show (Addr.add _ _).block ≠ _; rw [add_block]; exact Nat.ne_of_lt (Nat.lt_of_lt_of_le (by have := World.block_lt_of_cell? _ _ hw168_0; first | rwa [add_block] at this | exact this) GW174.out)) | (dsimp only; exact Nat.ne_of_lt (Nat.lt_of_lt_of_le (by have := World.block_lt_of_cell? _ _ hw168_0; first | rwa [add_block] at this | exact this) GW174.out))) _).trans (hHeld.2.2))))⟩ (fun hHeld => ?_)
          clear hK K
          refine pure_ (i := 12) (N := some 14) (v := ?_) (a' := ?_) #[true, true, true, true, true, true, true, true, true, true, true, true, true] rfl rfl (any_of HT_.out (by kernel_rfl)) (fun _ _ _ h => h) (Or.inl ⟨by rfl, ?_⟩) ?_ ?_
          rotate_left
          ·intro w'
           go_simp
           with_reducible rfl
          rotate_left
          ·simp only [Act.put, List.setIfInBounds_toArray, List.set_cons_zero, List.set_cons_succ, i64_w, i32_w]
           rfl
          refine done_ (done_of HT_.out (by kernel_rfl)) ?_
          have hnb134 := NB174_146.out
          have hnc134 := NB146_174.out
          have hnb135 := NB174_147.out
          have hnc135 := NB147_174.out
          have hnb136 := NB174_148.out
          have hnc136 := NB148_174.out
          have hnb137 := NB174_155.out
          have hnc137 := NB155_174.out
          have hnb138 := NB174_159.out
          have hnc138 := NB159_174.out
          have hcz139_0 : w130.cell? ⟨gb174, 0, none⟩ = some (.int .i64 0) := (blk_cell BK174.out 0).trans rfl
          have hcz139_1 : w130.cell? ⟨gb174, 1, none⟩ = some (.slice none 0 0) := (blk_cell BK174.out 1).trans rfl
          have hfz139_0 := blk_frozen BK174.out 0
          have hfz139_1 := blk_frozen BK174.out 1
          try go_wp2_with (first | ((with_reducible refine gate_callee (f := 77) rfl ?_); refine goesL_ (some 61) rfl rfl Try.func77 (by kernel_rfl) rfl #[.agg #[.int .i64 t169, .slice Ao132 t170.length co132]] rfl (by (try simp only [List.map_toArray, List.map_cons, List.map_nil]); first | done | rfl | (simp only [List.length_drop, List.length_take]; rfl)) ?_; (with_reducible refine (spec_l11Flow.calls k2 t169 _ _ t170 false _ ?side1 ?side2 A70.out).mono ?_); (case side1 => refine (Kd.R_reads' (e := 3) (base := w.heap.size) (ok := fun k_ => ((w.heap.size ≤ k_) ∧ (some k_ ≠ (u156000 : Value).ownBlock ∧ some k_ ≠ (u156001 : Value).ownBlock))) (n := t170.length) (c := co132) ?_).2.2; exact (by (with_reducible repeat (first | apply Kd.R_alloc | apply Kd.R_drewN | apply Kd.R_drew)); exact (Kd.R_mono (Kd.R_far (p := ⟨gb174, 1, none⟩) (Kd.R_far (p := ⟨gb174, 0, none⟩) (Kd.R_types HO172.out BK174.out (by decide)) (fun _ hk => hk.2) (.int .i64 t169)) (fun _ hk => hk.2) (.slice Ao132 t170.length co132)) (fun _ h_ => h_.1)))); (case side2 => exact (Kd.R_reads' HO172.out).2.1); rintro e w140 ⟨rfl, hb⟩; refine ⟨_, rfl, ?_⟩; have n0_ := zA3 (Kd.V_below (by (with_reducible repeat (first | apply Kd.V_alloc | apply Kd.V_drewN | apply Kd.V_drew)); exact (Kd.V_mono (Kd.V_far (p := ⟨gb174, 1, none⟩) (Kd.V_far (p := ⟨gb174, 0, none⟩) (Kd.V_mono HO_147001.out (fun k_ hk => (⟨hk, hk.2.2.2.2.2.2.2.2.2⟩ : _ ∧ k_ ≠ gb174))) (fun _ hk => hk.2) (.int .i64 t169)) (fun _ hk => hk.2) (.slice Ao132 t170.length co132)) (fun _ h_ => h_.1))) hb); have n1_ := zA3 (Kd.R_below (by (with_reducible repeat (first | apply Kd.R_alloc | apply Kd.R_drewN | apply Kd.R_drew)); exact (Kd.R_mono (Kd.R_far (p := ⟨gb174, 1, none⟩) (Kd.R_far (p := ⟨gb174, 0, none⟩) (Kd.R_types HO_156000.out BK174.out (by decide)) (fun _ hk => hk.2) (.int .i64 t169)) (fun _ hk => hk.2) (.slice Ao132 t170.length co132)) (fun _ h_ => h_.1))) hb); have n2_ := zA3 (Kd.R_below (by (with_reducible repeat (first | apply Kd.R_alloc | apply Kd.R_drewN | apply Kd.R_drew)); exact (Kd.R_mono (Kd.R_far (p := ⟨gb174, 1, none⟩) (Kd.R_far (p := ⟨gb174, 0, none⟩) (Kd.R_types HO_156001.out BK174.out (by decide)) (fun _ hk => hk.2) (.int .i64 t169)) (fun _ hk => hk.2) (.slice Ao132 t170.length co132)) (fun _ h_ => h_.1))) hb); have n3_ := zA3 (Kd.V_below (by (with_reducible repeat (first | apply Kd.V_alloc | apply Kd.V_drewN | apply Kd.V_drew)); exact (Kd.V_mono (Kd.V_far (p := ⟨gb174, 1, none⟩) (Kd.V_far (p := ⟨gb174, 0, none⟩) (Kd.V_mono HO_160001.out (fun k_ hk => (⟨hk, hk.2.2.2.2.2.2.2.2.2⟩ : _ ∧ k_ ≠ gb174))) (fun _ hk => hk.2) (.int .i64 t169)) (fun _ hk => hk.2) (.slice Ao132 t170.length co132)) (fun _ h_ => h_.1))) hb); have n4_ := zA3 (Kd.R_below (by (with_reducible repeat (first | apply Kd.R_alloc | apply Kd.R_drewN | apply Kd.R_drew)); exact (Kd.R_mono (Kd.R_far (p := ⟨gb174, 1, none⟩) (Kd.R_far (p := ⟨gb174, 0, none⟩) (Kd.R_types HO172.out BK174.out (by decide)) (fun _ hk => hk.2) (.int .i64 t169)) (fun _ hk => hk.2) (.slice Ao132 t170.length co132)) (fun _ h_ => h_.1))) hb); have n5_ := zA3 (blk_below (g := gb146) (o := .cells #[.int .i64 a0_0, .slice A0_1 l0_1.length c0_1] 30 (0, 0)) (by (with_reducible repeat (first | refine bN3 ?_ _ | refine bD3 ?_ | refine bA3 ?_ _)); refine blk_far ?_ NB146_174.out _; (with_reducible repeat (first | refine bN3 ?_ _ | refine bD3 ?_ | refine bA3 ?_ _)); refine blk_far ?_ NB146_174.out _; (with_reducible repeat (first | refine bN3 ?_ _ | refine bD3 ?_ | refine bA3 ?_ _)); exact BK146.out) hb); have n6_ := zA3 (blk_below (g := gb147) (o := .cells #[.int .i64 a1_0, .int .i64 a1_1, .int .i64 a1_2] 32 (0, 0)) (by (with_reducible repeat (first | refine bN3 ?_ _ | refine bD3 ?_ | refine bA3 ?_ _)); refine blk_far ?_ NB147_174.out _; (with_reducible repeat (first | refine bN3 ?_ _ | refine bD3 ?_ | refine bA3 ?_ _)); refine blk_far ?_ NB147_174.out _; (with_reducible repeat (first | refine bN3 ?_ _ | refine bD3 ?_ | refine bA3 ?_ _)); exact BK147.out) hb); have n7_ := zA3 (blk_below (g := gb148) (o := .cells #[.slice none 0 0, .slice none 0 0, .int .i64 x149002_2] 89 (0, 0)) (by (with_reducible repeat (first | refine bN3 ?_ _ | refine bD3 ?_ | refine bA3 ?_ _)); refine blk_far ?_ NB148_174.out _; (with_reducible repeat (first | refine bN3 ?_ _ | refine bD3 ?_ | refine bA3 ?_ _)); refine blk_far ?_ NB148_174.out _; (with_reducible repeat (first | refine bN3 ?_ _ | refine bD3 ?_ | refine bA3 ?_ _)); exact BK148.out) hb); have n8_ := zA3 (blk_below (g := gb155) (o := .cells #[u156000, u156001, .int .i64 x156002_2] 89 (0, 0)) (by (with_reducible repeat (first | refine bN3 ?_ _ | refine bD3 ?_ | refine bA3 ?_ _)); refine blk_far ?_ NB155_174.out _; (with_reducible repeat (first | refine bN3 ?_ _ | refine bD3 ?_ | refine bA3 ?_ _)); refine blk_far ?_ NB155_174.out _; (with_reducible repeat (first | refine bN3 ?_ _ | refine bD3 ?_ | refine bA3 ?_ _)); exact BK155.out) hb); have n9_ := zA3 (blk_below (g := gb159) (o := .cells #[.int .i64 x160000_2, .slice Ao125 x160001_2.length co125] 30 (0, 0)) (by (with_reducible repeat (first | refine bN3 ?_ _ | refine bD3 ?_ | refine bA3 ?_ _)); refine blk_far ?_ NB159_174.out _; (with_reducible repeat (first | refine bN3 ?_ _ | refine bD3 ?_ | refine bA3 ?_ _)); refine blk_far ?_ NB159_174.out _; (with_reducible repeat (first | refine bN3 ?_ _ | refine bD3 ?_ | refine bA3 ?_ _)); exact BK159.out) hb); have n10_ := zA3 (blk_below (g := gb174) (o := .cells #[.int .i64 t169, .slice Ao132 t170.length co132] 30 (0, 0)) (by (with_reducible repeat (first | refine bN3 ?_ _ | refine bD3 ?_ | refine bA3 ?_ _)); refine blk_put (cs := #[.int .i64 t169, .slice none 0 0]) ?_ 1 _ rfl; (with_reducible repeat (first | refine bN3 ?_ _ | refine bD3 ?_ | refine bA3 ?_ _)); refine blk_put (cs := #[.int .i64 0, .slice none 0 0]) ?_ 0 _ rfl; (with_reducible repeat (first | refine bN3 ?_ _ | refine bD3 ?_ | refine bA3 ?_ _)); exact BK174.out) hb); have n11_ := zA3 (below_step (by repeat (first | (with_reducible first | exact HB.out | apply below_alloc | apply pw_below_drewN | apply below_drew1 | refine below_set ?_ GE146.out | refine below_set ?_ GE147.out | refine below_set ?_ GE148.out | refine below_set ?_ GE155.out | refine below_set ?_ GE159.out | refine below_set ?_ GE174.out) | exact HB.out)) hb); clear HO_147001; clear HO_156000; clear HO_156001; clear HO_160001; clear HO172; clear BK146; clear BK147; clear BK148; clear BK155; clear BK159; clear BK174; clear HB; have HO_147001 := n0_; have HO_156000 := n1_; have HO_156001 := n2_; have HO_160001 := n3_; have HO172 := n4_; have BK146 := n5_; have BK147 := n6_; have BK148 := n7_; have BK155 := n8_; have BK159 := n9_; have BK174 := n10_; have HB := n11_; clear n0_ n1_ n2_ n3_ n4_ n5_ n6_ n7_ n8_ n9_ n10_ n11_; (try clear hb); (try clear hb2); (try clear hk); (try clear hi)) | ((with_reducible refine gate_dst (N := 63) rfl ?_); refine Kd.R_lit (Kd.int .i64) _ 3 ?hg (N := 63) ?hd (xs := ([] : List Int)) (inner := []) (ok := fun _ => True) (okp := fun _ => True) ?hr ?hp (fun _ hk => hk) trivial (Below.refl _ _) (Nat.le_refl _) (by simp) ?_; (case hd => rfl); (case hg => rfl); (case hr => first | (go_simp; done) | (go_simp; rfl)); (case hp => exact (Reps.none _ _)); intro v186 w141 ho142 hb hg_ hnew_; clear hg_ hnew_; (first | rw [← Ny185.out] at ho142 | (simp only [Int.reduceToNat] at ho142; rw [← Ny185.out] at ho142)); have n0_ := zA3 (Kd.V_elder' (by (with_reducible repeat (first | apply Kd.V_alloc | apply Kd.V_drewN | apply Kd.V_drew)); exact HO_147001.out) (Kd.R_base ho142) hb); have n1_ := zA3 (Kd.R_elder' (by (with_reducible repeat (first | apply Kd.R_alloc | apply Kd.R_drewN | apply Kd.R_drew)); exact HO_156000.out) (Kd.R_base ho142) hb); have n2_ := zA3 (Kd.R_elder' (by (with_reducible repeat (first | apply Kd.R_alloc | apply Kd.R_drewN | apply Kd.R_drew)); exact HO_156001.out) (Kd.R_base ho142) hb); have n3_ := zA3 (Kd.V_elder' (by (with_reducible repeat (first | apply Kd.V_alloc | apply Kd.V_drewN | apply Kd.V_drew)); exact HO_160001.out) (Kd.R_base ho142) hb); have n4_ := zA3 (Kd.R_elder' (by (with_reducible repeat (first | apply Kd.R_alloc | apply Kd.R_drewN | apply Kd.R_drew)); exact HO172.out) (Kd.R_base ho142) hb); have n5_ := zA3 (Kd.R_lower (Kd.R_new' (Kd.R_new' (Kd.R_new' (Kd.R_newM (M := fun k_ => (w.heap.size ≤ k_)) ho142 (below_size (by repeat (first | (with_reducible first | exact HB.out | apply below_alloc | apply pw_below_drewN | apply below_drew1 | refine below_set ?_ GE146.out | refine below_set ?_ GE147.out | refine below_set ?_ GE148.out | refine below_set ?_ GE155.out | refine below_set ?_ GE159.out | refine below_set ?_ GE174.out) | exact HB.out))) (fun k_ h_ => h_)) (Kd.R_lt (by (with_reducible repeat (first | apply Kd.R_alloc | apply Kd.R_drewN | apply Kd.R_drew)); exact HO_156000.out))) (Kd.R_lt (by (with_reducible repeat (first | apply Kd.R_alloc | apply Kd.R_drewN | apply Kd.R_drew)); exact HO_156001.out))) (Kd.R_lt (by (with_reducible repeat (first | apply Kd.R_alloc | apply Kd.R_drewN | apply Kd.R_drew)); exact HO172.out))) (below_size (by repeat (first | (with_reducible first | exact HB.out | apply below_alloc | apply pw_below_drewN | apply below_drew1 | refine below_set ?_ GE146.out | refine below_set ?_ GE147.out | refine below_set ?_ GE148.out | refine below_set ?_ GE155.out | refine below_set ?_ GE159.out | refine below_set ?_ GE174.out) | exact HB.out)))); have n6_ := zA3 (blk_below (g := gb146) (o := .cells #[.int .i64 a0_0, .slice A0_1 l0_1.length c0_1] 30 (0, 0)) (by (with_reducible repeat (first | refine bN3 ?_ _ | refine bD3 ?_ | refine bA3 ?_ _)); exact BK146.out) hb); have n7_ := zA3 (blk_below (g := gb147) (o := .cells #[.int .i64 a1_0, .int .i64 a1_1, .int .i64 a1_2] 32 (0, 0)) (by (with_reducible repeat (first | refine bN3 ?_ _ | refine bD3 ?_ | refine bA3 ?_ _)); exact BK147.out) hb); have n8_ := zA3 (blk_below (g := gb148) (o := .cells #[.slice none 0 0, .slice none 0 0, .int .i64 x149002_2] 89 (0, 0)) (by (with_reducible repeat (first | refine bN3 ?_ _ | refine bD3 ?_ | refine bA3 ?_ _)); exact BK148.out) hb); have n9_ := zA3 (blk_below (g := gb155) (o := .cells #[u156000, u156001, .int .i64 x156002_2] 89 (0, 0)) (by (with_reducible repeat (first | refine bN3 ?_ _ | refine bD3 ?_ | refine bA3 ?_ _)); exact BK155.out) hb); have n10_ := zA3 (blk_below (g := gb159) (o := .cells #[.int .i64 x160000_2, .slice Ao125 x160001_2.length co125] 30 (0, 0)) (by (with_reducible repeat (first | refine bN3 ?_ _ | refine bD3 ?_ | refine bA3 ?_ _)); exact BK159.out) hb); have n11_ := zA3 (blk_below (g := gb174) (o := .cells #[.int .i64 t169, .slice Ao132 t170.length co132] 30 (0, 0)) (by (with_reducible repeat (first | refine bN3 ?_ _ | refine bD3 ?_ | refine bA3 ?_ _)); exact BK174.out) hb); have n12_ := zA3 (below_step (by repeat (first | (with_reducible first | exact HB.out | apply below_alloc | apply pw_below_drewN | apply below_drew1 | refine below_set ?_ GE146.out | refine below_set ?_ GE147.out | refine below_set ?_ GE148.out | refine below_set ?_ GE155.out | refine below_set ?_ GE159.out | refine below_set ?_ GE174.out) | exact HB.out)) hb); clear HO_147001; clear HO_156000; clear HO_156001; clear HO_160001; clear HO172; clear BK146; clear BK147; clear BK148; clear BK155; clear BK159; clear BK174; clear HB; have HO_147001 := n0_; have HO_156000 := n1_; have HO_156001 := n2_; have HO_160001 := n3_; have HO172 := n4_; have HO187 := n5_; have BK146 := n6_; have BK147 := n7_; have BK148 := n8_; have BK155 := n9_; have BK159 := n10_; have BK174 := n11_; have HB := n12_; clear n0_ n1_ n2_ n3_ n4_ n5_ n6_ n7_ n8_ n9_ n10_ n11_ n12_; clear hb ho142) | ((with_reducible refine gate_dst (N := 64) rfl ?_); refine Kd.R_lit (Kd.int .i64) _ 3 ?hg (N := 64) ?hd (xs := ([] : List Int)) (inner := []) (ok := fun _ => True) (okp := fun _ => True) ?hr ?hp (fun _ hk => hk) trivial (Below.refl _ _) (Nat.le_refl _) (by simp) ?_; (case hd => rfl); (case hg => rfl); (case hr => first | (go_simp; done) | (go_simp; rfl)); (case hp => exact (Reps.none _ _)); intro v189 w143 ho144 hb hg_ hnew_; clear hg_ hnew_; (first | rw [← Ny188.out] at ho144 | (simp only [Int.reduceToNat] at ho144; rw [← Ny188.out] at ho144)); have n0_ := zA3 (Kd.V_elder' (by (with_reducible repeat (first | apply Kd.V_alloc | apply Kd.V_drewN | apply Kd.V_drew)); exact HO_147001.out) (Kd.R_base ho144) hb); have n1_ := zA3 (Kd.R_elder' (by (with_reducible repeat (first | apply Kd.R_alloc | apply Kd.R_drewN | apply Kd.R_drew)); exact HO_156000.out) (Kd.R_base ho144) hb); have n2_ := zA3 (Kd.R_elder' (by (with_reducible repeat (first | apply Kd.R_alloc | apply Kd.R_drewN | apply Kd.R_drew)); exact HO_156001.out) (Kd.R_base ho144) hb); have n3_ := zA3 (Kd.V_elder' (by (with_reducible repeat (first | apply Kd.V_alloc | apply Kd.V_drewN | apply Kd.V_drew)); exact HO_160001.out) (Kd.R_base ho144) hb); have n4_ := zA3 (Kd.R_elder' (by (with_reducible repeat (first | apply Kd.R_alloc | apply Kd.R_drewN | apply Kd.R_drew)); exact HO172.out) (Kd.R_base ho144) hb); have n5_ := zA3 (Kd.R_elder' (by (with_reducible repeat (first | apply Kd.R_alloc | apply Kd.R_drewN | apply Kd.R_drew)); exact HO187.out) (Kd.R_base ho144) hb); have n6_ := zA3 (Kd.R_lower (Kd.R_new' (Kd.R_new' (Kd.R_new' (Kd.R_new' (Kd.R_newM (M := fun k_ => (w.heap.size ≤ k_)) ho144 (below_size (by repeat (first | (with_reducible first | exact HB.out | apply below_alloc | apply pw_below_drewN | apply below_drew1 | refine below_set ?_ GE146.out | refine below_set ?_ GE147.out | refine below_set ?_ GE148.out | refine below_set ?_ GE155.out | refine below_set ?_ GE159.out | refine below_set ?_ GE174.out) | exact HB.out))) (fun k_ h_ => h_)) (Kd.R_lt (by (with_reducible repeat (first | apply Kd.R_alloc | apply Kd.R_drewN | apply Kd.R_drew)); exact HO_156000.out))) (Kd.R_lt (by (with_reducible repeat (first | apply Kd.R_alloc | apply Kd.R_drewN | apply Kd.R_drew)); exact HO_156001.out))) (Kd.R_lt (by (with_reducible repeat (first | apply Kd.R_alloc | apply Kd.R_drewN | apply Kd.R_drew)); exact HO172.out))) (Kd.R_lt (by (with_reducible repeat (first | apply Kd.R_alloc | apply Kd.R_drewN | apply Kd.R_drew)); exact HO187.out))) (below_size (by repeat (first | (with_reducible first | exact HB.out | apply below_alloc | apply pw_below_drewN | apply below_drew1 | refine below_set ?_ GE146.out | refine below_set ?_ GE147.out | refine below_set ?_ GE148.out | refine below_set ?_ GE155.out | refine below_set ?_ GE159.out | refine below_set ?_ GE174.out) | exact HB.out)))); have n7_ := zA3 (blk_below (g := gb146) (o := .cells #[.int .i64 a0_0, .slice A0_1 l0_1.length c0_1] 30 (0, 0)) (by (with_reducible repeat (first | refine bN3 ?_ _ | refine bD3 ?_ | refine bA3 ?_ _)); exact BK146.out) hb); have n8_ := zA3 (blk_below (g := gb147) (o := .cells #[.int .i64 a1_0, .int .i64 a1_1, .int .i64 a1_2] 32 (0, 0)) (by (with_reducible repeat (first | refine bN3 ?_ _ | refine bD3 ?_ | refine bA3 ?_ _)); exact BK147.out) hb); have n9_ := zA3 (blk_below (g := gb148) (o := .cells #[.slice none 0 0, .slice none 0 0, .int .i64 x149002_2] 89 (0, 0)) (by (with_reducible repeat (first | refine bN3 ?_ _ | refine bD3 ?_ | refine bA3 ?_ _)); exact BK148.out) hb); have n10_ := zA3 (blk_below (g := gb155) (o := .cells #[u156000, u156001, .int .i64 x156002_2] 89 (0, 0)) (by (with_reducible repeat (first | refine bN3 ?_ _ | refine bD3 ?_ | refine bA3 ?_ _)); exact BK155.out) hb); have n11_ := zA3 (blk_below (g := gb159) (o := .cells #[.int .i64 x160000_2, .slice Ao125 x160001_2.length co125] 30 (0, 0)) (by (with_reducible repeat (first | refine bN3 ?_ _ | refine bD3 ?_ | refine bA3 ?_ _)); exact BK159.out) hb); have n12_ := zA3 (blk_below (g := gb174) (o := .cells #[.int .i64 t169, .slice Ao132 t170.length co132] 30 (0, 0)) (by (with_reducible repeat (first | refine bN3 ?_ _ | refine bD3 ?_ | refine bA3 ?_ _)); exact BK174.out) hb); have n13_ := zA3 (below_step (by repeat (first | (with_reducible first | exact HB.out | apply below_alloc | apply pw_below_drewN | apply below_drew1 | refine below_set ?_ GE146.out | refine below_set ?_ GE147.out | refine below_set ?_ GE148.out | refine below_set ?_ GE155.out | refine below_set ?_ GE159.out | refine below_set ?_ GE174.out) | exact HB.out)) hb); clear HO_147001; clear HO_156000; clear HO_156001; clear HO_160001; clear HO172; clear HO187; clear BK146; clear BK147; clear BK148; clear BK155; clear BK159; clear BK174; clear HB; have HO_147001 := n0_; have HO_156000 := n1_; have HO_156001 := n2_; have HO_160001 := n3_; have HO172 := n4_; have HO187 := n5_; have HO190 := n6_; have BK146 := n7_; have BK147 := n8_; have BK148 := n9_; have BK155 := n10_; have BK159 := n11_; have BK174 := n12_; have HB := n13_; clear n0_ n1_ n2_ n3_ n4_ n5_ n6_ n7_ n8_ n9_ n10_ n11_ n12_ n13_; clear hb ho144; obtain ⟨Ao145, co145, eo145⟩ := Kd.R_slice HO190.out; subst eo145; obtain ⟨Ao146, co146, eo146⟩ := Kd.R_slice HO187.out; subst eo146; have hnb147 := NB148_146.out; have hnc147 := NB146_148.out; have hnb148 := NB148_155.out; have hnc148 := NB155_148.out; have hcz149_0 : w143.cell? ⟨gb148, 0, none⟩ = some (.slice none 0 0) := (blk_cell BK148.out 0).trans rfl; have hcz149_1 : w143.cell? ⟨gb148, 1, none⟩ = some (.slice none 0 0) := (blk_cell BK148.out 1).trans rfl; have hcz149_2 : w143.cell? ⟨gb148, 2, none⟩ = some (.int .i64 x149002_2) := (blk_cell BK148.out 2).trans rfl; have hfz149_0 := blk_frozen BK148.out 0; have hfz149_1 := blk_frozen BK148.out 1; have hfz149_2 := blk_frozen BK148.out 2))
          refine bodyPost_ret (results_ct rfl _ _ gb148 89 #[.slice Ao146 y185.length co146, .slice Ao145 y188.length co145, .int .i64 0] (0, 0) _ rfl (by (with_reducible repeat (first | refine bN3 ?_ _ | refine bD3 ?_ | refine bA3 ?_ _)); refine blk_put (cs := #[.slice Ao146 y185.length co146, .slice Ao145 y188.length co145, .int .i64 x149002_2]) ?_ 2 _ rfl; (with_reducible repeat (first | refine bN3 ?_ _ | refine bD3 ?_ | refine bA3 ?_ _)); refine blk_put (cs := #[.slice Ao146 y185.length co146, .slice none 0 0, .int .i64 x149002_2]) ?_ 1 _ rfl; (with_reducible repeat (first | refine bN3 ?_ _ | refine bD3 ?_ | refine bA3 ?_ _)); refine blk_put (cs := #[.slice none 0 0, .slice none 0 0, .int .i64 x149002_2]) ?_ 0 _ rfl; (with_reducible repeat (first | refine bN3 ?_ _ | refine bD3 ?_ | refine bA3 ?_ _)); exact BK148.out) Try.underlying89 rfl (by kernel_rfl)) rfl ?_
          exact ⟨_, _, by first | rfl | (simp [errW_none, errW_some] <;> rfl) | (simp [*, errW_none, errW_some] <;> rfl), by (with_reducible repeat (first | apply Kd.R_alloc | apply Kd.R_drewN | apply Kd.R_drew)); exact Kd.R_mono (Kd.R_far (p := ⟨gb148, 2, none⟩) (Kd.R_far (p := ⟨gb148, 1, none⟩) (Kd.R_far (p := ⟨gb148, 0, none⟩) (Kd.R_types HO187.out BK148.out (by decide)) (fun _ hk => hk.2) (.slice Ao146 y185.length co146)) (fun _ hk => hk.2) (.slice Ao145 y188.length co145)) (fun _ hk => hk.2) (.int .i64 0)) (fun _ hk => ⟨hk.1.1.1.1.1.1, hk.1.2⟩), by (with_reducible repeat (first | apply Kd.R_alloc | apply Kd.R_drewN | apply Kd.R_drew)); exact Kd.R_mono (Kd.R_far (p := ⟨gb148, 2, none⟩) (Kd.R_far (p := ⟨gb148, 1, none⟩) (Kd.R_far (p := ⟨gb148, 0, none⟩) (Kd.R_types HO190.out BK148.out (by decide)) (fun _ hk => hk.2) (.slice Ao146 y185.length co146)) (fun _ hk => hk.2) (.slice Ao145 y188.length co145)) (fun _ hk => hk.2) (.int .i64 0)) (fun _ hk => ⟨hk.1.1.1.1.1.1, hk.1.2⟩), by repeat (first | (with_reducible first | exact HB.out | apply below_alloc | apply pw_below_drewN | apply below_drew1 | refine below_set ?_ GE146.out | refine below_set ?_ GE147.out | refine below_set ?_ GE148.out | refine below_set ?_ GE155.out | refine below_set ?_ GE159.out | refine below_set ?_ GE174.out) | exact HB.out)⟩
        ·rw [if_neg c68] at H
         exact absurd H (by simp)
       ·replace c67 := Bool.eq_false_iff.mpr c67
        subst c67
        have H1 : (some ((([] : List Int)), (([] : List Int)), 0, false)) = some (r1, r2, r3, r4) := by rw [if_neg (show ¬ (false = true) by decide)] at H; exact H
        clear H
        have H := H1
        clear H1
        obtain ⟨y162, hy162⟩ : ∃ y_ : List Int, y_ = (([] : List Int)) := ⟨_, rfl⟩
        replace H : (some (y162, (([] : List Int)), 0, false)) = some (r1, r2, r3, r4) := by first | (rw [hy162]; with_reducible exact H) | (have H2_ := (Option.bind_some _ _).symm.trans H; rw [hy162]; with_reducible exact H2_) | (have H2_ := (Option.bind_some _ _).symm.trans H; with_reducible exact H2_) | with_reducible exact H | (rw [hy162]; exact H) | exact H
        have Ny162 := zA3 hy162
        clear hy162
        obtain ⟨y165, hy165⟩ : ∃ y_ : List Int, y_ = (([] : List Int)) := ⟨_, rfl⟩
        replace H : (some (y162, y165, 0, false)) = some (r1, r2, r3, r4) := by first | (rw [hy165]; with_reducible exact H) | (have H2_ := (Option.bind_some _ _).symm.trans H; rw [hy165]; with_reducible exact H2_) | (have H2_ := (Option.bind_some _ _).symm.trans H; with_reducible exact H2_) | with_reducible exact H | (rw [hy165]; exact H) | exact H
        have Ny165 := zA3 hy165
        clear hy165
        simp only [Option.some.injEq, Prod.mk.injEq] at H
        obtain ⟨rfl, rfl, rfl, rfl⟩ := H
        have hnb150 := NB159_146.out
        have hnc150 := NB146_159.out
        have hnb151 := NB159_147.out
        have hnc151 := NB147_159.out
        have hnb152 := NB159_148.out
        have hnc152 := NB148_159.out
        have hnb153 := NB159_155.out
        have hnc153 := NB155_159.out
        have hcz154_0 : wr.cell? ⟨gb159, 0, none⟩ = some (.int .i64 x160000_2) := (blk_cell BK159.out 0).trans rfl
        have hcz154_1 : wr.cell? ⟨gb159, 1, none⟩ = some (u160001) := (blk_cell BK159.out 1).trans rfl
        have hfz154_0 := blk_frozen BK159.out 0
        have hfz154_1 := blk_frozen BK159.out 1
        have hnb155 := NB147_146.out
        have hnc155 := NB146_147.out
        have hnb156 := NB147_148.out
        have hnc156 := NB148_147.out
        have hnb157 := NB147_155.out
        have hnc157 := NB155_147.out
        have hcz158_0 : wr.cell? ⟨gb147, 0, none⟩ = some (.int .i64 a1_0) := (blk_cell BK147.out 0).trans rfl
        have hcz158_1 : wr.cell? ⟨gb147, 1, none⟩ = some (.int .i64 a1_1) := (blk_cell BK147.out 1).trans rfl
        have hcz158_2 : wr.cell? ⟨gb147, 2, none⟩ = some (.int .i64 a1_2) := (blk_cell BK147.out 2).trans rfl
        have hfz158_0 := blk_frozen BK147.out 0
        have hfz158_1 := blk_frozen BK147.out 1
        have hfz158_2 := blk_frozen BK147.out 2
        obtain ⟨Ao159, co159, eo159⟩ := Kd.V_slice HO_160001.out
        subst eo159
        go_wp2_with (first | ((with_reducible refine gate_callee (f := 47) rfl ?_); refine goesL_ (some 42) rfl rfl Try.func47 (by kernel_rfl) rfl #[.agg #[.int .i64 x160000_2, .slice Ao159 x160001_2.length co159], .agg #[.int .i64 a1_0, .int .i64 a1_1, .int .i64 a1_2]] rfl (by (try simp only [List.map_toArray, List.map_cons, List.map_nil]); first | done | rfl | (simp only [List.length_drop, List.length_take]; rfl)) ?_; (with_reducible refine (spec_RuleOrder.calls k2 x160000_2 _ _ x160001_2 a1_0 a1_1 a1_2 t160 false _ ?side1 ?side2 A66.out).mono ?_); (case side1 => repeat (first | exact (Kd.V_reads' HO_160001.out).2.2 | (with_reducible refine Kd.C_alloc ?_ _) | (with_reducible refine Kd.C_drewN ?_ _) | (with_reducible refine Kd.C_drew ?_))); (case side2 => exact (Kd.V_reads' HO_160001.out).2.1); rintro e w160 ⟨rfl, hb⟩; refine ⟨_, rfl, ?_⟩; have n0_ := zA3 (Kd.V_below (by (with_reducible repeat (first | apply Kd.V_alloc | apply Kd.V_drewN | apply Kd.V_drew)); exact HO_147001.out) hb); have n1_ := zA3 (Kd.R_below (by (with_reducible repeat (first | apply Kd.R_alloc | apply Kd.R_drewN | apply Kd.R_drew)); exact HO_156000.out) hb); have n2_ := zA3 (Kd.R_below (by (with_reducible repeat (first | apply Kd.R_alloc | apply Kd.R_drewN | apply Kd.R_drew)); exact HO_156001.out) hb); have n3_ := zA3 (Kd.V_below (by (with_reducible repeat (first | apply Kd.V_alloc | apply Kd.V_drewN | apply Kd.V_drew)); exact HO_160001.out) hb); have n4_ := zA3 (blk_below (g := gb146) (o := .cells #[.int .i64 a0_0, .slice A0_1 l0_1.length c0_1] 30 (0, 0)) (by (with_reducible repeat (first | refine bN3 ?_ _ | refine bD3 ?_ | refine bA3 ?_ _)); exact BK146.out) hb); have n5_ := zA3 (blk_below (g := gb147) (o := .cells #[.int .i64 a1_0, .int .i64 a1_1, .int .i64 a1_2] 32 (0, 0)) (by (with_reducible repeat (first | refine bN3 ?_ _ | refine bD3 ?_ | refine bA3 ?_ _)); exact BK147.out) hb); have n6_ := zA3 (blk_below (g := gb148) (o := .cells #[.slice none 0 0, .slice none 0 0, .int .i64 x149002_2] 89 (0, 0)) (by (with_reducible repeat (first | refine bN3 ?_ _ | refine bD3 ?_ | refine bA3 ?_ _)); exact BK148.out) hb); have n7_ := zA3 (blk_below (g := gb155) (o := .cells #[u156000, u156001, .int .i64 x156002_2] 89 (0, 0)) (by (with_reducible repeat (first | refine bN3 ?_ _ | refine bD3 ?_ | refine bA3 ?_ _)); exact BK155.out) hb); have n8_ := zA3 (blk_below (g := gb159) (o := .cells #[.int .i64 x160000_2, .slice Ao159 x160001_2.length co159] 30 (0, 0)) (by (with_reducible repeat (first | refine bN3 ?_ _ | refine bD3 ?_ | refine bA3 ?_ _)); exact BK159.out) hb); have n9_ := zA3 (below_step (by repeat (first | (with_reducible first | exact HB.out | apply below_alloc | apply pw_below_drewN | apply below_drew1 | refine below_set ?_ GE146.out | refine below_set ?_ GE147.out | refine below_set ?_ GE148.out | refine below_set ?_ GE155.out | refine below_set ?_ GE159.out) | exact HB.out)) hb); clear HO_147001; clear HO_156000; clear HO_156001; clear HO_160001; clear BK146; clear BK147; clear BK148; clear BK155; clear BK159; clear HB; have HO_147001 := n0_; have HO_156000 := n1_; have HO_156001 := n2_; have HO_160001 := n3_; have BK146 := n4_; have BK147 := n5_; have BK148 := n6_; have BK155 := n7_; have BK159 := n8_; have HB := n9_; clear n0_ n1_ n2_ n3_ n4_ n5_ n6_ n7_ n8_ n9_; (try clear hb); (try clear hb2); (try clear hk); (try clear hi)) | ((with_reducible refine gate_dst (N := 47) rfl ?_); refine Kd.R_lit (Kd.int .i64) _ 3 ?hg (N := 47) ?hd (xs := ([] : List Int)) (inner := []) (ok := fun _ => True) (okp := fun _ => True) ?hr ?hp (fun _ hk => hk) trivial (Below.refl _ _) (Nat.le_refl _) (by simp) ?_; (case hd => rfl); (case hg => rfl); (case hr => first | (go_simp; done) | (go_simp; rfl)); (case hp => exact (Reps.none _ _)); intro v163 w161 ho162 hb hg_ hnew_; clear hg_ hnew_; (first | rw [← Ny162.out] at ho162 | (simp only [Int.reduceToNat] at ho162; rw [← Ny162.out] at ho162)); have n0_ := zA3 (Kd.V_elder' (by (with_reducible repeat (first | apply Kd.V_alloc | apply Kd.V_drewN | apply Kd.V_drew)); exact HO_147001.out) (Kd.R_base ho162) hb); have n1_ := zA3 (Kd.R_elder' (by (with_reducible repeat (first | apply Kd.R_alloc | apply Kd.R_drewN | apply Kd.R_drew)); exact HO_156000.out) (Kd.R_base ho162) hb); have n2_ := zA3 (Kd.R_elder' (by (with_reducible repeat (first | apply Kd.R_alloc | apply Kd.R_drewN | apply Kd.R_drew)); exact HO_156001.out) (Kd.R_base ho162) hb); have n3_ := zA3 (Kd.V_elder' (by (with_reducible repeat (first | apply Kd.V_alloc | apply Kd.V_drewN | apply Kd.V_drew)); exact HO_160001.out) (Kd.R_base ho162) hb); have n4_ := zA3 (Kd.R_lower (Kd.R_new' (Kd.R_new' (Kd.R_newM (M := fun k_ => (w.heap.size ≤ k_)) ho162 (below_size (by repeat (first | (with_reducible first | exact HB.out | apply below_alloc | apply pw_below_drewN | apply below_drew1 | refine below_set ?_ GE146.out | refine below_set ?_ GE147.out | refine below_set ?_ GE148.out | refine below_set ?_ GE155.out | refine below_set ?_ GE159.out) | exact HB.out))) (fun k_ h_ => h_)) (Kd.R_lt (by (with_reducible repeat (first | apply Kd.R_alloc | apply Kd.R_drewN | apply Kd.R_drew)); exact HO_156000.out))) (Kd.R_lt (by (with_reducible repeat (first | apply Kd.R_alloc | apply Kd.R_drewN | apply Kd.R_drew)); exact HO_156001.out))) (below_size (by repeat (first | (with_reducible first | exact HB.out | apply below_alloc | apply pw_below_drewN | apply below_drew1 | refine below_set ?_ GE146.out | refine below_set ?_ GE147.out | refine below_set ?_ GE148.out | refine below_set ?_ GE155.out | refine below_set ?_ GE159.out) | exact HB.out)))); have n5_ := zA3 (blk_below (g := gb146) (o := .cells #[.int .i64 a0_0, .slice A0_1 l0_1.length c0_1] 30 (0, 0)) (by (with_reducible repeat (first | refine bN3 ?_ _ | refine bD3 ?_ | refine bA3 ?_ _)); exact BK146.out) hb); have n6_ := zA3 (blk_below (g := gb147) (o := .cells #[.int .i64 a1_0, .int .i64 a1_1, .int .i64 a1_2] 32 (0, 0)) (by (with_reducible repeat (first | refine bN3 ?_ _ | refine bD3 ?_ | refine bA3 ?_ _)); exact BK147.out) hb); have n7_ := zA3 (blk_below (g := gb148) (o := .cells #[.slice none 0 0, .slice none 0 0, .int .i64 x149002_2] 89 (0, 0)) (by (with_reducible repeat (first | refine bN3 ?_ _ | refine bD3 ?_ | refine bA3 ?_ _)); exact BK148.out) hb); have n8_ := zA3 (blk_below (g := gb155) (o := .cells #[u156000, u156001, .int .i64 x156002_2] 89 (0, 0)) (by (with_reducible repeat (first | refine bN3 ?_ _ | refine bD3 ?_ | refine bA3 ?_ _)); exact BK155.out) hb); have n9_ := zA3 (blk_below (g := gb159) (o := .cells #[.int .i64 x160000_2, .slice Ao159 x160001_2.length co159] 30 (0, 0)) (by (with_reducible repeat (first | refine bN3 ?_ _ | refine bD3 ?_ | refine bA3 ?_ _)); exact BK159.out) hb); have n10_ := zA3 (below_step (by repeat (first | (with_reducible first | exact HB.out | apply below_alloc | apply pw_below_drewN | apply below_drew1 | refine below_set ?_ GE146.out | refine below_set ?_ GE147.out | refine below_set ?_ GE148.out | refine below_set ?_ GE155.out | refine below_set ?_ GE159.out) | exact HB.out)) hb); clear HO_147001; clear HO_156000; clear HO_156001; clear HO_160001; clear BK146; clear BK147; clear BK148; clear BK155; clear BK159; clear HB; have HO_147001 := n0_; have HO_156000 := n1_; have HO_156001 := n2_; have HO_160001 := n3_; have HO164 := n4_; have BK146 := n5_; have BK147 := n6_; have BK148 := n7_; have BK155 := n8_; have BK159 := n9_; have HB := n10_; clear n0_ n1_ n2_ n3_ n4_ n5_ n6_ n7_ n8_ n9_ n10_; clear hb ho162) | ((with_reducible refine gate_dst (N := 48) rfl ?_); refine Kd.R_lit (Kd.int .i64) _ 3 ?hg (N := 48) ?hd (xs := ([] : List Int)) (inner := []) (ok := fun _ => True) (okp := fun _ => True) ?hr ?hp (fun _ hk => hk) trivial (Below.refl _ _) (Nat.le_refl _) (by simp) ?_; (case hd => rfl); (case hg => rfl); (case hr => first | (go_simp; done) | (go_simp; rfl)); (case hp => exact (Reps.none _ _)); intro v166 w163 ho164 hb hg_ hnew_; clear hg_ hnew_; (first | rw [← Ny165.out] at ho164 | (simp only [Int.reduceToNat] at ho164; rw [← Ny165.out] at ho164)); have n0_ := zA3 (Kd.V_elder' (by (with_reducible repeat (first | apply Kd.V_alloc | apply Kd.V_drewN | apply Kd.V_drew)); exact HO_147001.out) (Kd.R_base ho164) hb); have n1_ := zA3 (Kd.R_elder' (by (with_reducible repeat (first | apply Kd.R_alloc | apply Kd.R_drewN | apply Kd.R_drew)); exact HO_156000.out) (Kd.R_base ho164) hb); have n2_ := zA3 (Kd.R_elder' (by (with_reducible repeat (first | apply Kd.R_alloc | apply Kd.R_drewN | apply Kd.R_drew)); exact HO_156001.out) (Kd.R_base ho164) hb); have n3_ := zA3 (Kd.V_elder' (by (with_reducible repeat (first | apply Kd.V_alloc | apply Kd.V_drewN | apply Kd.V_drew)); exact HO_160001.out) (Kd.R_base ho164) hb); have n4_ := zA3 (Kd.R_elder' (by (with_reducible repeat (first | apply Kd.R_alloc | apply Kd.R_drewN | apply Kd.R_drew)); exact HO164.out) (Kd.R_base ho164) hb); have n5_ := zA3 (Kd.R_lower (Kd.R_new' (Kd.R_new' (Kd.R_new' (Kd.R_newM (M := fun k_ => (w.heap.size ≤ k_)) ho164 (below_size (by repeat (first | (with_reducible first | exact HB.out | apply below_alloc | apply pw_below_drewN | apply below_drew1 | refine below_set ?_ GE146.out | refine below_set ?_ GE147.out | refine below_set ?_ GE148.out | refine below_set ?_ GE155.out | refine below_set ?_ GE159.out) | exact HB.out))) (fun k_ h_ => h_)) (Kd.R_lt (by (with_reducible repeat (first | apply Kd.R_alloc | apply Kd.R_drewN | apply Kd.R_drew)); exact HO_156000.out))) (Kd.R_lt (by (with_reducible repeat (first | apply Kd.R_alloc | apply Kd.R_drewN | apply Kd.R_drew)); exact HO_156001.out))) (Kd.R_lt (by (with_reducible repeat (first | apply Kd.R_alloc | apply Kd.R_drewN | apply Kd.R_drew)); exact HO164.out))) (below_size (by repeat (first | (with_reducible first | exact HB.out | apply below_alloc | apply pw_below_drewN | apply below_drew1 | refine below_set ?_ GE146.out | refine below_set ?_ GE147.out | refine below_set ?_ GE148.out | refine below_set ?_ GE155.out | refine below_set ?_ GE159.out) | exact HB.out)))); have n6_ := zA3 (blk_below (g := gb146) (o := .cells #[.int .i64 a0_0, .slice A0_1 l0_1.length c0_1] 30 (0, 0)) (by (with_reducible repeat (first | refine bN3 ?_ _ | refine bD3 ?_ | refine bA3 ?_ _)); exact BK146.out) hb); have n7_ := zA3 (blk_below (g := gb147) (o := .cells #[.int .i64 a1_0, .int .i64 a1_1, .int .i64 a1_2] 32 (0, 0)) (by (with_reducible repeat (first | refine bN3 ?_ _ | refine bD3 ?_ | refine bA3 ?_ _)); exact BK147.out) hb); have n8_ := zA3 (blk_below (g := gb148) (o := .cells #[.slice none 0 0, .slice none 0 0, .int .i64 x149002_2] 89 (0, 0)) (by (with_reducible repeat (first | refine bN3 ?_ _ | refine bD3 ?_ | refine bA3 ?_ _)); exact BK148.out) hb); have n9_ := zA3 (blk_below (g := gb155) (o := .cells #[u156000, u156001, .int .i64 x156002_2] 89 (0, 0)) (by (with_reducible repeat (first | refine bN3 ?_ _ | refine bD3 ?_ | refine bA3 ?_ _)); exact BK155.out) hb); have n10_ := zA3 (blk_below (g := gb159) (o := .cells #[.int .i64 x160000_2, .slice Ao159 x160001_2.length co159] 30 (0, 0)) (by (with_reducible repeat (first | refine bN3 ?_ _ | refine bD3 ?_ | refine bA3 ?_ _)); exact BK159.out) hb); have n11_ := zA3 (below_step (by repeat (first | (with_reducible first | exact HB.out | apply below_alloc | apply pw_below_drewN | apply below_drew1 | refine below_set ?_ GE146.out | refine below_set ?_ GE147.out | refine below_set ?_ GE148.out | refine below_set ?_ GE155.out | refine below_set ?_ GE159.out) | exact HB.out)) hb); clear HO_147001; clear HO_156000; clear HO_156001; clear HO_160001; clear HO164; clear BK146; clear BK147; clear BK148; clear BK155; clear BK159; clear HB; have HO_147001 := n0_; have HO_156000 := n1_; have HO_156001 := n2_; have HO_160001 := n3_; have HO164 := n4_; have HO167 := n5_; have BK146 := n6_; have BK147 := n7_; have BK148 := n8_; have BK155 := n9_; have BK159 := n10_; have HB := n11_; clear n0_ n1_ n2_ n3_ n4_ n5_ n6_ n7_ n8_ n9_ n10_ n11_; clear hb ho164; obtain ⟨Ao165, co165, eo165⟩ := Kd.R_slice HO167.out; subst eo165; obtain ⟨Ao166, co166, eo166⟩ := Kd.R_slice HO164.out; subst eo166; have hnb167 := NB148_146.out; have hnc167 := NB146_148.out; have hnb168 := NB148_155.out; have hnc168 := NB155_148.out; have hcz169_0 : w163.cell? ⟨gb148, 0, none⟩ = some (.slice none 0 0) := (blk_cell BK148.out 0).trans rfl; have hcz169_1 : w163.cell? ⟨gb148, 1, none⟩ = some (.slice none 0 0) := (blk_cell BK148.out 1).trans rfl; have hcz169_2 : w163.cell? ⟨gb148, 2, none⟩ = some (.int .i64 x149002_2) := (blk_cell BK148.out 2).trans rfl; have hfz169_0 := blk_frozen BK148.out 0; have hfz169_1 := blk_frozen BK148.out 1; have hfz169_2 := blk_frozen BK148.out 2))
        refine bodyPost_ret (results_ct rfl _ _ gb148 89 #[.slice Ao166 y162.length co166, .slice Ao165 y165.length co165, .int .i64 0] (0, 0) _ rfl (by (with_reducible repeat (first | refine bN3 ?_ _ | refine bD3 ?_ | refine bA3 ?_ _)); refine blk_put (cs := #[.slice Ao166 y162.length co166, .slice Ao165 y165.length co165, .int .i64 x149002_2]) ?_ 2 _ rfl; (with_reducible repeat (first | refine bN3 ?_ _ | refine bD3 ?_ | refine bA3 ?_ _)); refine blk_put (cs := #[.slice Ao166 y162.length co166, .slice none 0 0, .int .i64 x149002_2]) ?_ 1 _ rfl; (with_reducible repeat (first | refine bN3 ?_ _ | refine bD3 ?_ | refine bA3 ?_ _)); refine blk_put (cs := #[.slice none 0 0, .slice none 0 0, .int .i64 x149002_2]) ?_ 0 _ rfl; (with_reducible repeat (first | refine bN3 ?_ _ | refine bD3 ?_ | refine bA3 ?_ _)); exact BK148.out) Try.underlying89 rfl (by kernel_rfl)) rfl ?_
        exact ⟨_, _, by first | rfl | (simp [errW_none, errW_some] <;> rfl) | (simp [*, errW_none, errW_some] <;> rfl), by (with_reducible repeat (first | apply Kd.R_alloc | apply Kd.R_drewN | apply Kd.R_drew)); exact Kd.R_mono (Kd.R_far (p := ⟨gb148, 2, none⟩) (Kd.R_far (p := ⟨gb148, 1, none⟩) (Kd.R_far (p := ⟨gb148, 0, none⟩) (Kd.R_types HO164.out BK148.out (by decide)) (fun _ hk => hk.2) (.slice Ao166 y162.length co166)) (fun _ hk => hk.2) (.slice Ao165 y165.length co165)) (fun _ hk => hk.2) (.int .i64 0)) (fun _ hk => ⟨hk.1.1.1.1.1, hk.1.2⟩), by (with_reducible repeat (first | apply Kd.R_alloc | apply Kd.R_drewN | apply Kd.R_drew)); exact Kd.R_mono (Kd.R_far (p := ⟨gb148, 2, none⟩) (Kd.R_far (p := ⟨gb148, 1, none⟩) (Kd.R_far (p := ⟨gb148, 0, none⟩) (Kd.R_types HO167.out BK148.out (by decide)) (fun _ hk => hk.2) (.slice Ao166 y162.length co166)) (fun _ hk => hk.2) (.slice Ao165 y165.length co165)) (fun _ hk => hk.2) (.int .i64 0)) (fun _ hk => ⟨hk.1.1.1.1.1, hk.1.2⟩), by repeat (first | (with_reducible first | exact HB.out | apply below_alloc | apply pw_below_drewN | apply below_drew1 | refine below_set ?_ GE146.out | refine below_set ?_ GE147.out | refine below_set ?_ GE148.out | refine below_set ?_ GE155.out | refine below_set ?_ GE159.out) | exact HB.out)⟩
      ·rw [if_neg c65] at H
       have c65b0 : decide (x10_2 < (l2.length : Int)) = false := decide_eq_false c65
       clear c65
       simp only [Option.some.injEq, Prod.mk.injEq] at H
       obtain ⟨rfl, rfl, rfl, rfl⟩ := H
       have hnb170 := NB155_146.out
       have hnc170 := NB146_155.out
       have hnb171 := NB155_147.out
       have hnc171 := NB147_155.out
       have hnb172 := NB155_148.out
       have hnc172 := NB148_155.out
       have hnb173 := NB155_159.out
       have hnc173 := NB159_155.out
       have hcz174_0 : wr.cell? ⟨gb155, 0, none⟩ = some (u156000) := (blk_cell BK155.out 0).trans rfl
       have hcz174_1 : wr.cell? ⟨gb155, 1, none⟩ = some (u156001) := (blk_cell BK155.out 1).trans rfl
       have hcz174_2 : wr.cell? ⟨gb155, 2, none⟩ = some (.int .i64 x156002_2) := (blk_cell BK155.out 2).trans rfl
       have hfz174_0 := blk_frozen BK155.out 0
       have hfz174_1 := blk_frozen BK155.out 1
       have hfz174_2 := blk_frozen BK155.out 2
       obtain ⟨Ao175, co175, eo175⟩ := Kd.R_slice HO_156000.out
       subst eo175
       have hnb176 := NB148_146.out
       have hnc176 := NB146_148.out
       have hnb177 := NB148_147.out
       have hnc177 := NB147_148.out
       have hnb178 := NB148_159.out
       have hnc178 := NB159_148.out
       have hcz179_0 : wr.cell? ⟨gb148, 0, none⟩ = some (.slice none 0 0) := (blk_cell BK148.out 0).trans rfl
       have hcz179_1 : wr.cell? ⟨gb148, 1, none⟩ = some (.slice none 0 0) := (blk_cell BK148.out 1).trans rfl
       have hcz179_2 : wr.cell? ⟨gb148, 2, none⟩ = some (.int .i64 x149002_2) := (blk_cell BK148.out 2).trans rfl
       have hfz179_0 := blk_frozen BK148.out 0
       have hfz179_1 := blk_frozen BK148.out 1
       have hfz179_2 := blk_frozen BK148.out 2
       obtain ⟨Ao180, co180, eo180⟩ := Kd.R_slice HO_156001.out
       subst eo180
       go_wp2
       refine bodyPost_ret (results_ct rfl _ _ gb148 89 #[.slice Ao175 x156000_2.length co175, .slice Ao180 x156001_2.length co180, .int .i64 x156002_2] (0, 0) _ rfl (by (with_reducible repeat (first | refine bN3 ?_ _ | refine bD3 ?_ | refine bA3 ?_ _)); refine blk_put (cs := #[.slice Ao175 x156000_2.length co175, .slice Ao180 x156001_2.length co180, .int .i64 x149002_2]) ?_ 2 _ rfl; (with_reducible repeat (first | refine bN3 ?_ _ | refine bD3 ?_ | refine bA3 ?_ _)); refine blk_put (cs := #[.slice Ao175 x156000_2.length co175, .slice none 0 0, .int .i64 x149002_2]) ?_ 1 _ rfl; (with_reducible repeat (first | refine bN3 ?_ _ | refine bD3 ?_ | refine bA3 ?_ _)); refine blk_put (cs := #[.slice none 0 0, .slice none 0 0, .int .i64 x149002_2]) ?_ 0 _ rfl; (with_reducible repeat (first | refine bN3 ?_ _ | refine bD3 ?_ | refine bA3 ?_ _)); exact BK148.out) Try.underlying89 rfl (by kernel_rfl)) rfl ?_
       exact ⟨_, _, by first | rfl | (simp [errW_none, errW_some] <;> rfl) | (simp [*, errW_none, errW_some] <;> rfl), by (with_reducible repeat (first | apply Kd.R_alloc | apply Kd.R_drewN | apply Kd.R_drew)); exact Kd.R_mono (Kd.R_far (p := ⟨gb148, 2, none⟩) (Kd.R_far (p := ⟨gb148, 1, none⟩) (Kd.R_far (p := ⟨gb148, 0, none⟩) (Kd.R_types HO_156000.out BK148.out (by decide)) (fun _ hk => hk.2) (.slice Ao175 x156000_2.length co175)) (fun _ hk => hk.2) (.slice Ao180 x156001_2.length co180)) (fun _ hk => hk.2) (.int .i64 x156002_2)) (fun _ hk => ⟨hk.1.1, hk.1.2⟩), by (with_reducible repeat (first | apply Kd.R_alloc | apply Kd.R_drewN | apply Kd.R_drew)); exact Kd.R_mono (Kd.R_far (p := ⟨gb148, 2, none⟩) (Kd.R_far (p := ⟨gb148, 1, none⟩) (Kd.R_far (p := ⟨gb148, 0, none⟩) (Kd.R_types HO_156001.out BK148.out (by decide)) (fun _ hk => hk.2) (.slice Ao175 x156000_2.length co175)) (fun _ hk => hk.2) (.slice Ao180 x156001_2.length co180)) (fun _ hk => hk.2) (.int .i64 x156002_2)) (fun _ hk => ⟨hk.1.1, hk.1.2⟩), by repeat (first | (with_reducible first | exact HB.out | apply below_alloc | apply pw_below_drewN | apply below_drew1 | refine below_set ?_ GE146.out | refine below_set ?_ GE147.out | refine below_set ?_ GE148.out | refine below_set ?_ GE155.out | refine below_set ?_ GE159.out) | exact HB.out)⟩

end Go.Proofs.Ytfgclhojgaaepaa.PFnExactServiceOf
