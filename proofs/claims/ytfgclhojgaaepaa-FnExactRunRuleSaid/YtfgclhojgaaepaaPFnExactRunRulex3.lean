-- A text of this session (its program hook.py, over the kit's print.py): not a print of print.sh
-- THIN: one blank for two
import Derived.Test.YtfgclhojgaaepaaPFnExactRunRulex0
import Derived.Test.YtfgclhojgaaepaaPFnExactRunRulex1
import Derived.Test.YtfgclhojgaaepaaPFnExactRunRulex2
namespace Go.Proofs.Ytfgclhojgaaepaa.PFnExactRunRule
open Go.RowKit Go.Proofs.YtfgclhojgaaepaaW.PrintWords Go.Proofs.YtfgclhojgaaepaaW.PrintLast Go.Proofs.YtfgclhojgaaepaaW.PrintMore
attribute [local go_sem] max2_int min2_int max_two min_two max_three min_three max_four min_four   -- for this text's walks alone
set_option linter.unusedVariables false
set_option linter.unusedSimpArgs false

-- LIGHT
theorem zA3 {p : Prop} (h : p) : Aside0 p := Aside0.mk h
theorem bN3 {w : World} {g : Nat} {o : Obj} (h : w.heap[g]? = some o) (m : Nat) : (w.drewN m).heap[g]? = some o := blk_drewN h m
theorem bD3 {w : World} {g : Nat} {o : Obj} (h : w.heap[g]? = some o) : w.drew.heap[g]? = some o := blk_drew h
theorem bA3 {w : World} {g : Nat} {o : Obj} (h : w.heap[g]? = some o) (o2 : Obj) : (w.alloc o2).heap[g]? = some o := blk_alloc h o2

/-! ### spec_l11Run: function 64 -/
mutual
def spec_l11Run.j0 : Nat → List Int → Bool → Int → List Int → Int → Int → Int → List Int → List Int → Int → Option (List Int × List Int × Int × Bool)
 | 0, _, _, _, _, _, _, _, _, _, _ => none
 | k + 1, x2, x30, x166000, x166001, x167000, x167001, x167002, x175000, x175001, x175002 => if x30 = true then (some (x175000, x175001, x175002, false)) else (spec_l11Run.l0 k x2 0 x167000 x167001 x167002 x175000 x175001 x175002 x166000 x166001)
def spec_l11Run.l0 : Nat → List Int → Int → Int → Int → Int → List Int → List Int → Int → Int → List Int → Option (List Int × List Int × Int × Bool)
 | 0, _, _, _, _, _, _, _, _, _, _ => none
 | k + 1, x2, x10, x167000, x167001, x167002, x175000, x175001, x175002, x179000, x179001 => if x10 < (x2.length : Int) then ((spec_RuleOrder.f k x179000 x179001 x167000 x167001 x167002).bind fun bt179 => (if bt179.2 = true then (if 0 ≤ x10 then ((spec_l11Day.f x179000 x179001 bt179.1 (rd x2 x10)).bind fun bt188 => ((spec_l11Flow.f k bt188.1 bt188.2.1).bind fun t194 => (if t194 = true then (if x175000.length < 17592186044416 then (if x175001.length < 17592186044416 then ((spec_l1Least.f (rd x2 x10) bt188.2.2).bind fun t202 => ((spec_l1Most.f t202 0).bind fun t203 => (spec_l11Run.l0 k x2 (wrap64 (x10 + 1)) x167000 x167001 x167002 (x175000 ++ [bt179.1]) (x175001 ++ [bt188.1]) (wrap64 (x175002 + t203)) bt188.1 bt188.2.1))) else (none)) else (none)) else (some ((([] : List Int)), (([] : List Int)), 0, false))))) else (none)) else (some ((([] : List Int)), (([] : List Int)), 0, false)))) else (some (x175000, x175001, x175002, true))
end
def spec_l11Run.f (k : Nat) (a0_0 : Int) (l0_1 : List Int) (a1_0 : Int) (a1_1 : Int) (a1_2 : Int) (l2 : List Int) : Option (List Int × List Int × Int × Bool) := (some (([] : List Int) : List Int)).bind fun y168 => ((some (([] : List Int) : List Int)).bind fun y171 => ((spec_l11Flow.f k a0_0 l0_1).bind fun t175 => (if t175 = true then ((spec_l11Rule.f k a1_0 a1_1 a1_2).bind fun t176 => (if t176 = true then ((spec_l11Numbers.f k l2 20 20).bind fun t177 => (spec_l11Run.j0 k l2 (!t177) a0_0 l0_1 a1_0 a1_1 a1_2 y168 y171 0)) else (spec_l11Run.j0 k l2 true a0_0 l0_1 a1_0 a1_1 a1_2 y168 y171 0))) else (spec_l11Run.j0 k l2 true a0_0 l0_1 a1_0 a1_1 a1_2 y168 y171 0))))
theorem spec_l11Run.mono_l : ∀ k, (∀ y0 y1 y2 y3 y4 y5 y6 y7 y8 y9, LeO (spec_l11Run.j0 k y0 y1 y2 y3 y4 y5 y6 y7 y8 y9) (spec_l11Run.j0 (k + 1) y0 y1 y2 y3 y4 y5 y6 y7 y8 y9)) ∧ (∀ y0 y1 y2 y3 y4 y5 y6 y7 y8 y9, LeO (spec_l11Run.l0 k y0 y1 y2 y3 y4 y5 y6 y7 y8 y9) (spec_l11Run.l0 (k + 1) y0 y1 y2 y3 y4 y5 y6 y7 y8 y9))
 | 0 => ⟨fun _ _ _ _ _ _ _ _ _ _ r h => by simp [spec_l11Run.j0] at h, fun _ _ _ _ _ _ _ _ _ _ r h => by simp [spec_l11Run.l0] at h⟩
 | k + 1 => by
  obtain ⟨ih0, ih1⟩ := spec_l11Run.mono_l k
  refine ⟨?_, ?_⟩
  ·intro y0 y1 y2 y3 y4 y5 y6 y7 y8 y9
   unfold spec_l11Run.j0
   repeat' first
   | (with_reducible exact ih0 _ _ _ _ _ _ _ _ _ _)
   | (with_reducible exact ih1 _ _ _ _ _ _ _ _ _ _)
   | (with_reducible exact spec_RuleOrder.mono _ _ _ _ _ _)
   | (with_reducible exact spec_l11Flow.mono _ _ _)
   | (with_reducible exact spec_l11Numbers.mono _ _ _ _)
   | (with_reducible exact spec_l11Rule.mono _ _ _ _)
   | (with_reducible exact LeO.refl _)
   | (with_reducible exact LeO.none _)
   | (with_reducible refine LeO.ite ?_ ?_)
   | (with_reducible refine LeO.bind ?_ (fun _ => ?_))
   | exact ih0 _ _ _ _ _ _ _ _ _ _
   | exact ih1 _ _ _ _ _ _ _ _ _ _
   | exact spec_RuleOrder.mono _ _ _ _ _ _
   | exact spec_l11Flow.mono _ _ _
   | exact spec_l11Numbers.mono _ _ _ _
   | exact spec_l11Rule.mono _ _ _ _
   | exact LeO.none _
   | refine LeO.ite ?_ ?_
   | refine LeO.bind ?_ (fun _ => ?_)
  ·intro y0 y1 y2 y3 y4 y5 y6 y7 y8 y9
   unfold spec_l11Run.l0
   repeat' first
   | (with_reducible exact ih0 _ _ _ _ _ _ _ _ _ _)
   | (with_reducible exact ih1 _ _ _ _ _ _ _ _ _ _)
   | (with_reducible exact spec_RuleOrder.mono _ _ _ _ _ _)
   | (with_reducible exact spec_l11Flow.mono _ _ _)
   | (with_reducible exact spec_l11Numbers.mono _ _ _ _)
   | (with_reducible exact spec_l11Rule.mono _ _ _ _)
   | (with_reducible exact LeO.refl _)
   | (with_reducible exact LeO.none _)
   | (with_reducible refine LeO.ite ?_ ?_)
   | (with_reducible refine LeO.bind ?_ (fun _ => ?_))
   | exact ih0 _ _ _ _ _ _ _ _ _ _
   | exact ih1 _ _ _ _ _ _ _ _ _ _
   | exact spec_RuleOrder.mono _ _ _ _ _ _
   | exact spec_l11Flow.mono _ _ _
   | exact spec_l11Numbers.mono _ _ _ _
   | exact spec_l11Rule.mono _ _ _ _
   | exact LeO.none _
   | refine LeO.ite ?_ ?_
   | refine LeO.bind ?_ (fun _ => ?_)
theorem spec_l11Run.mono : ∀ a0 a1 a2 a3 a4 a5 k, LeO (spec_l11Run.f k a0 a1 a2 a3 a4 a5) (spec_l11Run.f (k + 1) a0 a1 a2 a3 a4 a5) := by
 intro a0 a1 a2 a3 a4 a5 k
 obtain ⟨ih0, ih1⟩ := spec_l11Run.mono_l k
 unfold spec_l11Run.f
 repeat' first
   | (with_reducible exact ih0 _ _ _ _ _ _ _ _ _ _)
   | (with_reducible exact ih1 _ _ _ _ _ _ _ _ _ _)
   | (with_reducible exact spec_RuleOrder.mono _ _ _ _ _ _)
   | (with_reducible exact spec_l11Flow.mono _ _ _)
   | (with_reducible exact spec_l11Numbers.mono _ _ _ _)
   | (with_reducible exact spec_l11Rule.mono _ _ _ _)
   | (with_reducible exact LeO.refl _)
   | (with_reducible exact LeO.none _)
   | (with_reducible refine LeO.ite ?_ ?_)
   | (with_reducible refine LeO.bind ?_ (fun _ => ?_))
   | exact ih0 _ _ _ _ _ _ _ _ _ _
   | exact ih1 _ _ _ _ _ _ _ _ _ _
   | exact spec_RuleOrder.mono _ _ _ _ _ _
   | exact spec_l11Flow.mono _ _ _
   | exact spec_l11Numbers.mono _ _ _ _
   | exact spec_l11Rule.mono _ _ _ _
   | exact LeO.none _
   | refine LeO.ite ?_ ?_
   | refine LeO.bind ?_ (fun _ => ?_)
def spec_l11Run.T11 : Bool × List (List Nat × List Nat) := (true, [([], []), ([], []), ([], []), ([], []), ([2, 3], [2, 3]), ([4], [4]), ([0, 1, 5], [0, 1, 5]), ([6], [6]), ([7], [7]), ([7], [7]), ([], []), ([10, 8, 6, 0, 1, 2, 3, 4, 5, 6, 7, 8, 10], [8, 10]), ([9, 11, 0, 1, 2, 3, 4, 5, 6, 7, 8, 9, 10, 11], [9])])
def spec_l11Run.B11 : List Nat := [0, 0, 0, 0, 12, 28, 63, 127, 255, 255, 0, 1535, 4095]
theorem spec_l11Run.tab11 : rtab .any (opsOf Try.f64 11) = spec_l11Run.T11 := by kernel_rfl
theorem spec_l11Run.bits11 : waitsOk spec_l11Run.T11.2 spec_l11Run.B11 = true := by kernel_rfl
def spec_l11Run.T16 : Bool × List (List Nat × List Nat) := (true, [([], []), ([0], [0]), ([], []), ([], []), ([2, 3], [2, 3]), ([4], [4]), ([], []), ([5, 6], [5, 6]), ([7, 7], [7]), ([1, 8], [1, 8]), ([0, 1, 2, 3, 4, 5, 6, 7, 8, 9], []), ([10, 9, 8, 0, 1, 2, 3, 4, 5, 6, 7, 8, 9], [9, 10])])
def spec_l11Run.B16 : List Nat := [0, 1, 0, 0, 12, 28, 0, 124, 252, 511, 1023, 2047]
theorem spec_l11Run.tab16 : rtab .any (opsOf Try.f64 16) = spec_l11Run.T16 := by kernel_rfl
theorem spec_l11Run.bits16 : waitsOk spec_l11Run.T16.2 spec_l11Run.B16 = true := by kernel_rfl
set_option maxHeartbeats 8000000 in
set_option maxRecDepth 100000 in
theorem spec_l11Run.calls (k : Nat) (a0_0 : Int) (P0_1_ : Nat → Prop) (A0_1 : Option Addr) (c0_1 : Nat) (l0_1 : List Int) (a1_0 : Int) (a1_1 : Int) (a1_2 : Int) (A2 : Option Addr) (c2 : Nat) (l2 : List Int) (r1 : List Int) (r2 : List Int) (r3 : Int) (r4 : Bool) (w : World) (hs0_1 : Kd.V (Kd.int .i64) 3 w w.heap.size (fun k_ => P0_1_ k_) (.slice A0_1 l0_1.length c0_1) l0_1) (hr2 : Kd.C (Kd.int .i64) w A2 l2.length l2) (hc2 : l2.length ≤ c2) (h : spec_l11Run.f k a0_0 l0_1 a1_0 a1_1 a1_2 l2 = some (r1, r2, r3, r4)) :
  Calls Try.prog 64 #[.agg #[.int .i64 a0_0, .slice A0_1 l0_1.length c0_1], .agg #[.int .i64 a1_0, .int .i64 a1_1, .int .i64 a1_2], .slice A2 l2.length c2] w fun e w' => ∃ v0_ v1_ : Value, e = .returned (.tuple #[.agg #[v0_, v1_, .int .i64 r3], .bool r4]) ∧ Kd.R (Kd.int .i64) 3 w' w.heap.size (fun k_ => (w.heap.size ≤ k_) ∧ some k_ ≠ (v1_ : Value).ownBlock) v0_ r1 ∧ Kd.R (Kd.int .i64) 3 w' w.heap.size (fun k_ => (w.heap.size ≤ k_) ∧ some k_ ≠ (v0_ : Value).ownBlock) v1_ r2 ∧ Below w.heap.size w w' := by
 have hu30 := Try.underlying30
 have hu32 := Try.underlying32
 have hu89 := Try.underlying89
 have HO0_1 := zA3 (show Kd.V (Kd.int .i64) 3 w w.heap.size (fun k_ => (P0_1_ k_ ∨ w.heap.size ≤ k_)) (.slice A0_1 l0_1.length c0_1) l0_1 from Kd.V_mono hs0_1 (fun k_ hk => .inl hk))
 have HR2 := zA3 hr2
 have HC2 := zA3 hc2
 clear hr2 hc2
 have HB := zA3 (Below.refl w.heap.size w)
 have H : ((some (([] : List Int) : List Int)).bind fun y168 => ((some (([] : List Int) : List Int)).bind fun y171 => ((spec_l11Flow.f k a0_0 l0_1).bind fun t175 => (if t175 = true then ((spec_l11Rule.f k a1_0 a1_1 a1_2).bind fun t176 => (if t176 = true then ((spec_l11Numbers.f k l2 20 20).bind fun t177 => (spec_l11Run.j0 k l2 (!t177) a0_0 l0_1 a1_0 a1_1 a1_2 y168 y171 0)) else (spec_l11Run.j0 k l2 true a0_0 l0_1 a1_0 a1_1 a1_2 y168 y171 0))) else (spec_l11Run.j0 k l2 true a0_0 l0_1 a1_0 a1_1 a1_2 y168 y171 0))))) = some (r1, r2, r3, r4) := h
 clear h
 obtain ⟨y168, hy168⟩ : ∃ y_ : List Int, y_ = (([] : List Int)) := ⟨_, rfl⟩
 replace H : ((some (([] : List Int) : List Int)).bind fun y171 => ((spec_l11Flow.f k a0_0 l0_1).bind fun t175 => (if t175 = true then ((spec_l11Rule.f k a1_0 a1_1 a1_2).bind fun t176 => (if t176 = true then ((spec_l11Numbers.f k l2 20 20).bind fun t177 => (spec_l11Run.j0 k l2 (!t177) a0_0 l0_1 a1_0 a1_1 a1_2 y168 y171 0)) else (spec_l11Run.j0 k l2 true a0_0 l0_1 a1_0 a1_1 a1_2 y168 y171 0))) else (spec_l11Run.j0 k l2 true a0_0 l0_1 a1_0 a1_1 a1_2 y168 y171 0)))) = some (r1, r2, r3, r4) := by first | (rw [hy168]; with_reducible exact H) | (have H2_ := (Option.bind_some _ _).symm.trans H; rw [hy168]; with_reducible exact H2_) | (have H2_ := (Option.bind_some _ _).symm.trans H; with_reducible exact H2_) | with_reducible exact H | (rw [hy168]; exact H) | exact H
 have Ny168 := zA3 hy168
 clear hy168
 obtain ⟨y171, hy171⟩ : ∃ y_ : List Int, y_ = (([] : List Int)) := ⟨_, rfl⟩
 replace H : ((spec_l11Flow.f k a0_0 l0_1).bind fun t175 => (if t175 = true then ((spec_l11Rule.f k a1_0 a1_1 a1_2).bind fun t176 => (if t176 = true then ((spec_l11Numbers.f k l2 20 20).bind fun t177 => (spec_l11Run.j0 k l2 (!t177) a0_0 l0_1 a1_0 a1_1 a1_2 y168 y171 0)) else (spec_l11Run.j0 k l2 true a0_0 l0_1 a1_0 a1_1 a1_2 y168 y171 0))) else (spec_l11Run.j0 k l2 true a0_0 l0_1 a1_0 a1_1 a1_2 y168 y171 0))) = some (r1, r2, r3, r4) := by first | (rw [hy171]; with_reducible exact H) | (have H2_ := (Option.bind_some _ _).symm.trans H; rw [hy171]; with_reducible exact H2_) | (have H2_ := (Option.bind_some _ _).symm.trans H; with_reducible exact H2_) | with_reducible exact H | (rw [hy171]; exact H) | exact H
 have Ny171 := zA3 hy171
 clear hy171
 have HC4 := zA3 H
 clear H
 go_enter Try.func64, Try.ntmps64
 go_upto_region 2 with (first | ((with_reducible refine gate_dst (N := 3) rfl ?_); refine box_event ?hg (N := 3) ?hd (cs := #[.int .i64 a0_0, .slice A0_1 l0_1.length c0_1]) (t := 30) ?hr ?_; (case hd => rfl); (case hg => rfl); (case hr => first | (go_simp; done) | (go_simp; rfl)); intro gb165 hg w5 hbox hb; have n0_ := zA3 (Kd.V_below (Kd.V_elderB (by (with_reducible repeat (first | apply Kd.V_alloc | apply Kd.V_drewN | apply Kd.V_drew)); exact HO0_1.out) gb165 (Nat.le_of_eq hg.symm)) hb); have n1_ := zA3 (below_step (by repeat (first | (with_reducible first | exact HB.out | apply below_alloc | apply pw_below_drewN | apply below_drew1) | exact HB.out)) hb); have n2_ := zA3 (hbox); have n3_ := zA3 ((by rw [hg]; exact (below_size (by repeat (first | (with_reducible first | exact HB.out | apply below_alloc | apply pw_below_drewN | apply below_drew1) | exact HB.out))) : w.heap.size ≤ gb165)); have n4_ := zA3 ((by rw [hg]; exact (below_size (by repeat (first | (with_reducible first | exact HB.out | apply below_alloc | apply pw_below_drewN | apply below_drew1) | exact HB.out))) : w.heap.size ≤ gb165)); clear HO0_1; clear HB; have HO0_1 := n0_; have HB := n1_; have BK165 := n2_; have GW165 := n3_; have GE165 := n4_; clear n0_ n1_ n2_ n3_ n4_; clear hb hbox hg) | ((with_reducible refine gate_dst (N := 4) rfl ?_); refine box_event ?hg (N := 4) ?hd (cs := #[.int .i64 a1_0, .int .i64 a1_1, .int .i64 a1_2]) (t := 32) ?hr ?_; (case hd => rfl); (case hg => rfl); (case hr => first | (go_simp; done) | (go_simp; rfl)); intro gb166 hg w6 hbox hb; have n0_ := zA3 (Kd.V_below (Kd.V_elderB (by (with_reducible repeat (first | apply Kd.V_alloc | apply Kd.V_drewN | apply Kd.V_drew)); exact HO0_1.out) gb166 (Nat.le_of_eq hg.symm)) hb); have n1_ := zA3 (blk_below (g := gb165) (o := .cells #[.int .i64 a0_0, .slice A0_1 l0_1.length c0_1] 30 (0, 0)) (by (with_reducible repeat (first | refine bN3 ?_ _ | refine bD3 ?_ | refine bA3 ?_ _)); exact BK165.out) hb); have n2_ := zA3 (below_step (by repeat (first | (with_reducible first | exact HB.out | apply below_alloc | apply pw_below_drewN | apply below_drew1 | refine below_set ?_ GE165.out) | exact HB.out)) hb); have n3_ := zA3 (hbox); have n4_ := zA3 ((by rw [hg]; exact (below_size (by repeat (first | (with_reducible first | exact HB.out | apply below_alloc | apply pw_below_drewN | apply below_drew1 | refine below_set ?_ GE165.out) | exact HB.out))) : w.heap.size ≤ gb166)); have n5_ := zA3 ((by rw [hg]; exact (below_size (by repeat (first | (with_reducible first | exact HB.out | apply below_alloc | apply pw_below_drewN | apply below_drew1 | refine below_set ?_ GE165.out) | exact HB.out))) : w.heap.size ≤ gb166)); have n6_ := zA3 ((by rw [hg]; exact Nat.ne_of_lt (blk_lt (g := gb165) (o := .cells #[.int .i64 a0_0, .slice A0_1 l0_1.length c0_1] 30 (0, 0)) (by (with_reducible repeat (first | refine bN3 ?_ _ | refine bD3 ?_ | refine bA3 ?_ _)); exact BK165.out)) : gb165 ≠ gb166)); have n7_ := zA3 ((by rw [hg]; exact Nat.ne_of_gt (blk_lt (g := gb165) (o := .cells #[.int .i64 a0_0, .slice A0_1 l0_1.length c0_1] 30 (0, 0)) (by (with_reducible repeat (first | refine bN3 ?_ _ | refine bD3 ?_ | refine bA3 ?_ _)); exact BK165.out)) : gb166 ≠ gb165)); clear HO0_1; clear BK165; clear HB; have HO0_1 := n0_; have BK165 := n1_; have HB := n2_; have BK166 := n3_; have GW166 := n4_; have GE166 := n5_; have NB165_166 := n6_; have NB166_165 := n7_; clear n0_ n1_ n2_ n3_ n4_ n5_ n6_ n7_; clear hb hbox hg) | ((with_reducible refine gate_dst (N := 6) rfl ?_); refine box_event ?hg (N := 6) ?hd (cs := #[.slice none 0 0, .slice none 0 0, .int .i64 0]) (t := 89) ?hr ?_; (case hd => rfl); (case hg => rfl); (case hr => first | (go_simp; done) | (go_simp; rfl)); intro gb167 hg w7 hbox hb; have n0_ := zA3 (Kd.V_below (Kd.V_elderB (by (with_reducible repeat (first | apply Kd.V_alloc | apply Kd.V_drewN | apply Kd.V_drew)); exact HO0_1.out) gb167 (Nat.le_of_eq hg.symm)) hb); have n1_ := zA3 (blk_below (g := gb165) (o := .cells #[.int .i64 a0_0, .slice A0_1 l0_1.length c0_1] 30 (0, 0)) (by (with_reducible repeat (first | refine bN3 ?_ _ | refine bD3 ?_ | refine bA3 ?_ _)); exact BK165.out) hb); have n2_ := zA3 (blk_below (g := gb166) (o := .cells #[.int .i64 a1_0, .int .i64 a1_1, .int .i64 a1_2] 32 (0, 0)) (by (with_reducible repeat (first | refine bN3 ?_ _ | refine bD3 ?_ | refine bA3 ?_ _)); exact BK166.out) hb); have n3_ := zA3 (below_step (by repeat (first | (with_reducible first | exact HB.out | apply below_alloc | apply pw_below_drewN | apply below_drew1 | refine below_set ?_ GE165.out | refine below_set ?_ GE166.out) | exact HB.out)) hb); have n4_ := zA3 (hbox); have n5_ := zA3 ((by rw [hg]; exact (below_size (by repeat (first | (with_reducible first | exact HB.out | apply below_alloc | apply pw_below_drewN | apply below_drew1 | refine below_set ?_ GE165.out | refine below_set ?_ GE166.out) | exact HB.out))) : w.heap.size ≤ gb167)); have n6_ := zA3 ((by rw [hg]; exact (below_size (by repeat (first | (with_reducible first | exact HB.out | apply below_alloc | apply pw_below_drewN | apply below_drew1 | refine below_set ?_ GE165.out | refine below_set ?_ GE166.out) | exact HB.out))) : w.heap.size ≤ gb167)); have n7_ := zA3 ((by rw [hg]; exact Nat.ne_of_lt (blk_lt (g := gb165) (o := .cells #[.int .i64 a0_0, .slice A0_1 l0_1.length c0_1] 30 (0, 0)) (by (with_reducible repeat (first | refine bN3 ?_ _ | refine bD3 ?_ | refine bA3 ?_ _)); exact BK165.out)) : gb165 ≠ gb167)); have n8_ := zA3 ((by rw [hg]; exact Nat.ne_of_gt (blk_lt (g := gb165) (o := .cells #[.int .i64 a0_0, .slice A0_1 l0_1.length c0_1] 30 (0, 0)) (by (with_reducible repeat (first | refine bN3 ?_ _ | refine bD3 ?_ | refine bA3 ?_ _)); exact BK165.out)) : gb167 ≠ gb165)); have n9_ := zA3 ((by rw [hg]; exact Nat.ne_of_lt (blk_lt (g := gb166) (o := .cells #[.int .i64 a1_0, .int .i64 a1_1, .int .i64 a1_2] 32 (0, 0)) (by (with_reducible repeat (first | refine bN3 ?_ _ | refine bD3 ?_ | refine bA3 ?_ _)); exact BK166.out)) : gb166 ≠ gb167)); have n10_ := zA3 ((by rw [hg]; exact Nat.ne_of_gt (blk_lt (g := gb166) (o := .cells #[.int .i64 a1_0, .int .i64 a1_1, .int .i64 a1_2] 32 (0, 0)) (by (with_reducible repeat (first | refine bN3 ?_ _ | refine bD3 ?_ | refine bA3 ?_ _)); exact BK166.out)) : gb167 ≠ gb166)); clear HO0_1; clear BK165; clear BK166; clear HB; have HO0_1 := n0_; have BK165 := n1_; have BK166 := n2_; have HB := n3_; have BK167 := n4_; have GW167 := n5_; have GE167 := n6_; have NB165_167 := n7_; have NB167_165 := n8_; have NB166_167 := n9_; have NB167_166 := n10_; clear n0_ n1_ n2_ n3_ n4_ n5_ n6_ n7_ n8_ n9_ n10_; clear hb hbox hg) | ((with_reducible refine gate_dst (N := 15) rfl ?_); refine Kd.R_lit (Kd.int .i64) _ 3 ?hg (N := 15) ?hd (xs := ([] : List Int)) (inner := []) (ok := fun _ => True) (okp := fun _ => True) ?hr ?hp (fun _ hk => hk) trivial (Below.refl _ _) (Nat.le_refl _) (by simp) ?_; (case hd => rfl); (case hg => rfl); (case hr => first | (go_simp; done) | (go_simp; rfl)); (case hp => exact (Reps.none _ _)); intro v169 w8 ho9 hb hg_ hnew_; clear hg_ hnew_; (first | rw [← Ny168.out] at ho9 | (simp only [Int.reduceToNat] at ho9; rw [← Ny168.out] at ho9)); have n0_ := zA3 (Kd.V_elder' (by (with_reducible repeat (first | apply Kd.V_alloc | apply Kd.V_drewN | apply Kd.V_drew)); exact HO0_1.out) (Kd.R_base ho9) hb); have n1_ := zA3 (Kd.R_lower (Kd.R_newM (M := fun k_ => (w.heap.size ≤ k_)) ho9 (below_size (by repeat (first | (with_reducible first | exact HB.out | apply below_alloc | apply pw_below_drewN | apply below_drew1 | refine below_set ?_ GE165.out | refine below_set ?_ GE166.out | refine below_set ?_ GE167.out) | exact HB.out))) (fun k_ h_ => h_)) (below_size (by repeat (first | (with_reducible first | exact HB.out | apply below_alloc | apply pw_below_drewN | apply below_drew1 | refine below_set ?_ GE165.out | refine below_set ?_ GE166.out | refine below_set ?_ GE167.out) | exact HB.out)))); have n2_ := zA3 (blk_below (g := gb165) (o := .cells #[.int .i64 a0_0, .slice A0_1 l0_1.length c0_1] 30 (0, 0)) (by (with_reducible repeat (first | refine bN3 ?_ _ | refine bD3 ?_ | refine bA3 ?_ _)); exact BK165.out) hb); have n3_ := zA3 (blk_below (g := gb166) (o := .cells #[.int .i64 a1_0, .int .i64 a1_1, .int .i64 a1_2] 32 (0, 0)) (by (with_reducible repeat (first | refine bN3 ?_ _ | refine bD3 ?_ | refine bA3 ?_ _)); exact BK166.out) hb); have n4_ := zA3 (blk_below (g := gb167) (o := .cells #[.slice none 0 0, .slice none 0 0, .int .i64 0] 89 (0, 0)) (by (with_reducible repeat (first | refine bN3 ?_ _ | refine bD3 ?_ | refine bA3 ?_ _)); exact BK167.out) hb); have n5_ := zA3 (below_step (by repeat (first | (with_reducible first | exact HB.out | apply below_alloc | apply pw_below_drewN | apply below_drew1 | refine below_set ?_ GE165.out | refine below_set ?_ GE166.out | refine below_set ?_ GE167.out) | exact HB.out)) hb); clear HO0_1; clear BK165; clear BK166; clear BK167; clear HB; have HO0_1 := n0_; have HO170 := n1_; have BK165 := n2_; have BK166 := n3_; have BK167 := n4_; have HB := n5_; clear n0_ n1_ n2_ n3_ n4_ n5_; clear hb ho9) | ((with_reducible refine gate_dst (N := 16) rfl ?_); refine Kd.R_lit (Kd.int .i64) _ 3 ?hg (N := 16) ?hd (xs := ([] : List Int)) (inner := []) (ok := fun _ => True) (okp := fun _ => True) ?hr ?hp (fun _ hk => hk) trivial (Below.refl _ _) (Nat.le_refl _) (by simp) ?_; (case hd => rfl); (case hg => rfl); (case hr => first | (go_simp; done) | (go_simp; rfl)); (case hp => exact (Reps.none _ _)); intro v172 w10 ho11 hb hg_ hnew_; clear hg_ hnew_; (first | rw [← Ny171.out] at ho11 | (simp only [Int.reduceToNat] at ho11; rw [← Ny171.out] at ho11)); have n0_ := zA3 (Kd.V_elder' (by (with_reducible repeat (first | apply Kd.V_alloc | apply Kd.V_drewN | apply Kd.V_drew)); exact HO0_1.out) (Kd.R_base ho11) hb); have n1_ := zA3 (Kd.R_elder' (by (with_reducible repeat (first | apply Kd.R_alloc | apply Kd.R_drewN | apply Kd.R_drew)); exact HO170.out) (Kd.R_base ho11) hb); have n2_ := zA3 (Kd.R_lower (Kd.R_new' (Kd.R_newM (M := fun k_ => (w.heap.size ≤ k_)) ho11 (below_size (by repeat (first | (with_reducible first | exact HB.out | apply below_alloc | apply pw_below_drewN | apply below_drew1 | refine below_set ?_ GE165.out | refine below_set ?_ GE166.out | refine below_set ?_ GE167.out) | exact HB.out))) (fun k_ h_ => h_)) (Kd.R_lt (by (with_reducible repeat (first | apply Kd.R_alloc | apply Kd.R_drewN | apply Kd.R_drew)); exact HO170.out))) (below_size (by repeat (first | (with_reducible first | exact HB.out | apply below_alloc | apply pw_below_drewN | apply below_drew1 | refine below_set ?_ GE165.out | refine below_set ?_ GE166.out | refine below_set ?_ GE167.out) | exact HB.out)))); have n3_ := zA3 (blk_below (g := gb165) (o := .cells #[.int .i64 a0_0, .slice A0_1 l0_1.length c0_1] 30 (0, 0)) (by (with_reducible repeat (first | refine bN3 ?_ _ | refine bD3 ?_ | refine bA3 ?_ _)); exact BK165.out) hb); have n4_ := zA3 (blk_below (g := gb166) (o := .cells #[.int .i64 a1_0, .int .i64 a1_1, .int .i64 a1_2] 32 (0, 0)) (by (with_reducible repeat (first | refine bN3 ?_ _ | refine bD3 ?_ | refine bA3 ?_ _)); exact BK166.out) hb); have n5_ := zA3 (blk_below (g := gb167) (o := .cells #[.slice none 0 0, .slice none 0 0, .int .i64 0] 89 (0, 0)) (by (with_reducible repeat (first | refine bN3 ?_ _ | refine bD3 ?_ | refine bA3 ?_ _)); exact BK167.out) hb); have n6_ := zA3 (below_step (by repeat (first | (with_reducible first | exact HB.out | apply below_alloc | apply pw_below_drewN | apply below_drew1 | refine below_set ?_ GE165.out | refine below_set ?_ GE166.out | refine below_set ?_ GE167.out) | exact HB.out)) hb); clear HO0_1; clear HO170; clear BK165; clear BK166; clear BK167; clear HB; have HO0_1 := n0_; have HO170 := n1_; have HO173 := n2_; have BK165 := n3_; have BK166 := n4_; have BK167 := n5_; have HB := n6_; clear n0_ n1_ n2_ n3_ n4_ n5_ n6_; clear hb ho11; obtain ⟨Ao12, co12, eo12⟩ := Kd.R_slice HO173.out; subst eo12; obtain ⟨Ao13, co13, eo13⟩ := Kd.R_slice HO170.out; subst eo13) | ((with_reducible refine gate_dst (N := 8) rfl ?_); refine box_event ?hg (N := 8) ?hd (cs := #[.slice none 0 0, .slice none 0 0, .int .i64 0]) (t := 89) ?hr ?_; (case hd => rfl); (case hg => rfl); (case hr => first | (go_simp; done) | (go_simp; rfl)); intro gb174 hg w14 hbox hb; have n0_ := zA3 (Kd.V_below (Kd.V_elderB (by (with_reducible repeat (first | apply Kd.V_alloc | apply Kd.V_drewN | apply Kd.V_drew)); exact HO0_1.out) gb174 (Nat.le_of_eq hg.symm)) hb); have n1_ := zA3 (Kd.R_below (by (with_reducible repeat (first | apply Kd.R_alloc | apply Kd.R_drewN | apply Kd.R_drew)); exact HO170.out) hb); have n2_ := zA3 (Kd.R_below (by (with_reducible repeat (first | apply Kd.R_alloc | apply Kd.R_drewN | apply Kd.R_drew)); exact HO173.out) hb); have n3_ := zA3 (blk_below (g := gb165) (o := .cells #[.int .i64 a0_0, .slice A0_1 l0_1.length c0_1] 30 (0, 0)) (by (with_reducible repeat (first | refine bN3 ?_ _ | refine bD3 ?_ | refine bA3 ?_ _)); exact BK165.out) hb); have n4_ := zA3 (blk_below (g := gb166) (o := .cells #[.int .i64 a1_0, .int .i64 a1_1, .int .i64 a1_2] 32 (0, 0)) (by (with_reducible repeat (first | refine bN3 ?_ _ | refine bD3 ?_ | refine bA3 ?_ _)); exact BK166.out) hb); have n5_ := zA3 (blk_below (g := gb167) (o := .cells #[.slice none 0 0, .slice none 0 0, .int .i64 0] 89 (0, 0)) (by (with_reducible repeat (first | refine bN3 ?_ _ | refine bD3 ?_ | refine bA3 ?_ _)); exact BK167.out) hb); have n6_ := zA3 (below_step (by repeat (first | (with_reducible first | exact HB.out | apply below_alloc | apply pw_below_drewN | apply below_drew1 | refine below_set ?_ GE165.out | refine below_set ?_ GE166.out | refine below_set ?_ GE167.out) | exact HB.out)) hb); have n7_ := zA3 (hbox); have n8_ := zA3 ((by rw [hg]; exact (below_size (by repeat (first | (with_reducible first | exact HB.out | apply below_alloc | apply pw_below_drewN | apply below_drew1 | refine below_set ?_ GE165.out | refine below_set ?_ GE166.out | refine below_set ?_ GE167.out) | exact HB.out))) : w.heap.size ≤ gb174)); have n9_ := zA3 ((by rw [hg]; exact (below_size (by repeat (first | (with_reducible first | exact HB.out | apply below_alloc | apply pw_below_drewN | apply below_drew1 | refine below_set ?_ GE165.out | refine below_set ?_ GE166.out | refine below_set ?_ GE167.out) | exact HB.out))) : w.heap.size ≤ gb174)); have n10_ := zA3 ((by rw [hg]; exact Nat.ne_of_lt (blk_lt (g := gb165) (o := .cells #[.int .i64 a0_0, .slice A0_1 l0_1.length c0_1] 30 (0, 0)) (by (with_reducible repeat (first | refine bN3 ?_ _ | refine bD3 ?_ | refine bA3 ?_ _)); exact BK165.out)) : gb165 ≠ gb174)); have n11_ := zA3 ((by rw [hg]; exact Nat.ne_of_gt (blk_lt (g := gb165) (o := .cells #[.int .i64 a0_0, .slice A0_1 l0_1.length c0_1] 30 (0, 0)) (by (with_reducible repeat (first | refine bN3 ?_ _ | refine bD3 ?_ | refine bA3 ?_ _)); exact BK165.out)) : gb174 ≠ gb165)); have n12_ := zA3 ((by rw [hg]; exact Nat.ne_of_lt (blk_lt (g := gb166) (o := .cells #[.int .i64 a1_0, .int .i64 a1_1, .int .i64 a1_2] 32 (0, 0)) (by (with_reducible repeat (first | refine bN3 ?_ _ | refine bD3 ?_ | refine bA3 ?_ _)); exact BK166.out)) : gb166 ≠ gb174)); have n13_ := zA3 ((by rw [hg]; exact Nat.ne_of_gt (blk_lt (g := gb166) (o := .cells #[.int .i64 a1_0, .int .i64 a1_1, .int .i64 a1_2] 32 (0, 0)) (by (with_reducible repeat (first | refine bN3 ?_ _ | refine bD3 ?_ | refine bA3 ?_ _)); exact BK166.out)) : gb174 ≠ gb166)); have n14_ := zA3 ((by rw [hg]; exact Nat.ne_of_lt (blk_lt (g := gb167) (o := .cells #[.slice none 0 0, .slice none 0 0, .int .i64 0] 89 (0, 0)) (by (with_reducible repeat (first | refine bN3 ?_ _ | refine bD3 ?_ | refine bA3 ?_ _)); exact BK167.out)) : gb167 ≠ gb174)); have n15_ := zA3 ((by rw [hg]; exact Nat.ne_of_gt (blk_lt (g := gb167) (o := .cells #[.slice none 0 0, .slice none 0 0, .int .i64 0] 89 (0, 0)) (by (with_reducible repeat (first | refine bN3 ?_ _ | refine bD3 ?_ | refine bA3 ?_ _)); exact BK167.out)) : gb174 ≠ gb167)); clear HO0_1; clear HO170; clear HO173; clear BK165; clear BK166; clear BK167; clear HB; have HO0_1 := n0_; have HO170 := n1_; have HO173 := n2_; have BK165 := n3_; have BK166 := n4_; have BK167 := n5_; have HB := n6_; have BK174 := n7_; have GW174 := n8_; have GE174 := n9_; have NB165_174 := n10_; have NB174_165 := n11_; have NB166_174 := n12_; have NB174_166 := n13_; have NB167_174 := n14_; have NB174_167 := n15_; clear n0_ n1_ n2_ n3_ n4_ n5_ n6_ n7_ n8_ n9_ n10_ n11_ n12_ n13_ n14_ n15_; clear hb hbox hg; have hnb15 := NB174_165.out; have hnc15 := NB165_174.out; have hnb16 := NB174_166.out; have hnc16 := NB166_174.out; have hnb17 := NB174_167.out; have hnc17 := NB167_174.out; have hcz18_0 : w14.cell? ⟨gb174, 0, none⟩ = some (.slice none 0 0) := (blk_cell BK174.out 0).trans rfl; have hcz18_1 : w14.cell? ⟨gb174, 1, none⟩ = some (.slice none 0 0) := (blk_cell BK174.out 1).trans rfl; have hcz18_2 : w14.cell? ⟨gb174, 2, none⟩ = some (.int .i64 0) := (blk_cell BK174.out 2).trans rfl; have hfz18_0 := blk_frozen BK174.out 0; have hfz18_1 := blk_frozen BK174.out 1; have hfz18_2 := blk_frozen BK174.out 2))
 (try simp only [Act.put, List.setIfInBounds_toArray, List.set_cons_zero, List.set_cons_succ])
 go_cut [30] (fun v30 wc => ∃ (kq : Nat) (x30_3 : Bool), v30 = .bool x30_3 ∧ Aside0 (spec_l11Run.j0 kq l2 x30_3 a0_0 l0_1 a1_0 a1_1 a1_2 y168 y171 0 = some (r1, r2, r3, r4)) ∧ Aside0 (kq ≤ k) ∧ Aside0 (Kd.V (Kd.int .i64) 3 wc w.heap.size (fun k_ => (P0_1_ k_ ∨ w.heap.size ≤ k_) ∧ some k_ ≠ ((.slice Ao13 y168.length co13) : Value).ownBlock ∧ some k_ ≠ ((.slice Ao12 y171.length co12) : Value).ownBlock ∧ k_ ≠ gb165 ∧ k_ ≠ gb166 ∧ k_ ≠ gb167 ∧ k_ ≠ gb174) (.slice A0_1 l0_1.length c0_1) l0_1) ∧ Aside0 (Kd.R (Kd.int .i64) 3 wc w.heap.size (fun k_ => (w.heap.size ≤ k_) ∧ some k_ ≠ ((.slice Ao12 y171.length co12) : Value).ownBlock) (.slice Ao13 y168.length co13) y168) ∧ Aside0 (Kd.R (Kd.int .i64) 3 wc w.heap.size (fun k_ => (w.heap.size ≤ k_) ∧ some k_ ≠ ((.slice Ao13 y168.length co13) : Value).ownBlock) (.slice Ao12 y171.length co12) y171) ∧ Aside0 (wc.heap[gb165]? = some (.cells #[.int .i64 a0_0, (.slice A0_1 l0_1.length c0_1)] 30 (0, 0))) ∧ Aside0 (wc.heap[gb166]? = some (.cells #[.int .i64 a1_0, .int .i64 a1_1, .int .i64 a1_2] 32 (0, 0))) ∧ Aside0 (wc.heap[gb167]? = some (.cells #[(.slice none 0 0), (.slice none 0 0), .int .i64 0] 89 (0, 0))) ∧ Aside0 (wc.heap[gb174]? = some (.cells #[(.slice Ao13 y168.length co13), (.slice Ao12 y171.length co12), .int .i64 0] 89 (0, 0))) ∧ Aside0 (Below w.heap.size w wc))
 case first =>
  have H := HC4.out
  clear HC4
  replace H := Option.bind_eq_some_iff.mp H
  obtain ⟨t175, A190, H⟩ := H
  replace H : (if t175 = true then ((spec_l11Rule.f k a1_0 a1_1 a1_2).bind fun t176 => (if t176 = true then ((spec_l11Numbers.f k l2 20 20).bind fun t177 => (spec_l11Run.j0 k l2 (!t177) a0_0 l0_1 a1_0 a1_1 a1_2 y168 y171 0)) else (spec_l11Run.j0 k l2 true a0_0 l0_1 a1_0 a1_1 a1_2 y168 y171 0))) else (spec_l11Run.j0 k l2 true a0_0 l0_1 a1_0 a1_1 a1_2 y168 y171 0)) = some (r1, r2, r3, r4) := H
  have A19 := zA3 A190
  clear A190
  by_cases c20 : t175 = true
  ·subst c20
   have H1 : ((spec_l11Rule.f k a1_0 a1_1 a1_2).bind fun t176 => (if t176 = true then ((spec_l11Numbers.f k l2 20 20).bind fun t177 => (spec_l11Run.j0 k l2 (!t177) a0_0 l0_1 a1_0 a1_1 a1_2 y168 y171 0)) else (spec_l11Run.j0 k l2 true a0_0 l0_1 a1_0 a1_1 a1_2 y168 y171 0))) = some (r1, r2, r3, r4) := by rw [if_pos rfl] at H; exact H
   clear H
   have H := H1
   clear H1
   replace H := Option.bind_eq_some_iff.mp H
   obtain ⟨t176, A210, H⟩ := H
   replace H : (if t176 = true then ((spec_l11Numbers.f k l2 20 20).bind fun t177 => (spec_l11Run.j0 k l2 (!t177) a0_0 l0_1 a1_0 a1_1 a1_2 y168 y171 0)) else (spec_l11Run.j0 k l2 true a0_0 l0_1 a1_0 a1_1 a1_2 y168 y171 0)) = some (r1, r2, r3, r4) := H
   have A21 := zA3 A210
   clear A210
   by_cases c22 : t176 = true
   ·subst c22
    have H1 : ((spec_l11Numbers.f k l2 20 20).bind fun t177 => (spec_l11Run.j0 k l2 (!t177) a0_0 l0_1 a1_0 a1_1 a1_2 y168 y171 0)) = some (r1, r2, r3, r4) := by rw [if_pos rfl] at H; exact H
    clear H
    have H := H1
    clear H1
    replace H := Option.bind_eq_some_iff.mp H
    obtain ⟨t177, A230, H⟩ := H
    replace H : (spec_l11Run.j0 k l2 (!t177) a0_0 l0_1 a1_0 a1_1 a1_2 y168 y171 0) = some (r1, r2, r3, r4) := H
    have A23 := zA3 A230
    clear A230
    have H' := zA3 H
    clear H
    have hnb24 := NB165_166.out
    have hnc24 := NB166_165.out
    have hnb25 := NB165_167.out
    have hnc25 := NB167_165.out
    have hnb26 := NB165_174.out
    have hnc26 := NB174_165.out
    have hcz27_0 : w14.cell? ⟨gb165, 0, none⟩ = some (.int .i64 a0_0) := (blk_cell BK165.out 0).trans rfl
    have hcz27_1 : w14.cell? ⟨gb165, 1, none⟩ = some (.slice A0_1 l0_1.length c0_1) := (blk_cell BK165.out 1).trans rfl
    have hfz27_0 := blk_frozen BK165.out 0
    have hfz27_1 := blk_frozen BK165.out 1
    go_wp2_with (first | ((with_reducible refine gate_callee (f := 77) rfl ?_); refine goesL_ (some 19) rfl rfl Try.func77 (by kernel_rfl) rfl #[.agg #[.int .i64 a0_0, .slice A0_1 l0_1.length c0_1]] rfl (by (try simp only [List.map_toArray, List.map_cons, List.map_nil]); first | done | rfl | (simp only [List.length_drop, List.length_take]; rfl)) ?_; (with_reducible refine (spec_l11Flow.calls k a0_0 _ _ l0_1 true _ ?side1 ?side2 A19.out).mono ?_); (case side1 => refine (Kd.V_reads' (e := 3) (base := w.heap.size) (ok := fun k_ => (((((((P0_1_ k_ ∨ w.heap.size ≤ k_) ∧ k_ ≠ gb165) ∧ k_ ≠ gb166) ∧ k_ ≠ gb167) ∧ some k_ ≠ (.slice Ao13 y168.length co13 : Value).ownBlock) ∧ some k_ ≠ (.slice Ao12 y171.length co12 : Value).ownBlock) ∧ k_ ≠ gb174)) (n := l0_1.length) (c := c0_1) ?_).2.2; exact (by (with_reducible repeat (first | apply Kd.V_alloc | apply Kd.V_drewN | apply Kd.V_drew)); exact (Kd.V_mono (Kd.V_far (p := ⟨gb174, 2, none⟩) (Kd.V_far (p := ⟨gb174, 1, none⟩) (Kd.V_far (p := ⟨gb174, 0, none⟩) (Kd.V_mono HO0_1.out (fun k_ hk => (⟨hk, hk.2⟩ : _ ∧ k_ ≠ gb174))) (fun _ hk => hk.2) (.slice Ao13 y168.length co13)) (fun _ hk => hk.2) (.slice Ao12 y171.length co12)) (fun _ hk => hk.2) (.int .i64 0)) (fun _ h_ => h_.1)))); (case side2 => exact (Kd.V_reads' HO0_1.out).2.1); rintro e w28 ⟨rfl, hb⟩; refine ⟨_, rfl, ?_⟩; have n0_ := zA3 (Kd.V_below (by (with_reducible repeat (first | apply Kd.V_alloc | apply Kd.V_drewN | apply Kd.V_drew)); exact (Kd.V_mono (Kd.V_far (p := ⟨gb174, 2, none⟩) (Kd.V_far (p := ⟨gb174, 1, none⟩) (Kd.V_far (p := ⟨gb174, 0, none⟩) (Kd.V_mono HO0_1.out (fun k_ hk => (⟨hk, hk.2⟩ : _ ∧ k_ ≠ gb174))) (fun _ hk => hk.2) (.slice Ao13 y168.length co13)) (fun _ hk => hk.2) (.slice Ao12 y171.length co12)) (fun _ hk => hk.2) (.int .i64 0)) (fun _ h_ => h_.1))) hb); have n1_ := zA3 (Kd.R_below (by (with_reducible repeat (first | apply Kd.R_alloc | apply Kd.R_drewN | apply Kd.R_drew)); exact (Kd.R_mono (Kd.R_far (p := ⟨gb174, 2, none⟩) (Kd.R_far (p := ⟨gb174, 1, none⟩) (Kd.R_far (p := ⟨gb174, 0, none⟩) (Kd.R_types HO170.out BK174.out (by decide)) (fun _ hk => hk.2) (.slice Ao13 y168.length co13)) (fun _ hk => hk.2) (.slice Ao12 y171.length co12)) (fun _ hk => hk.2) (.int .i64 0)) (fun _ h_ => h_.1))) hb); have n2_ := zA3 (Kd.R_below (by (with_reducible repeat (first | apply Kd.R_alloc | apply Kd.R_drewN | apply Kd.R_drew)); exact (Kd.R_mono (Kd.R_far (p := ⟨gb174, 2, none⟩) (Kd.R_far (p := ⟨gb174, 1, none⟩) (Kd.R_far (p := ⟨gb174, 0, none⟩) (Kd.R_types HO173.out BK174.out (by decide)) (fun _ hk => hk.2) (.slice Ao13 y168.length co13)) (fun _ hk => hk.2) (.slice Ao12 y171.length co12)) (fun _ hk => hk.2) (.int .i64 0)) (fun _ h_ => h_.1))) hb); have n3_ := zA3 (blk_below (g := gb165) (o := .cells #[.int .i64 a0_0, .slice A0_1 l0_1.length c0_1] 30 (0, 0)) (by (with_reducible repeat (first | refine bN3 ?_ _ | refine bD3 ?_ | refine bA3 ?_ _)); refine blk_far ?_ NB165_174.out _; (with_reducible repeat (first | refine bN3 ?_ _ | refine bD3 ?_ | refine bA3 ?_ _)); refine blk_far ?_ NB165_174.out _; (with_reducible repeat (first | refine bN3 ?_ _ | refine bD3 ?_ | refine bA3 ?_ _)); refine blk_far ?_ NB165_174.out _; (with_reducible repeat (first | refine bN3 ?_ _ | refine bD3 ?_ | refine bA3 ?_ _)); exact BK165.out) hb); have n4_ := zA3 (blk_below (g := gb166) (o := .cells #[.int .i64 a1_0, .int .i64 a1_1, .int .i64 a1_2] 32 (0, 0)) (by (with_reducible repeat (first | refine bN3 ?_ _ | refine bD3 ?_ | refine bA3 ?_ _)); refine blk_far ?_ NB166_174.out _; (with_reducible repeat (first | refine bN3 ?_ _ | refine bD3 ?_ | refine bA3 ?_ _)); refine blk_far ?_ NB166_174.out _; (with_reducible repeat (first | refine bN3 ?_ _ | refine bD3 ?_ | refine bA3 ?_ _)); refine blk_far ?_ NB166_174.out _; (with_reducible repeat (first | refine bN3 ?_ _ | refine bD3 ?_ | refine bA3 ?_ _)); exact BK166.out) hb); have n5_ := zA3 (blk_below (g := gb167) (o := .cells #[.slice none 0 0, .slice none 0 0, .int .i64 0] 89 (0, 0)) (by (with_reducible repeat (first | refine bN3 ?_ _ | refine bD3 ?_ | refine bA3 ?_ _)); refine blk_far ?_ NB167_174.out _; (with_reducible repeat (first | refine bN3 ?_ _ | refine bD3 ?_ | refine bA3 ?_ _)); refine blk_far ?_ NB167_174.out _; (with_reducible repeat (first | refine bN3 ?_ _ | refine bD3 ?_ | refine bA3 ?_ _)); refine blk_far ?_ NB167_174.out _; (with_reducible repeat (first | refine bN3 ?_ _ | refine bD3 ?_ | refine bA3 ?_ _)); exact BK167.out) hb); have n6_ := zA3 (blk_below (g := gb174) (o := .cells #[.slice Ao13 y168.length co13, .slice Ao12 y171.length co12, .int .i64 0] 89 (0, 0)) (by (with_reducible repeat (first | refine bN3 ?_ _ | refine bD3 ?_ | refine bA3 ?_ _)); refine blk_put (cs := #[.slice Ao13 y168.length co13, .slice Ao12 y171.length co12, .int .i64 0]) ?_ 2 _ rfl; (with_reducible repeat (first | refine bN3 ?_ _ | refine bD3 ?_ | refine bA3 ?_ _)); refine blk_put (cs := #[.slice Ao13 y168.length co13, .slice none 0 0, .int .i64 0]) ?_ 1 _ rfl; (with_reducible repeat (first | refine bN3 ?_ _ | refine bD3 ?_ | refine bA3 ?_ _)); refine blk_put (cs := #[.slice none 0 0, .slice none 0 0, .int .i64 0]) ?_ 0 _ rfl; (with_reducible repeat (first | refine bN3 ?_ _ | refine bD3 ?_ | refine bA3 ?_ _)); exact BK174.out) hb); have n7_ := zA3 (below_step (by repeat (first | (with_reducible first | exact HB.out | apply below_alloc | apply pw_below_drewN | apply below_drew1 | refine below_set ?_ GE165.out | refine below_set ?_ GE166.out | refine below_set ?_ GE167.out | refine below_set ?_ GE174.out) | exact HB.out)) hb); clear HO0_1; clear HO170; clear HO173; clear BK165; clear BK166; clear BK167; clear BK174; clear HB; have HO0_1 := n0_; have HO170 := n1_; have HO173 := n2_; have BK165 := n3_; have BK166 := n4_; have BK167 := n5_; have BK174 := n6_; have HB := n7_; clear n0_ n1_ n2_ n3_ n4_ n5_ n6_ n7_; (try clear hb); (try clear hb2); (try clear hk); (try clear hi); have hnb29 := NB166_167.out; have hnc29 := NB167_166.out; have hnb30 := NB166_174.out; have hnc30 := NB174_166.out; have hcz31_0 : w28.cell? ⟨gb166, 0, none⟩ = some (.int .i64 a1_0) := (blk_cell BK166.out 0).trans rfl; have hcz31_1 : w28.cell? ⟨gb166, 1, none⟩ = some (.int .i64 a1_1) := (blk_cell BK166.out 1).trans rfl; have hcz31_2 : w28.cell? ⟨gb166, 2, none⟩ = some (.int .i64 a1_2) := (blk_cell BK166.out 2).trans rfl; have hfz31_0 := blk_frozen BK166.out 0; have hfz31_1 := blk_frozen BK166.out 1; have hfz31_2 := blk_frozen BK166.out 2) | (go_at_call 96; (with_reducible refine (spec_l11Rule.calls k a1_0 a1_1 a1_2 true _ A21.out).mono ?_); rintro e w32 ⟨rfl, hb⟩; have n0_ := zA3 (Kd.V_below (by (with_reducible repeat (first | apply Kd.V_alloc | apply Kd.V_drewN | apply Kd.V_drew)); exact HO0_1.out) hb); have n1_ := zA3 (Kd.R_below (by (with_reducible repeat (first | apply Kd.R_alloc | apply Kd.R_drewN | apply Kd.R_drew)); exact HO170.out) hb); have n2_ := zA3 (Kd.R_below (by (with_reducible repeat (first | apply Kd.R_alloc | apply Kd.R_drewN | apply Kd.R_drew)); exact HO173.out) hb); have n3_ := zA3 (blk_below (g := gb165) (o := .cells #[.int .i64 a0_0, .slice A0_1 l0_1.length c0_1] 30 (0, 0)) (by (with_reducible repeat (first | refine bN3 ?_ _ | refine bD3 ?_ | refine bA3 ?_ _)); exact BK165.out) hb); have n4_ := zA3 (blk_below (g := gb166) (o := .cells #[.int .i64 a1_0, .int .i64 a1_1, .int .i64 a1_2] 32 (0, 0)) (by (with_reducible repeat (first | refine bN3 ?_ _ | refine bD3 ?_ | refine bA3 ?_ _)); exact BK166.out) hb); have n5_ := zA3 (blk_below (g := gb167) (o := .cells #[.slice none 0 0, .slice none 0 0, .int .i64 0] 89 (0, 0)) (by (with_reducible repeat (first | refine bN3 ?_ _ | refine bD3 ?_ | refine bA3 ?_ _)); exact BK167.out) hb); have n6_ := zA3 (blk_below (g := gb174) (o := .cells #[.slice Ao13 y168.length co13, .slice Ao12 y171.length co12, .int .i64 0] 89 (0, 0)) (by (with_reducible repeat (first | refine bN3 ?_ _ | refine bD3 ?_ | refine bA3 ?_ _)); exact BK174.out) hb); have n7_ := zA3 (below_step (by repeat (first | (with_reducible first | exact HB.out | apply below_alloc | apply pw_below_drewN | apply below_drew1 | refine below_set ?_ GE165.out | refine below_set ?_ GE166.out | refine below_set ?_ GE167.out | refine below_set ?_ GE174.out) | exact HB.out)) hb); clear HO0_1; clear HO170; clear HO173; clear BK165; clear BK166; clear BK167; clear BK174; clear HB; have HO0_1 := n0_; have HO170 := n1_; have HO173 := n2_; have BK165 := n3_; have BK166 := n4_; have BK167 := n5_; have BK174 := n6_; have HB := n7_; clear n0_ n1_ n2_ n3_ n4_ n5_ n6_ n7_; (try clear hb); (try clear hb2); (try clear hk); (try clear hi)) | (go_at_call 102; (with_reducible refine (spec_l11Numbers.calls k _ _ l2 20 20 t177 _ ?side1 ?side2 A23.out).mono ?_); (case side1 => repeat (first | exact (Kd.C_below HR2.out HB.out) | (with_reducible refine Kd.C_alloc ?_ _) | (with_reducible refine Kd.C_drewN ?_ _) | (with_reducible refine Kd.C_drew ?_))); (case side2 => exact HC2.out); rintro e w' ⟨rfl, ⟨nd, rfl⟩⟩))
    go_meet
    case rel => exact ⟨_, (!t177), (by first | rfl | (simp; done) | (simp [*]; done)), H', ⟨by first | omega | exact Nat.le_refl _⟩, ⟨by (with_reducible repeat (first | apply Kd.V_alloc | apply Kd.V_drewN | apply Kd.V_drew)); exact Kd.V_mono HO0_1.out (fun _ hk => ⟨hk.1.1.1.1.1.1, ⟨hk.1.1.2, ⟨hk.1.2, ⟨hk.1.1.1.1.1.2, ⟨hk.1.1.1.1.2, ⟨hk.1.1.1.2, hk.2⟩⟩⟩⟩⟩⟩)⟩, ⟨by (with_reducible repeat (first | apply Kd.R_alloc | apply Kd.R_drewN | apply Kd.R_drew)); exact Kd.R_mono HO170.out (fun _ hk => ⟨hk.1.1, hk.2⟩)⟩, ⟨by (with_reducible repeat (first | apply Kd.R_alloc | apply Kd.R_drewN | apply Kd.R_drew)); exact Kd.R_mono HO173.out (fun _ hk => ⟨hk.1.1, hk.2⟩)⟩, ⟨by (with_reducible repeat (first | refine bN3 ?_ _ | refine bD3 ?_ | refine bA3 ?_ _)); exact BK165.out⟩, ⟨by (with_reducible repeat (first | refine bN3 ?_ _ | refine bD3 ?_ | refine bA3 ?_ _)); exact BK166.out⟩, ⟨by (with_reducible repeat (first | refine bN3 ?_ _ | refine bD3 ?_ | refine bA3 ?_ _)); exact BK167.out⟩, ⟨by (with_reducible repeat (first | refine bN3 ?_ _ | refine bD3 ?_ | refine bA3 ?_ _)); exact BK174.out⟩, ⟨by repeat (first | (with_reducible first | exact HB.out | apply below_alloc | apply pw_below_drewN | apply below_drew1 | refine below_set ?_ GE165.out | refine below_set ?_ GE166.out | refine below_set ?_ GE167.out | refine below_set ?_ GE174.out) | exact HB.out)⟩⟩
   ·replace c22 := Bool.eq_false_iff.mpr c22
    subst c22
    have H1 : (spec_l11Run.j0 k l2 true a0_0 l0_1 a1_0 a1_1 a1_2 y168 y171 0) = some (r1, r2, r3, r4) := by rw [if_neg (show ¬ (false = true) by decide)] at H; exact H
    clear H
    have H := H1
    clear H1
    have H' := zA3 H
    clear H
    have hnb33 := NB165_166.out
    have hnc33 := NB166_165.out
    have hnb34 := NB165_167.out
    have hnc34 := NB167_165.out
    have hnb35 := NB165_174.out
    have hnc35 := NB174_165.out
    have hcz36_0 : w14.cell? ⟨gb165, 0, none⟩ = some (.int .i64 a0_0) := (blk_cell BK165.out 0).trans rfl
    have hcz36_1 : w14.cell? ⟨gb165, 1, none⟩ = some (.slice A0_1 l0_1.length c0_1) := (blk_cell BK165.out 1).trans rfl
    have hfz36_0 := blk_frozen BK165.out 0
    have hfz36_1 := blk_frozen BK165.out 1
    go_wp2_with (first | ((with_reducible refine gate_callee (f := 77) rfl ?_); refine goesL_ (some 19) rfl rfl Try.func77 (by kernel_rfl) rfl #[.agg #[.int .i64 a0_0, .slice A0_1 l0_1.length c0_1]] rfl (by (try simp only [List.map_toArray, List.map_cons, List.map_nil]); first | done | rfl | (simp only [List.length_drop, List.length_take]; rfl)) ?_; (with_reducible refine (spec_l11Flow.calls k a0_0 _ _ l0_1 true _ ?side1 ?side2 A19.out).mono ?_); (case side1 => refine (Kd.V_reads' (e := 3) (base := w.heap.size) (ok := fun k_ => (((((((P0_1_ k_ ∨ w.heap.size ≤ k_) ∧ k_ ≠ gb165) ∧ k_ ≠ gb166) ∧ k_ ≠ gb167) ∧ some k_ ≠ (.slice Ao13 y168.length co13 : Value).ownBlock) ∧ some k_ ≠ (.slice Ao12 y171.length co12 : Value).ownBlock) ∧ k_ ≠ gb174)) (n := l0_1.length) (c := c0_1) ?_).2.2; exact (by (with_reducible repeat (first | apply Kd.V_alloc | apply Kd.V_drewN | apply Kd.V_drew)); exact (Kd.V_mono (Kd.V_far (p := ⟨gb174, 2, none⟩) (Kd.V_far (p := ⟨gb174, 1, none⟩) (Kd.V_far (p := ⟨gb174, 0, none⟩) (Kd.V_mono HO0_1.out (fun k_ hk => (⟨hk, hk.2⟩ : _ ∧ k_ ≠ gb174))) (fun _ hk => hk.2) (.slice Ao13 y168.length co13)) (fun _ hk => hk.2) (.slice Ao12 y171.length co12)) (fun _ hk => hk.2) (.int .i64 0)) (fun _ h_ => h_.1)))); (case side2 => exact (Kd.V_reads' HO0_1.out).2.1); rintro e w37 ⟨rfl, hb⟩; refine ⟨_, rfl, ?_⟩; have n0_ := zA3 (Kd.V_below (by (with_reducible repeat (first | apply Kd.V_alloc | apply Kd.V_drewN | apply Kd.V_drew)); exact (Kd.V_mono (Kd.V_far (p := ⟨gb174, 2, none⟩) (Kd.V_far (p := ⟨gb174, 1, none⟩) (Kd.V_far (p := ⟨gb174, 0, none⟩) (Kd.V_mono HO0_1.out (fun k_ hk => (⟨hk, hk.2⟩ : _ ∧ k_ ≠ gb174))) (fun _ hk => hk.2) (.slice Ao13 y168.length co13)) (fun _ hk => hk.2) (.slice Ao12 y171.length co12)) (fun _ hk => hk.2) (.int .i64 0)) (fun _ h_ => h_.1))) hb); have n1_ := zA3 (Kd.R_below (by (with_reducible repeat (first | apply Kd.R_alloc | apply Kd.R_drewN | apply Kd.R_drew)); exact (Kd.R_mono (Kd.R_far (p := ⟨gb174, 2, none⟩) (Kd.R_far (p := ⟨gb174, 1, none⟩) (Kd.R_far (p := ⟨gb174, 0, none⟩) (Kd.R_types HO170.out BK174.out (by decide)) (fun _ hk => hk.2) (.slice Ao13 y168.length co13)) (fun _ hk => hk.2) (.slice Ao12 y171.length co12)) (fun _ hk => hk.2) (.int .i64 0)) (fun _ h_ => h_.1))) hb); have n2_ := zA3 (Kd.R_below (by (with_reducible repeat (first | apply Kd.R_alloc | apply Kd.R_drewN | apply Kd.R_drew)); exact (Kd.R_mono (Kd.R_far (p := ⟨gb174, 2, none⟩) (Kd.R_far (p := ⟨gb174, 1, none⟩) (Kd.R_far (p := ⟨gb174, 0, none⟩) (Kd.R_types HO173.out BK174.out (by decide)) (fun _ hk => hk.2) (.slice Ao13 y168.length co13)) (fun _ hk => hk.2) (.slice Ao12 y171.length co12)) (fun _ hk => hk.2) (.int .i64 0)) (fun _ h_ => h_.1))) hb); have n3_ := zA3 (blk_below (g := gb165) (o := .cells #[.int .i64 a0_0, .slice A0_1 l0_1.length c0_1] 30 (0, 0)) (by (with_reducible repeat (first | refine bN3 ?_ _ | refine bD3 ?_ | refine bA3 ?_ _)); refine blk_far ?_ NB165_174.out _; (with_reducible repeat (first | refine bN3 ?_ _ | refine bD3 ?_ | refine bA3 ?_ _)); refine blk_far ?_ NB165_174.out _; (with_reducible repeat (first | refine bN3 ?_ _ | refine bD3 ?_ | refine bA3 ?_ _)); refine blk_far ?_ NB165_174.out _; (with_reducible repeat (first | refine bN3 ?_ _ | refine bD3 ?_ | refine bA3 ?_ _)); exact BK165.out) hb); have n4_ := zA3 (blk_below (g := gb166) (o := .cells #[.int .i64 a1_0, .int .i64 a1_1, .int .i64 a1_2] 32 (0, 0)) (by (with_reducible repeat (first | refine bN3 ?_ _ | refine bD3 ?_ | refine bA3 ?_ _)); refine blk_far ?_ NB166_174.out _; (with_reducible repeat (first | refine bN3 ?_ _ | refine bD3 ?_ | refine bA3 ?_ _)); refine blk_far ?_ NB166_174.out _; (with_reducible repeat (first | refine bN3 ?_ _ | refine bD3 ?_ | refine bA3 ?_ _)); refine blk_far ?_ NB166_174.out _; (with_reducible repeat (first | refine bN3 ?_ _ | refine bD3 ?_ | refine bA3 ?_ _)); exact BK166.out) hb); have n5_ := zA3 (blk_below (g := gb167) (o := .cells #[.slice none 0 0, .slice none 0 0, .int .i64 0] 89 (0, 0)) (by (with_reducible repeat (first | refine bN3 ?_ _ | refine bD3 ?_ | refine bA3 ?_ _)); refine blk_far ?_ NB167_174.out _; (with_reducible repeat (first | refine bN3 ?_ _ | refine bD3 ?_ | refine bA3 ?_ _)); refine blk_far ?_ NB167_174.out _; (with_reducible repeat (first | refine bN3 ?_ _ | refine bD3 ?_ | refine bA3 ?_ _)); refine blk_far ?_ NB167_174.out _; (with_reducible repeat (first | refine bN3 ?_ _ | refine bD3 ?_ | refine bA3 ?_ _)); exact BK167.out) hb); have n6_ := zA3 (blk_below (g := gb174) (o := .cells #[.slice Ao13 y168.length co13, .slice Ao12 y171.length co12, .int .i64 0] 89 (0, 0)) (by (with_reducible repeat (first | refine bN3 ?_ _ | refine bD3 ?_ | refine bA3 ?_ _)); refine blk_put (cs := #[.slice Ao13 y168.length co13, .slice Ao12 y171.length co12, .int .i64 0]) ?_ 2 _ rfl; (with_reducible repeat (first | refine bN3 ?_ _ | refine bD3 ?_ | refine bA3 ?_ _)); refine blk_put (cs := #[.slice Ao13 y168.length co13, .slice none 0 0, .int .i64 0]) ?_ 1 _ rfl; (with_reducible repeat (first | refine bN3 ?_ _ | refine bD3 ?_ | refine bA3 ?_ _)); refine blk_put (cs := #[.slice none 0 0, .slice none 0 0, .int .i64 0]) ?_ 0 _ rfl; (with_reducible repeat (first | refine bN3 ?_ _ | refine bD3 ?_ | refine bA3 ?_ _)); exact BK174.out) hb); have n7_ := zA3 (below_step (by repeat (first | (with_reducible first | exact HB.out | apply below_alloc | apply pw_below_drewN | apply below_drew1 | refine below_set ?_ GE165.out | refine below_set ?_ GE166.out | refine below_set ?_ GE167.out | refine below_set ?_ GE174.out) | exact HB.out)) hb); clear HO0_1; clear HO170; clear HO173; clear BK165; clear BK166; clear BK167; clear BK174; clear HB; have HO0_1 := n0_; have HO170 := n1_; have HO173 := n2_; have BK165 := n3_; have BK166 := n4_; have BK167 := n5_; have BK174 := n6_; have HB := n7_; clear n0_ n1_ n2_ n3_ n4_ n5_ n6_ n7_; (try clear hb); (try clear hb2); (try clear hk); (try clear hi); have hnb38 := NB166_167.out; have hnc38 := NB167_166.out; have hnb39 := NB166_174.out; have hnc39 := NB174_166.out; have hcz40_0 : w37.cell? ⟨gb166, 0, none⟩ = some (.int .i64 a1_0) := (blk_cell BK166.out 0).trans rfl; have hcz40_1 : w37.cell? ⟨gb166, 1, none⟩ = some (.int .i64 a1_1) := (blk_cell BK166.out 1).trans rfl; have hcz40_2 : w37.cell? ⟨gb166, 2, none⟩ = some (.int .i64 a1_2) := (blk_cell BK166.out 2).trans rfl; have hfz40_0 := blk_frozen BK166.out 0; have hfz40_1 := blk_frozen BK166.out 1; have hfz40_2 := blk_frozen BK166.out 2) | (go_at_call 96; (with_reducible refine (spec_l11Rule.calls k a1_0 a1_1 a1_2 false _ A21.out).mono ?_); rintro e w41 ⟨rfl, hb⟩; have n0_ := zA3 (Kd.V_below (by (with_reducible repeat (first | apply Kd.V_alloc | apply Kd.V_drewN | apply Kd.V_drew)); exact HO0_1.out) hb); have n1_ := zA3 (Kd.R_below (by (with_reducible repeat (first | apply Kd.R_alloc | apply Kd.R_drewN | apply Kd.R_drew)); exact HO170.out) hb); have n2_ := zA3 (Kd.R_below (by (with_reducible repeat (first | apply Kd.R_alloc | apply Kd.R_drewN | apply Kd.R_drew)); exact HO173.out) hb); have n3_ := zA3 (blk_below (g := gb165) (o := .cells #[.int .i64 a0_0, .slice A0_1 l0_1.length c0_1] 30 (0, 0)) (by (with_reducible repeat (first | refine bN3 ?_ _ | refine bD3 ?_ | refine bA3 ?_ _)); exact BK165.out) hb); have n4_ := zA3 (blk_below (g := gb166) (o := .cells #[.int .i64 a1_0, .int .i64 a1_1, .int .i64 a1_2] 32 (0, 0)) (by (with_reducible repeat (first | refine bN3 ?_ _ | refine bD3 ?_ | refine bA3 ?_ _)); exact BK166.out) hb); have n5_ := zA3 (blk_below (g := gb167) (o := .cells #[.slice none 0 0, .slice none 0 0, .int .i64 0] 89 (0, 0)) (by (with_reducible repeat (first | refine bN3 ?_ _ | refine bD3 ?_ | refine bA3 ?_ _)); exact BK167.out) hb); have n6_ := zA3 (blk_below (g := gb174) (o := .cells #[.slice Ao13 y168.length co13, .slice Ao12 y171.length co12, .int .i64 0] 89 (0, 0)) (by (with_reducible repeat (first | refine bN3 ?_ _ | refine bD3 ?_ | refine bA3 ?_ _)); exact BK174.out) hb); have n7_ := zA3 (below_step (by repeat (first | (with_reducible first | exact HB.out | apply below_alloc | apply pw_below_drewN | apply below_drew1 | refine below_set ?_ GE165.out | refine below_set ?_ GE166.out | refine below_set ?_ GE167.out | refine below_set ?_ GE174.out) | exact HB.out)) hb); clear HO0_1; clear HO170; clear HO173; clear BK165; clear BK166; clear BK167; clear BK174; clear HB; have HO0_1 := n0_; have HO170 := n1_; have HO173 := n2_; have BK165 := n3_; have BK166 := n4_; have BK167 := n5_; have BK174 := n6_; have HB := n7_; clear n0_ n1_ n2_ n3_ n4_ n5_ n6_ n7_; (try clear hb); (try clear hb2); (try clear hk); (try clear hi)))
    go_meet
    case rel => exact ⟨_, (true), (by first | rfl | (simp; done) | (simp [*]; done)), H', ⟨by first | omega | exact Nat.le_refl _⟩, ⟨by (with_reducible repeat (first | apply Kd.V_alloc | apply Kd.V_drewN | apply Kd.V_drew)); exact Kd.V_mono HO0_1.out (fun _ hk => ⟨hk.1.1.1.1.1.1, ⟨hk.1.1.2, ⟨hk.1.2, ⟨hk.1.1.1.1.1.2, ⟨hk.1.1.1.1.2, ⟨hk.1.1.1.2, hk.2⟩⟩⟩⟩⟩⟩)⟩, ⟨by (with_reducible repeat (first | apply Kd.R_alloc | apply Kd.R_drewN | apply Kd.R_drew)); exact Kd.R_mono HO170.out (fun _ hk => ⟨hk.1.1, hk.2⟩)⟩, ⟨by (with_reducible repeat (first | apply Kd.R_alloc | apply Kd.R_drewN | apply Kd.R_drew)); exact Kd.R_mono HO173.out (fun _ hk => ⟨hk.1.1, hk.2⟩)⟩, ⟨by (with_reducible repeat (first | refine bN3 ?_ _ | refine bD3 ?_ | refine bA3 ?_ _)); exact BK165.out⟩, ⟨by (with_reducible repeat (first | refine bN3 ?_ _ | refine bD3 ?_ | refine bA3 ?_ _)); exact BK166.out⟩, ⟨by (with_reducible repeat (first | refine bN3 ?_ _ | refine bD3 ?_ | refine bA3 ?_ _)); exact BK167.out⟩, ⟨by (with_reducible repeat (first | refine bN3 ?_ _ | refine bD3 ?_ | refine bA3 ?_ _)); exact BK174.out⟩, ⟨by repeat (first | (with_reducible first | exact HB.out | apply below_alloc | apply pw_below_drewN | apply below_drew1 | refine below_set ?_ GE165.out | refine below_set ?_ GE166.out | refine below_set ?_ GE167.out | refine below_set ?_ GE174.out) | exact HB.out)⟩⟩
  ·replace c20 := Bool.eq_false_iff.mpr c20
   subst c20
   have H1 : (spec_l11Run.j0 k l2 true a0_0 l0_1 a1_0 a1_1 a1_2 y168 y171 0) = some (r1, r2, r3, r4) := by rw [if_neg (show ¬ (false = true) by decide)] at H; exact H
   clear H
   have H := H1
   clear H1
   have H' := zA3 H
   clear H
   have hnb42 := NB165_166.out
   have hnc42 := NB166_165.out
   have hnb43 := NB165_167.out
   have hnc43 := NB167_165.out
   have hnb44 := NB165_174.out
   have hnc44 := NB174_165.out
   have hcz45_0 : w14.cell? ⟨gb165, 0, none⟩ = some (.int .i64 a0_0) := (blk_cell BK165.out 0).trans rfl
   have hcz45_1 : w14.cell? ⟨gb165, 1, none⟩ = some (.slice A0_1 l0_1.length c0_1) := (blk_cell BK165.out 1).trans rfl
   have hfz45_0 := blk_frozen BK165.out 0
   have hfz45_1 := blk_frozen BK165.out 1
   go_wp2_with (first | ((with_reducible refine gate_callee (f := 77) rfl ?_); refine goesL_ (some 19) rfl rfl Try.func77 (by kernel_rfl) rfl #[.agg #[.int .i64 a0_0, .slice A0_1 l0_1.length c0_1]] rfl (by (try simp only [List.map_toArray, List.map_cons, List.map_nil]); first | done | rfl | (simp only [List.length_drop, List.length_take]; rfl)) ?_; (with_reducible refine (spec_l11Flow.calls k a0_0 _ _ l0_1 false _ ?side1 ?side2 A19.out).mono ?_); (case side1 => refine (Kd.V_reads' (e := 3) (base := w.heap.size) (ok := fun k_ => (((((((P0_1_ k_ ∨ w.heap.size ≤ k_) ∧ k_ ≠ gb165) ∧ k_ ≠ gb166) ∧ k_ ≠ gb167) ∧ some k_ ≠ (.slice Ao13 y168.length co13 : Value).ownBlock) ∧ some k_ ≠ (.slice Ao12 y171.length co12 : Value).ownBlock) ∧ k_ ≠ gb174)) (n := l0_1.length) (c := c0_1) ?_).2.2; exact (by (with_reducible repeat (first | apply Kd.V_alloc | apply Kd.V_drewN | apply Kd.V_drew)); exact (Kd.V_mono (Kd.V_far (p := ⟨gb174, 2, none⟩) (Kd.V_far (p := ⟨gb174, 1, none⟩) (Kd.V_far (p := ⟨gb174, 0, none⟩) (Kd.V_mono HO0_1.out (fun k_ hk => (⟨hk, hk.2⟩ : _ ∧ k_ ≠ gb174))) (fun _ hk => hk.2) (.slice Ao13 y168.length co13)) (fun _ hk => hk.2) (.slice Ao12 y171.length co12)) (fun _ hk => hk.2) (.int .i64 0)) (fun _ h_ => h_.1)))); (case side2 => exact (Kd.V_reads' HO0_1.out).2.1); rintro e w46 ⟨rfl, hb⟩; refine ⟨_, rfl, ?_⟩; have n0_ := zA3 (Kd.V_below (by (with_reducible repeat (first | apply Kd.V_alloc | apply Kd.V_drewN | apply Kd.V_drew)); exact (Kd.V_mono (Kd.V_far (p := ⟨gb174, 2, none⟩) (Kd.V_far (p := ⟨gb174, 1, none⟩) (Kd.V_far (p := ⟨gb174, 0, none⟩) (Kd.V_mono HO0_1.out (fun k_ hk => (⟨hk, hk.2⟩ : _ ∧ k_ ≠ gb174))) (fun _ hk => hk.2) (.slice Ao13 y168.length co13)) (fun _ hk => hk.2) (.slice Ao12 y171.length co12)) (fun _ hk => hk.2) (.int .i64 0)) (fun _ h_ => h_.1))) hb); have n1_ := zA3 (Kd.R_below (by (with_reducible repeat (first | apply Kd.R_alloc | apply Kd.R_drewN | apply Kd.R_drew)); exact (Kd.R_mono (Kd.R_far (p := ⟨gb174, 2, none⟩) (Kd.R_far (p := ⟨gb174, 1, none⟩) (Kd.R_far (p := ⟨gb174, 0, none⟩) (Kd.R_types HO170.out BK174.out (by decide)) (fun _ hk => hk.2) (.slice Ao13 y168.length co13)) (fun _ hk => hk.2) (.slice Ao12 y171.length co12)) (fun _ hk => hk.2) (.int .i64 0)) (fun _ h_ => h_.1))) hb); have n2_ := zA3 (Kd.R_below (by (with_reducible repeat (first | apply Kd.R_alloc | apply Kd.R_drewN | apply Kd.R_drew)); exact (Kd.R_mono (Kd.R_far (p := ⟨gb174, 2, none⟩) (Kd.R_far (p := ⟨gb174, 1, none⟩) (Kd.R_far (p := ⟨gb174, 0, none⟩) (Kd.R_types HO173.out BK174.out (by decide)) (fun _ hk => hk.2) (.slice Ao13 y168.length co13)) (fun _ hk => hk.2) (.slice Ao12 y171.length co12)) (fun _ hk => hk.2) (.int .i64 0)) (fun _ h_ => h_.1))) hb); have n3_ := zA3 (blk_below (g := gb165) (o := .cells #[.int .i64 a0_0, .slice A0_1 l0_1.length c0_1] 30 (0, 0)) (by (with_reducible repeat (first | refine bN3 ?_ _ | refine bD3 ?_ | refine bA3 ?_ _)); refine blk_far ?_ NB165_174.out _; (with_reducible repeat (first | refine bN3 ?_ _ | refine bD3 ?_ | refine bA3 ?_ _)); refine blk_far ?_ NB165_174.out _; (with_reducible repeat (first | refine bN3 ?_ _ | refine bD3 ?_ | refine bA3 ?_ _)); refine blk_far ?_ NB165_174.out _; (with_reducible repeat (first | refine bN3 ?_ _ | refine bD3 ?_ | refine bA3 ?_ _)); exact BK165.out) hb); have n4_ := zA3 (blk_below (g := gb166) (o := .cells #[.int .i64 a1_0, .int .i64 a1_1, .int .i64 a1_2] 32 (0, 0)) (by (with_reducible repeat (first | refine bN3 ?_ _ | refine bD3 ?_ | refine bA3 ?_ _)); refine blk_far ?_ NB166_174.out _; (with_reducible repeat (first | refine bN3 ?_ _ | refine bD3 ?_ | refine bA3 ?_ _)); refine blk_far ?_ NB166_174.out _; (with_reducible repeat (first | refine bN3 ?_ _ | refine bD3 ?_ | refine bA3 ?_ _)); refine blk_far ?_ NB166_174.out _; (with_reducible repeat (first | refine bN3 ?_ _ | refine bD3 ?_ | refine bA3 ?_ _)); exact BK166.out) hb); have n5_ := zA3 (blk_below (g := gb167) (o := .cells #[.slice none 0 0, .slice none 0 0, .int .i64 0] 89 (0, 0)) (by (with_reducible repeat (first | refine bN3 ?_ _ | refine bD3 ?_ | refine bA3 ?_ _)); refine blk_far ?_ NB167_174.out _; (with_reducible repeat (first | refine bN3 ?_ _ | refine bD3 ?_ | refine bA3 ?_ _)); refine blk_far ?_ NB167_174.out _; (with_reducible repeat (first | refine bN3 ?_ _ | refine bD3 ?_ | refine bA3 ?_ _)); refine blk_far ?_ NB167_174.out _; (with_reducible repeat (first | refine bN3 ?_ _ | refine bD3 ?_ | refine bA3 ?_ _)); exact BK167.out) hb); have n6_ := zA3 (blk_below (g := gb174) (o := .cells #[.slice Ao13 y168.length co13, .slice Ao12 y171.length co12, .int .i64 0] 89 (0, 0)) (by (with_reducible repeat (first | refine bN3 ?_ _ | refine bD3 ?_ | refine bA3 ?_ _)); refine blk_put (cs := #[.slice Ao13 y168.length co13, .slice Ao12 y171.length co12, .int .i64 0]) ?_ 2 _ rfl; (with_reducible repeat (first | refine bN3 ?_ _ | refine bD3 ?_ | refine bA3 ?_ _)); refine blk_put (cs := #[.slice Ao13 y168.length co13, .slice none 0 0, .int .i64 0]) ?_ 1 _ rfl; (with_reducible repeat (first | refine bN3 ?_ _ | refine bD3 ?_ | refine bA3 ?_ _)); refine blk_put (cs := #[.slice none 0 0, .slice none 0 0, .int .i64 0]) ?_ 0 _ rfl; (with_reducible repeat (first | refine bN3 ?_ _ | refine bD3 ?_ | refine bA3 ?_ _)); exact BK174.out) hb); have n7_ := zA3 (below_step (by repeat (first | (with_reducible first | exact HB.out | apply below_alloc | apply pw_below_drewN | apply below_drew1 | refine below_set ?_ GE165.out | refine below_set ?_ GE166.out | refine below_set ?_ GE167.out | refine below_set ?_ GE174.out) | exact HB.out)) hb); clear HO0_1; clear HO170; clear HO173; clear BK165; clear BK166; clear BK167; clear BK174; clear HB; have HO0_1 := n0_; have HO170 := n1_; have HO173 := n2_; have BK165 := n3_; have BK166 := n4_; have BK167 := n5_; have BK174 := n6_; have HB := n7_; clear n0_ n1_ n2_ n3_ n4_ n5_ n6_ n7_; (try clear hb); (try clear hb2); (try clear hk); (try clear hi)))
   go_meet
   case rel => exact ⟨_, (true), (by first | rfl | (simp; done) | (simp [*]; done)), H', ⟨by first | omega | exact Nat.le_refl _⟩, ⟨by (with_reducible repeat (first | apply Kd.V_alloc | apply Kd.V_drewN | apply Kd.V_drew)); exact Kd.V_mono HO0_1.out (fun _ hk => ⟨hk.1.1.1.1.1.1, ⟨hk.1.1.2, ⟨hk.1.2, ⟨hk.1.1.1.1.1.2, ⟨hk.1.1.1.1.2, ⟨hk.1.1.1.2, hk.2⟩⟩⟩⟩⟩⟩)⟩, ⟨by (with_reducible repeat (first | apply Kd.R_alloc | apply Kd.R_drewN | apply Kd.R_drew)); exact Kd.R_mono HO170.out (fun _ hk => ⟨hk.1.1, hk.2⟩)⟩, ⟨by (with_reducible repeat (first | apply Kd.R_alloc | apply Kd.R_drewN | apply Kd.R_drew)); exact Kd.R_mono HO173.out (fun _ hk => ⟨hk.1.1, hk.2⟩)⟩, ⟨by (with_reducible repeat (first | refine bN3 ?_ _ | refine bD3 ?_ | refine bA3 ?_ _)); exact BK165.out⟩, ⟨by (with_reducible repeat (first | refine bN3 ?_ _ | refine bD3 ?_ | refine bA3 ?_ _)); exact BK166.out⟩, ⟨by (with_reducible repeat (first | refine bN3 ?_ _ | refine bD3 ?_ | refine bA3 ?_ _)); exact BK167.out⟩, ⟨by (with_reducible repeat (first | refine bN3 ?_ _ | refine bD3 ?_ | refine bA3 ?_ _)); exact BK174.out⟩, ⟨by repeat (first | (with_reducible first | exact HB.out | apply below_alloc | apply pw_below_drewN | apply below_drew1 | refine below_set ?_ GE165.out | refine below_set ?_ GE166.out | refine below_set ?_ GE167.out | refine below_set ?_ GE174.out) | exact HB.out)⟩⟩
 case rest =>
  clear HC4
  try clear c1
  try clear c2
  try clear p2
  try clear c3
  try clear c4
  try clear c6
  try clear c7
  try clear c15
  try clear c16
  try clear c17
  try clear c20
  try clear c22
  try clear c24
  try clear c25
  try clear c26
  try clear c29
  try clear c30
  try clear c33
  try clear c34
  try clear c35
  try clear c38
  try clear c39
  try clear c42
  try clear c43
  try clear c44
  try clear hcz18_0
  try clear hcz18_1
  try clear hcz18_2
  try clear hcz27_0
  try clear hcz27_1
  try clear hcz31_0
  try clear hcz31_1
  try clear hcz31_2
  try clear hcz36_0
  try clear hcz36_1
  try clear hcz40_0
  try clear hcz40_1
  try clear hcz40_2
  try clear hcz45_0
  try clear hcz45_1
  try clear hfz18_0
  try clear hfz18_1
  try clear hfz18_2
  try clear hfz27_0
  try clear hfz27_1
  try clear hfz31_0
  try clear hfz31_1
  try clear hfz31_2
  try clear hfz36_0
  try clear hfz36_1
  try clear hfz40_0
  try clear hfz40_1
  try clear hfz40_2
  try clear hfz45_0
  try clear hfz45_1
  obtain ⟨kq, x30_3, rfl, HA, HJ3, HO_166001, HO_175000, HO_175001, BK165, BK166, BK167, BK174, HB⟩ := hcut
  cases kq with
  | zero => exact absurd HA.out (by simp [spec_l11Run.j0])
  | succ kj3 =>
   have H := HA.out
   clear HA
   simp only [spec_l11Run.j0] at H
   by_cases c47 : x30_3 = true
   ·subst c47
    have H1 : (some (y168, y171, 0, false)) = some (r1, r2, r3, r4) := by rw [if_pos rfl] at H; exact H
    clear H
    have H := H1
    clear H1
    simp only [Option.some.injEq, Prod.mk.injEq] at H
    obtain ⟨rfl, rfl, rfl, rfl⟩ := H
    have hnb48 := NB174_165.out
    have hnc48 := NB165_174.out
    have hnb49 := NB174_166.out
    have hnc49 := NB166_174.out
    have hnb50 := NB174_167.out
    have hnc50 := NB167_174.out
    have hcz51_0 : wc.cell? ⟨gb174, 0, none⟩ = some (.slice Ao13 y168.length co13) := (blk_cell BK174.out 0).trans rfl
    have hcz51_1 : wc.cell? ⟨gb174, 1, none⟩ = some (.slice Ao12 y171.length co12) := (blk_cell BK174.out 1).trans rfl
    have hcz51_2 : wc.cell? ⟨gb174, 2, none⟩ = some (.int .i64 0) := (blk_cell BK174.out 2).trans rfl
    have hfz51_0 := blk_frozen BK174.out 0
    have hfz51_1 := blk_frozen BK174.out 1
    have hfz51_2 := blk_frozen BK174.out 2
    have hnb52 := NB167_165.out
    have hnc52 := NB165_167.out
    have hnb53 := NB167_166.out
    have hnc53 := NB166_167.out
    have hcz54_0 : wc.cell? ⟨gb167, 0, none⟩ = some (.slice none 0 0) := (blk_cell BK167.out 0).trans rfl
    have hcz54_1 : wc.cell? ⟨gb167, 1, none⟩ = some (.slice none 0 0) := (blk_cell BK167.out 1).trans rfl
    have hcz54_2 : wc.cell? ⟨gb167, 2, none⟩ = some (.int .i64 0) := (blk_cell BK167.out 2).trans rfl
    have hfz54_0 := blk_frozen BK167.out 0
    have hfz54_1 := blk_frozen BK167.out 1
    have hfz54_2 := blk_frozen BK167.out 2
    go_wp2
    refine bodyPost_ret (results_ct rfl _ _ gb167 89 #[.slice Ao13 y168.length co13, .slice Ao12 y171.length co12, .int .i64 0] (0, 0) _ rfl (by (with_reducible repeat (first | refine bN3 ?_ _ | refine bD3 ?_ | refine bA3 ?_ _)); refine blk_put (cs := #[.slice Ao13 y168.length co13, .slice Ao12 y171.length co12, .int .i64 0]) ?_ 2 _ rfl; (with_reducible repeat (first | refine bN3 ?_ _ | refine bD3 ?_ | refine bA3 ?_ _)); refine blk_put (cs := #[.slice Ao13 y168.length co13, .slice none 0 0, .int .i64 0]) ?_ 1 _ rfl; (with_reducible repeat (first | refine bN3 ?_ _ | refine bD3 ?_ | refine bA3 ?_ _)); refine blk_put (cs := #[.slice none 0 0, .slice none 0 0, .int .i64 0]) ?_ 0 _ rfl; (with_reducible repeat (first | refine bN3 ?_ _ | refine bD3 ?_ | refine bA3 ?_ _)); exact BK167.out) Try.underlying89 rfl (by kernel_rfl)) rfl ?_
    exact ⟨_, _, by first | rfl | (simp [errW_none, errW_some] <;> rfl) | (simp [*, errW_none, errW_some] <;> rfl), by (with_reducible repeat (first | apply Kd.R_alloc | apply Kd.R_drewN | apply Kd.R_drew)); exact Kd.R_mono (Kd.R_far (p := ⟨gb167, 2, none⟩) (Kd.R_far (p := ⟨gb167, 1, none⟩) (Kd.R_far (p := ⟨gb167, 0, none⟩) (Kd.R_types HO_175000.out BK167.out (by decide)) (fun _ hk => hk.2) (.slice Ao13 y168.length co13)) (fun _ hk => hk.2) (.slice Ao12 y171.length co12)) (fun _ hk => hk.2) (.int .i64 0)) (fun _ hk => ⟨hk.1.1, hk.1.2⟩), by (with_reducible repeat (first | apply Kd.R_alloc | apply Kd.R_drewN | apply Kd.R_drew)); exact Kd.R_mono (Kd.R_far (p := ⟨gb167, 2, none⟩) (Kd.R_far (p := ⟨gb167, 1, none⟩) (Kd.R_far (p := ⟨gb167, 0, none⟩) (Kd.R_types HO_175001.out BK167.out (by decide)) (fun _ hk => hk.2) (.slice Ao13 y168.length co13)) (fun _ hk => hk.2) (.slice Ao12 y171.length co12)) (fun _ hk => hk.2) (.int .i64 0)) (fun _ hk => ⟨hk.1.1, hk.1.2⟩), by repeat (first | (with_reducible first | exact HB.out | apply below_alloc | apply pw_below_drewN | apply below_drew1 | refine below_set ?_ GE165.out | refine below_set ?_ GE166.out | refine below_set ?_ GE167.out | refine below_set ?_ GE174.out) | exact HB.out)⟩
   ·replace c47 := Bool.eq_false_iff.mpr c47
    subst c47
    have H1 : (spec_l11Run.l0 kj3 l2 0 a1_0 a1_1 a1_2 y168 y171 0 a0_0 l0_1) = some (r1, r2, r3, r4) := by rw [if_neg (show ¬ (false = true) by decide)] at H; exact H
    clear H
    have H := H1
    clear H1
    have H' := zA3 H
    clear H
    have hnb55 := NB165_166.out
    have hnc55 := NB166_165.out
    have hnb56 := NB165_167.out
    have hnc56 := NB167_165.out
    have hnb57 := NB165_174.out
    have hnc57 := NB174_165.out
    have hcz58_0 : wc.cell? ⟨gb165, 0, none⟩ = some (.int .i64 a0_0) := (blk_cell BK165.out 0).trans rfl
    have hcz58_1 : wc.cell? ⟨gb165, 1, none⟩ = some (.slice A0_1 l0_1.length c0_1) := (blk_cell BK165.out 1).trans rfl
    have hfz58_0 := blk_frozen BK165.out 0
    have hfz58_1 := blk_frozen BK165.out 1
    go_wp2_with (first | ((with_reducible refine gate_dst (N := 9) rfl ?_); refine box_event ?hg (N := 9) ?hd (cs := #[.int .i64 0, .slice none 0 0]) (t := 30) ?hr ?_; (case hd => rfl); (case hg => rfl); (case hr => first | (go_simp; done) | (go_simp; rfl)); intro gb178 hg w59 hbox hb; have n0_ := zA3 (Kd.V_below (Kd.V_elderB (by (with_reducible repeat (first | apply Kd.V_alloc | apply Kd.V_drewN | apply Kd.V_drew)); exact HO_166001.out) gb178 (Nat.le_of_eq hg.symm)) hb); have n1_ := zA3 (Kd.R_below (by (with_reducible repeat (first | apply Kd.R_alloc | apply Kd.R_drewN | apply Kd.R_drew)); exact HO_175000.out) hb); have n2_ := zA3 (Kd.R_below (by (with_reducible repeat (first | apply Kd.R_alloc | apply Kd.R_drewN | apply Kd.R_drew)); exact HO_175001.out) hb); have n3_ := zA3 (blk_below (g := gb165) (o := .cells #[.int .i64 a0_0, .slice A0_1 l0_1.length c0_1] 30 (0, 0)) (by (with_reducible repeat (first | refine bN3 ?_ _ | refine bD3 ?_ | refine bA3 ?_ _)); exact BK165.out) hb); have n4_ := zA3 (blk_below (g := gb166) (o := .cells #[.int .i64 a1_0, .int .i64 a1_1, .int .i64 a1_2] 32 (0, 0)) (by (with_reducible repeat (first | refine bN3 ?_ _ | refine bD3 ?_ | refine bA3 ?_ _)); exact BK166.out) hb); have n5_ := zA3 (blk_below (g := gb167) (o := .cells #[.slice none 0 0, .slice none 0 0, .int .i64 0] 89 (0, 0)) (by (with_reducible repeat (first | refine bN3 ?_ _ | refine bD3 ?_ | refine bA3 ?_ _)); exact BK167.out) hb); have n6_ := zA3 (blk_below (g := gb174) (o := .cells #[.slice Ao13 y168.length co13, .slice Ao12 y171.length co12, .int .i64 0] 89 (0, 0)) (by (with_reducible repeat (first | refine bN3 ?_ _ | refine bD3 ?_ | refine bA3 ?_ _)); exact BK174.out) hb); have n7_ := zA3 (below_step (by repeat (first | (with_reducible first | exact HB.out | apply below_alloc | apply pw_below_drewN | apply below_drew1 | refine below_set ?_ GE165.out | refine below_set ?_ GE166.out | refine below_set ?_ GE167.out | refine below_set ?_ GE174.out) | exact HB.out)) hb); have n8_ := zA3 (hbox); have n9_ := zA3 ((by rw [hg]; exact (below_size (by repeat (first | (with_reducible first | exact HB.out | apply below_alloc | apply pw_below_drewN | apply below_drew1 | refine below_set ?_ GE165.out | refine below_set ?_ GE166.out | refine below_set ?_ GE167.out | refine below_set ?_ GE174.out) | exact HB.out))) : w.heap.size ≤ gb178)); have n10_ := zA3 ((by rw [hg]; exact (below_size (by repeat (first | (with_reducible first | exact HB.out | apply below_alloc | apply pw_below_drewN | apply below_drew1 | refine below_set ?_ GE165.out | refine below_set ?_ GE166.out | refine below_set ?_ GE167.out | refine below_set ?_ GE174.out) | exact HB.out))) : w.heap.size ≤ gb178)); have n11_ := zA3 ((by rw [hg]; exact Nat.ne_of_lt (blk_lt (g := gb165) (o := .cells #[.int .i64 a0_0, .slice A0_1 l0_1.length c0_1] 30 (0, 0)) (by (with_reducible repeat (first | refine bN3 ?_ _ | refine bD3 ?_ | refine bA3 ?_ _)); exact BK165.out)) : gb165 ≠ gb178)); have n12_ := zA3 ((by rw [hg]; exact Nat.ne_of_gt (blk_lt (g := gb165) (o := .cells #[.int .i64 a0_0, .slice A0_1 l0_1.length c0_1] 30 (0, 0)) (by (with_reducible repeat (first | refine bN3 ?_ _ | refine bD3 ?_ | refine bA3 ?_ _)); exact BK165.out)) : gb178 ≠ gb165)); have n13_ := zA3 ((by rw [hg]; exact Nat.ne_of_lt (blk_lt (g := gb166) (o := .cells #[.int .i64 a1_0, .int .i64 a1_1, .int .i64 a1_2] 32 (0, 0)) (by (with_reducible repeat (first | refine bN3 ?_ _ | refine bD3 ?_ | refine bA3 ?_ _)); exact BK166.out)) : gb166 ≠ gb178)); have n14_ := zA3 ((by rw [hg]; exact Nat.ne_of_gt (blk_lt (g := gb166) (o := .cells #[.int .i64 a1_0, .int .i64 a1_1, .int .i64 a1_2] 32 (0, 0)) (by (with_reducible repeat (first | refine bN3 ?_ _ | refine bD3 ?_ | refine bA3 ?_ _)); exact BK166.out)) : gb178 ≠ gb166)); have n15_ := zA3 ((by rw [hg]; exact Nat.ne_of_lt (blk_lt (g := gb167) (o := .cells #[.slice none 0 0, .slice none 0 0, .int .i64 0] 89 (0, 0)) (by (with_reducible repeat (first | refine bN3 ?_ _ | refine bD3 ?_ | refine bA3 ?_ _)); exact BK167.out)) : gb167 ≠ gb178)); have n16_ := zA3 ((by rw [hg]; exact Nat.ne_of_gt (blk_lt (g := gb167) (o := .cells #[.slice none 0 0, .slice none 0 0, .int .i64 0] 89 (0, 0)) (by (with_reducible repeat (first | refine bN3 ?_ _ | refine bD3 ?_ | refine bA3 ?_ _)); exact BK167.out)) : gb178 ≠ gb167)); have n17_ := zA3 ((by rw [hg]; exact Nat.ne_of_lt (blk_lt (g := gb174) (o := .cells #[.slice Ao13 y168.length co13, .slice Ao12 y171.length co12, .int .i64 0] 89 (0, 0)) (by (with_reducible repeat (first | refine bN3 ?_ _ | refine bD3 ?_ | refine bA3 ?_ _)); exact BK174.out)) : gb174 ≠ gb178)); have n18_ := zA3 ((by rw [hg]; exact Nat.ne_of_gt (blk_lt (g := gb174) (o := .cells #[.slice Ao13 y168.length co13, .slice Ao12 y171.length co12, .int .i64 0] 89 (0, 0)) (by (with_reducible repeat (first | refine bN3 ?_ _ | refine bD3 ?_ | refine bA3 ?_ _)); exact BK174.out)) : gb178 ≠ gb174)); clear HO_166001; clear HO_175000; clear HO_175001; clear BK165; clear BK166; clear BK167; clear BK174; clear HB; have HO_166001 := n0_; have HO_175000 := n1_; have HO_175001 := n2_; have BK165 := n3_; have BK166 := n4_; have BK167 := n5_; have BK174 := n6_; have HB := n7_; have BK178 := n8_; have GW178 := n9_; have GE178 := n10_; have NB165_178 := n11_; have NB178_165 := n12_; have NB166_178 := n13_; have NB178_166 := n14_; have NB167_178 := n15_; have NB178_167 := n16_; have NB174_178 := n17_; have NB178_174 := n18_; clear n0_ n1_ n2_ n3_ n4_ n5_ n6_ n7_ n8_ n9_ n10_ n11_ n12_ n13_ n14_ n15_ n16_ n17_ n18_; clear hb hbox hg; have hnb60 := NB178_165.out; have hnc60 := NB165_178.out; have hnb61 := NB178_166.out; have hnc61 := NB166_178.out; have hnb62 := NB178_167.out; have hnc62 := NB167_178.out; have hnb63 := NB178_174.out; have hnc63 := NB174_178.out; have hcz64_0 : w59.cell? ⟨gb178, 0, none⟩ = some (.int .i64 0) := (blk_cell BK178.out 0).trans rfl; have hcz64_1 : w59.cell? ⟨gb178, 1, none⟩ = some (.slice none 0 0) := (blk_cell BK178.out 1).trans rfl; have hfz64_0 := blk_frozen BK178.out 0; have hfz64_1 := blk_frozen BK178.out 1))
    go_loopg [10] kj3 (fun kq v10 w' => ∃ (x10_2 : Int) (x168002_2 : Int) (x175000_2 : List Int) (x175001_2 : List Int) (x175002_2 : Int) (x179000_2 : Int) (x179001_2 : List Int) (u175000 : Value) (u175001 : Value) (u179001 : Value), v10 = .int .i64 x10_2 ∧ Aside0 (spec_l11Run.l0 kq l2 x10_2 a1_0 a1_1 a1_2 x175000_2 x175001_2 x175002_2 x179000_2 x179001_2 = some (r1, r2, r3, r4)) ∧ Aside0 (kq ≤ kj3) ∧ Aside0 (Kd.V (Kd.int .i64) 3 w' w.heap.size (fun k_ => (P0_1_ k_ ∨ w.heap.size ≤ k_) ∧ some k_ ≠ (u175000 : Value).ownBlock ∧ some k_ ≠ (u175001 : Value).ownBlock ∧ k_ ≠ gb165 ∧ k_ ≠ gb166 ∧ k_ ≠ gb167 ∧ k_ ≠ gb174 ∧ k_ ≠ gb178) (.slice A0_1 l0_1.length c0_1) l0_1) ∧ Aside0 (Kd.R (Kd.int .i64) 3 w' w.heap.size (fun k_ => (w.heap.size ≤ k_) ∧ some k_ ≠ (u175001 : Value).ownBlock) u175000 x175000_2) ∧ Aside0 (Kd.R (Kd.int .i64) 3 w' w.heap.size (fun k_ => (w.heap.size ≤ k_) ∧ some k_ ≠ (u175000 : Value).ownBlock) u175001 x175001_2) ∧ Aside0 (Kd.V (Kd.int .i64) 3 w' w.heap.size (fun k_ => (P0_1_ k_ ∨ w.heap.size ≤ k_) ∧ some k_ ≠ (u175000 : Value).ownBlock ∧ some k_ ≠ (u175001 : Value).ownBlock ∧ k_ ≠ gb165 ∧ k_ ≠ gb166 ∧ k_ ≠ gb167 ∧ k_ ≠ gb174 ∧ k_ ≠ gb178) u179001 x179001_2) ∧ Aside0 (w'.heap[gb165]? = some (.cells #[.int .i64 a0_0, (.slice A0_1 l0_1.length c0_1)] 30 (0, 0))) ∧ Aside0 (w'.heap[gb166]? = some (.cells #[.int .i64 a1_0, .int .i64 a1_1, .int .i64 a1_2] 32 (0, 0))) ∧ Aside0 (w'.heap[gb167]? = some (.cells #[(.slice none 0 0), (.slice none 0 0), .int .i64 x168002_2] 89 (0, 0))) ∧ Aside0 (w'.heap[gb174]? = some (.cells #[u175000, u175001, .int .i64 x175002_2] 89 (0, 0))) ∧ Aside0 (w'.heap[gb178]? = some (.cells #[.int .i64 x179000_2, u179001] 30 (0, 0))) ∧ Aside0 (Below w.heap.size w w'))
    case atStart => exact ⟨(0), (0), (y168), (y171), (0), (a0_0), (l0_1), (.slice Ao13 y168.length co13), (.slice Ao12 y171.length co12), (.slice A0_1 l0_1.length c0_1), (by first | rfl | (simp; done) | (simp [*]; done)), H', ⟨Nat.le_refl _⟩, ⟨by (with_reducible repeat (first | apply Kd.V_alloc | apply Kd.V_drewN | apply Kd.V_drew)); exact Kd.V_mono (Kd.V_far (p := ⟨gb178, 1, none⟩) (Kd.V_far (p := ⟨gb178, 0, none⟩) (Kd.V_mono HO_166001.out (fun k_ hk => (⟨hk, hk.2⟩ : _ ∧ k_ ≠ gb178))) (fun _ hk => hk.2) (.int .i64 a0_0)) (fun _ hk => hk.2) (.slice A0_1 l0_1.length c0_1)) (fun _ hk => ⟨hk.1.1.1, ⟨hk.1.1.2.1, ⟨hk.1.1.2.2.1, ⟨hk.1.1.2.2.2.1, ⟨hk.1.1.2.2.2.2.1, ⟨hk.1.1.2.2.2.2.2.1, ⟨hk.1.1.2.2.2.2.2.2, hk.1.2⟩⟩⟩⟩⟩⟩⟩)⟩, ⟨by (with_reducible repeat (first | apply Kd.R_alloc | apply Kd.R_drewN | apply Kd.R_drew)); exact Kd.R_mono (Kd.R_far (p := ⟨gb178, 1, none⟩) (Kd.R_far (p := ⟨gb178, 0, none⟩) (Kd.R_types HO_175000.out BK178.out (by decide)) (fun _ hk => hk.2) (.int .i64 a0_0)) (fun _ hk => hk.2) (.slice A0_1 l0_1.length c0_1)) (fun _ hk => ⟨hk.1.1, hk.1.2⟩)⟩, ⟨by (with_reducible repeat (first | apply Kd.R_alloc | apply Kd.R_drewN | apply Kd.R_drew)); exact Kd.R_mono (Kd.R_far (p := ⟨gb178, 1, none⟩) (Kd.R_far (p := ⟨gb178, 0, none⟩) (Kd.R_types HO_175001.out BK178.out (by decide)) (fun _ hk => hk.2) (.int .i64 a0_0)) (fun _ hk => hk.2) (.slice A0_1 l0_1.length c0_1)) (fun _ hk => ⟨hk.1.1, hk.1.2⟩)⟩, ⟨by (with_reducible repeat (first | apply Kd.V_alloc | apply Kd.V_drewN | apply Kd.V_drew)); exact Kd.V_mono (Kd.V_far (p := ⟨gb178, 1, none⟩) (Kd.V_far (p := ⟨gb178, 0, none⟩) (Kd.V_mono HO_166001.out (fun k_ hk => (⟨hk, hk.2⟩ : _ ∧ k_ ≠ gb178))) (fun _ hk => hk.2) (.int .i64 a0_0)) (fun _ hk => hk.2) (.slice A0_1 l0_1.length c0_1)) (fun _ hk => ⟨hk.1.1.1, ⟨hk.1.1.2.1, ⟨hk.1.1.2.2.1, ⟨hk.1.1.2.2.2.1, ⟨hk.1.1.2.2.2.2.1, ⟨hk.1.1.2.2.2.2.2.1, ⟨hk.1.1.2.2.2.2.2.2, hk.1.2⟩⟩⟩⟩⟩⟩⟩)⟩, ⟨by (with_reducible repeat (first | refine bN3 ?_ _ | refine bD3 ?_ | refine bA3 ?_ _)); refine blk_far ?_ NB165_178.out _; (with_reducible repeat (first | refine bN3 ?_ _ | refine bD3 ?_ | refine bA3 ?_ _)); refine blk_far ?_ NB165_178.out _; (with_reducible repeat (first | refine bN3 ?_ _ | refine bD3 ?_ | refine bA3 ?_ _)); exact BK165.out⟩, ⟨by (with_reducible repeat (first | refine bN3 ?_ _ | refine bD3 ?_ | refine bA3 ?_ _)); refine blk_far ?_ NB166_178.out _; (with_reducible repeat (first | refine bN3 ?_ _ | refine bD3 ?_ | refine bA3 ?_ _)); refine blk_far ?_ NB166_178.out _; (with_reducible repeat (first | refine bN3 ?_ _ | refine bD3 ?_ | refine bA3 ?_ _)); exact BK166.out⟩, ⟨by (with_reducible repeat (first | refine bN3 ?_ _ | refine bD3 ?_ | refine bA3 ?_ _)); refine blk_far ?_ NB167_178.out _; (with_reducible repeat (first | refine bN3 ?_ _ | refine bD3 ?_ | refine bA3 ?_ _)); refine blk_far ?_ NB167_178.out _; (with_reducible repeat (first | refine bN3 ?_ _ | refine bD3 ?_ | refine bA3 ?_ _)); exact BK167.out⟩, ⟨by (with_reducible repeat (first | refine bN3 ?_ _ | refine bD3 ?_ | refine bA3 ?_ _)); refine blk_far ?_ NB174_178.out _; (with_reducible repeat (first | refine bN3 ?_ _ | refine bD3 ?_ | refine bA3 ?_ _)); refine blk_far ?_ NB174_178.out _; (with_reducible repeat (first | refine bN3 ?_ _ | refine bD3 ?_ | refine bA3 ?_ _)); exact BK174.out⟩, ⟨by (with_reducible repeat (first | refine bN3 ?_ _ | refine bD3 ?_ | refine bA3 ?_ _)); refine blk_put (cs := #[.int .i64 a0_0, .slice none 0 0]) ?_ 1 _ rfl; (with_reducible repeat (first | refine bN3 ?_ _ | refine bD3 ?_ | refine bA3 ?_ _)); refine blk_put (cs := #[.int .i64 0, .slice none 0 0]) ?_ 0 _ rfl; (with_reducible repeat (first | refine bN3 ?_ _ | refine bD3 ?_ | refine bA3 ?_ _)); exact BK178.out⟩, ⟨by repeat (first | (with_reducible first | exact HB.out | apply below_alloc | apply pw_below_drewN | apply below_drew1 | refine below_set ?_ GE165.out | refine below_set ?_ GE166.out | refine below_set ?_ GE167.out | refine below_set ?_ GE174.out | refine below_set ?_ GE178.out) | exact HB.out)⟩⟩
    case round =>
     clear H'
     try clear c1
     try clear c2
     try clear p2
     try clear c3
     try clear c4
     try clear c5
     try clear c6
     try clear c7
     try clear c15
     try clear c16
     try clear c17
     try clear c20
     try clear c22
     try clear c24
     try clear c25
     try clear c26
     try clear c29
     try clear c30
     try clear c33
     try clear c34
     try clear c35
     try clear c38
     try clear c39
     try clear c42
     try clear c43
     try clear c44
     try clear c47
     try clear c48
     try clear c49
     try clear c50
     try clear c52
     try clear c53
     try clear c55
     try clear c56
     try clear c57
     try clear c60
     try clear c61
     try clear c62
     try clear c63
     try clear c64
     try clear hcz18_0
     try clear hcz18_1
     try clear hcz18_2
     try clear hcz27_0
     try clear hcz27_1
     try clear hcz31_0
     try clear hcz31_1
     try clear hcz31_2
     try clear hcz36_0
     try clear hcz36_1
     try clear hcz40_0
     try clear hcz40_1
     try clear hcz40_2
     try clear hcz45_0
     try clear hcz45_1
     try clear hcz51_0
     try clear hcz51_1
     try clear hcz51_2
     try clear hcz54_0
     try clear hcz54_1
     try clear hcz54_2
     try clear hcz58_0
     try clear hcz58_1
     try clear hcz64_0
     try clear hcz64_1
     try clear hfz18_0
     try clear hfz18_1
     try clear hfz18_2
     try clear hfz27_0
     try clear hfz27_1
     try clear hfz31_0
     try clear hfz31_1
     try clear hfz31_2
     try clear hfz36_0
     try clear hfz36_1
     try clear hfz40_0
     try clear hfz40_1
     try clear hfz40_2
     try clear hfz45_0
     try clear hfz45_1
     try clear hfz51_0
     try clear hfz51_1
     try clear hfz51_2
     try clear hfz54_0
     try clear hfz54_1
     try clear hfz54_2
     try clear hfz58_0
     try clear hfz58_1
     try clear hfz64_0
     try clear hfz64_1
     try clear p2
     obtain ⟨x10_2, x168002_2, x175000_2, x175001_2, x175002_2, x179000_2, x179001_2, u175000, u175001, u179001, rfl, HA, HK2, HO_166001, HO_175000, HO_175001, HO_179001, BK165, BK166, BK167, BK174, BK178, HB⟩ := hrel
     cases gk with
     | zero => exact absurd HA.out (by simp [spec_l11Run.l0])
     | succ k2 =>
      have H := HA.out
      clear HA
      simp only [spec_l11Run.l0] at H
      by_cases c65 : x10_2 < (l2.length : Int)
      ·rw [if_pos c65] at H
       have c65b0 : decide (x10_2 < (l2.length : Int)) = true := decide_eq_true c65
       clear c65
       replace H := Option.bind_eq_some_iff.mp H
       obtain ⟨⟨t179, t180⟩, A660, H⟩ := H
       replace H : (if t180 = true then (if 0 ≤ x10_2 then ((spec_l11Day.f x179000_2 x179001_2 t179 (rd l2 x10_2)).bind fun bt188 => ((spec_l11Flow.f k2 bt188.1 bt188.2.1).bind fun t194 => (if t194 = true then (if x175000_2.length < 17592186044416 then (if x175001_2.length < 17592186044416 then ((spec_l1Least.f (rd l2 x10_2) bt188.2.2).bind fun t202 => ((spec_l1Most.f t202 0).bind fun t203 => (spec_l11Run.l0 k2 l2 (wrap64 (x10_2 + 1)) a1_0 a1_1 a1_2 (x175000_2 ++ [t179]) (x175001_2 ++ [bt188.1]) (wrap64 (x175002_2 + t203)) bt188.1 bt188.2.1))) else (none)) else (none)) else (some ((([] : List Int)), (([] : List Int)), 0, false))))) else (none)) else (some ((([] : List Int)), (([] : List Int)), 0, false))) = some (r1, r2, r3, r4) := H
       have A66 := zA3 A660
       clear A660
       by_cases c67 : t180 = true
       ·subst c67
        have H1 : (if 0 ≤ x10_2 then ((spec_l11Day.f x179000_2 x179001_2 t179 (rd l2 x10_2)).bind fun bt188 => ((spec_l11Flow.f k2 bt188.1 bt188.2.1).bind fun t194 => (if t194 = true then (if x175000_2.length < 17592186044416 then (if x175001_2.length < 17592186044416 then ((spec_l1Least.f (rd l2 x10_2) bt188.2.2).bind fun t202 => ((spec_l1Most.f t202 0).bind fun t203 => (spec_l11Run.l0 k2 l2 (wrap64 (x10_2 + 1)) a1_0 a1_1 a1_2 (x175000_2 ++ [t179]) (x175001_2 ++ [bt188.1]) (wrap64 (x175002_2 + t203)) bt188.1 bt188.2.1))) else (none)) else (none)) else (some ((([] : List Int)), (([] : List Int)), 0, false))))) else (none)) = some (r1, r2, r3, r4) := by rw [if_pos rfl] at H; exact H
        clear H
        have H := H1
        clear H1
        by_cases c68 : 0 ≤ x10_2
        ·rw [if_pos c68] at H
         have c68b0 : decide (0 ≤ x10_2) = true := decide_eq_true c68
         clear c68
         replace H := Option.bind_eq_some_iff.mp H
         obtain ⟨⟨t188, t189, t192⟩, A690, H⟩ := H
         replace H : ((spec_l11Flow.f k2 t188 t189).bind fun t194 => (if t194 = true then (if x175000_2.length < 17592186044416 then (if x175001_2.length < 17592186044416 then ((spec_l1Least.f (rd l2 x10_2) t192).bind fun t202 => ((spec_l1Most.f t202 0).bind fun t203 => (spec_l11Run.l0 k2 l2 (wrap64 (x10_2 + 1)) a1_0 a1_1 a1_2 (x175000_2 ++ [t179]) (x175001_2 ++ [t188]) (wrap64 (x175002_2 + t203)) t188 t189))) else (none)) else (none)) else (some ((([] : List Int)), (([] : List Int)), 0, false)))) = some (r1, r2, r3, r4) := H
         have A69 := zA3 A690
         clear A690
         replace H := Option.bind_eq_some_iff.mp H
         obtain ⟨t194, A700, H⟩ := H
         replace H : (if t194 = true then (if x175000_2.length < 17592186044416 then (if x175001_2.length < 17592186044416 then ((spec_l1Least.f (rd l2 x10_2) t192).bind fun t202 => ((spec_l1Most.f t202 0).bind fun t203 => (spec_l11Run.l0 k2 l2 (wrap64 (x10_2 + 1)) a1_0 a1_1 a1_2 (x175000_2 ++ [t179]) (x175001_2 ++ [t188]) (wrap64 (x175002_2 + t203)) t188 t189))) else (none)) else (none)) else (some ((([] : List Int)), (([] : List Int)), 0, false))) = some (r1, r2, r3, r4) := H
         have A70 := zA3 A700
         clear A700
         by_cases c71 : t194 = true
         ·subst c71
          have H1 : (if x175000_2.length < 17592186044416 then (if x175001_2.length < 17592186044416 then ((spec_l1Least.f (rd l2 x10_2) t192).bind fun t202 => ((spec_l1Most.f t202 0).bind fun t203 => (spec_l11Run.l0 k2 l2 (wrap64 (x10_2 + 1)) a1_0 a1_1 a1_2 (x175000_2 ++ [t179]) (x175001_2 ++ [t188]) (wrap64 (x175002_2 + t203)) t188 t189))) else (none)) else (none)) = some (r1, r2, r3, r4) := by rw [if_pos rfl] at H; exact H
          clear H
          have H := H1
          clear H1
          by_cases c72 : x175000_2.length < 17592186044416
          ·rw [if_pos c72] at H
           have LMc72 := zA3 c72
           clear c72
           obtain ⟨y195, hy195⟩ : ∃ y_ : List Int, y_ = (x175000_2 ++ [t179]) := ⟨_, rfl⟩
           replace H : (if x175001_2.length < 17592186044416 then ((spec_l1Least.f (rd l2 x10_2) t192).bind fun t202 => ((spec_l1Most.f t202 0).bind fun t203 => (spec_l11Run.l0 k2 l2 (wrap64 (x10_2 + 1)) a1_0 a1_1 a1_2 y195 (x175001_2 ++ [t188]) (wrap64 (x175002_2 + t203)) t188 t189))) else (none)) = some (r1, r2, r3, r4) := by first | (rw [hy195]; with_reducible exact H) | (have H2_ := (Option.bind_some _ _).symm.trans H; rw [hy195]; with_reducible exact H2_) | (have H2_ := (Option.bind_some _ _).symm.trans H; with_reducible exact H2_) | with_reducible exact H | (rw [hy195]; exact H) | exact H
           have Ny195 := zA3 hy195
           clear hy195
           by_cases c73 : x175001_2.length < 17592186044416
           ·rw [if_pos c73] at H
            have LMc73 := zA3 c73
            clear c73
            obtain ⟨y198, hy198⟩ : ∃ y_ : List Int, y_ = (x175001_2 ++ [t188]) := ⟨_, rfl⟩
            replace H : ((spec_l1Least.f (rd l2 x10_2) t192).bind fun t202 => ((spec_l1Most.f t202 0).bind fun t203 => (spec_l11Run.l0 k2 l2 (wrap64 (x10_2 + 1)) a1_0 a1_1 a1_2 y195 y198 (wrap64 (x175002_2 + t203)) t188 t189))) = some (r1, r2, r3, r4) := by first | (rw [hy198]; with_reducible exact H) | (have H2_ := (Option.bind_some _ _).symm.trans H; rw [hy198]; with_reducible exact H2_) | (have H2_ := (Option.bind_some _ _).symm.trans H; with_reducible exact H2_) | with_reducible exact H | (rw [hy198]; exact H) | exact H
            have Ny198 := zA3 hy198
            clear hy198
            replace H := Option.bind_eq_some_iff.mp H
            obtain ⟨t202, A740, H⟩ := H
            replace H : ((spec_l1Most.f t202 0).bind fun t203 => (spec_l11Run.l0 k2 l2 (wrap64 (x10_2 + 1)) a1_0 a1_1 a1_2 y195 y198 (wrap64 (x175002_2 + t203)) t188 t189)) = some (r1, r2, r3, r4) := H
            have A74 := zA3 A740
            clear A740
            replace H := Option.bind_eq_some_iff.mp H
            obtain ⟨t203, A750, H⟩ := H
            replace H : (spec_l11Run.l0 k2 l2 (wrap64 (x10_2 + 1)) a1_0 a1_1 a1_2 y195 y198 (wrap64 (x175002_2 + t203)) t188 t189) = some (r1, r2, r3, r4) := H
            have A75 := zA3 A750
            clear A750
            have H' := zA3 H
            clear H
            have hnb76 := NB178_165.out
            have hnc76 := NB165_178.out
            have hnb77 := NB178_166.out
            have hnc77 := NB166_178.out
            have hnb78 := NB178_167.out
            have hnc78 := NB167_178.out
            have hnb79 := NB178_174.out
            have hnc79 := NB174_178.out
            have hcz80_0 : wr.cell? ⟨gb178, 0, none⟩ = some (.int .i64 x179000_2) := (blk_cell BK178.out 0).trans rfl
            have hcz80_1 : wr.cell? ⟨gb178, 1, none⟩ = some (u179001) := (blk_cell BK178.out 1).trans rfl
            have hfz80_0 := blk_frozen BK178.out 0
            have hfz80_1 := blk_frozen BK178.out 1
            have hnb81 := NB166_165.out
            have hnc81 := NB165_166.out
            have hnb82 := NB166_167.out
            have hnc82 := NB167_166.out
            have hnb83 := NB166_174.out
            have hnc83 := NB174_166.out
            have hcz84_0 : wr.cell? ⟨gb166, 0, none⟩ = some (.int .i64 a1_0) := (blk_cell BK166.out 0).trans rfl
            have hcz84_1 : wr.cell? ⟨gb166, 1, none⟩ = some (.int .i64 a1_1) := (blk_cell BK166.out 1).trans rfl
            have hcz84_2 : wr.cell? ⟨gb166, 2, none⟩ = some (.int .i64 a1_2) := (blk_cell BK166.out 2).trans rfl
            have hfz84_0 := blk_frozen BK166.out 0
            have hfz84_1 := blk_frozen BK166.out 1
            have hfz84_2 := blk_frozen BK166.out 2
            obtain ⟨Ao85, co85, eo85⟩ := Kd.V_slice HO_179001.out
            subst eo85
            try go_wp2_with (first | ((with_reducible refine gate_callee (f := 47) rfl ?_); refine goesL_ (some 42) rfl rfl Try.func47 (by kernel_rfl) rfl #[.agg #[.int .i64 x179000_2, .slice Ao85 x179001_2.length co85], .agg #[.int .i64 a1_0, .int .i64 a1_1, .int .i64 a1_2]] rfl (by (try simp only [List.map_toArray, List.map_cons, List.map_nil]); first | done | rfl | (simp only [List.length_drop, List.length_take]; rfl)) ?_; (with_reducible refine (spec_RuleOrder.calls k2 x179000_2 _ _ x179001_2 a1_0 a1_1 a1_2 t179 true _ ?side1 ?side2 A66.out).mono ?_); (case side1 => repeat (first | exact (Kd.V_reads' HO_179001.out).2.2 | (with_reducible refine Kd.C_alloc ?_ _) | (with_reducible refine Kd.C_drewN ?_ _) | (with_reducible refine Kd.C_drew ?_))); (case side2 => exact (Kd.V_reads' HO_179001.out).2.1); rintro e w86 ⟨rfl, hb⟩; refine ⟨_, rfl, ?_⟩; have n0_ := zA3 (Kd.V_below (by (with_reducible repeat (first | apply Kd.V_alloc | apply Kd.V_drewN | apply Kd.V_drew)); exact HO_166001.out) hb); have n1_ := zA3 (Kd.R_below (by (with_reducible repeat (first | apply Kd.R_alloc | apply Kd.R_drewN | apply Kd.R_drew)); exact HO_175000.out) hb); have n2_ := zA3 (Kd.R_below (by (with_reducible repeat (first | apply Kd.R_alloc | apply Kd.R_drewN | apply Kd.R_drew)); exact HO_175001.out) hb); have n3_ := zA3 (Kd.V_below (by (with_reducible repeat (first | apply Kd.V_alloc | apply Kd.V_drewN | apply Kd.V_drew)); exact HO_179001.out) hb); have n4_ := zA3 (blk_below (g := gb165) (o := .cells #[.int .i64 a0_0, .slice A0_1 l0_1.length c0_1] 30 (0, 0)) (by (with_reducible repeat (first | refine bN3 ?_ _ | refine bD3 ?_ | refine bA3 ?_ _)); exact BK165.out) hb); have n5_ := zA3 (blk_below (g := gb166) (o := .cells #[.int .i64 a1_0, .int .i64 a1_1, .int .i64 a1_2] 32 (0, 0)) (by (with_reducible repeat (first | refine bN3 ?_ _ | refine bD3 ?_ | refine bA3 ?_ _)); exact BK166.out) hb); have n6_ := zA3 (blk_below (g := gb167) (o := .cells #[.slice none 0 0, .slice none 0 0, .int .i64 x168002_2] 89 (0, 0)) (by (with_reducible repeat (first | refine bN3 ?_ _ | refine bD3 ?_ | refine bA3 ?_ _)); exact BK167.out) hb); have n7_ := zA3 (blk_below (g := gb174) (o := .cells #[u175000, u175001, .int .i64 x175002_2] 89 (0, 0)) (by (with_reducible repeat (first | refine bN3 ?_ _ | refine bD3 ?_ | refine bA3 ?_ _)); exact BK174.out) hb); have n8_ := zA3 (blk_below (g := gb178) (o := .cells #[.int .i64 x179000_2, .slice Ao85 x179001_2.length co85] 30 (0, 0)) (by (with_reducible repeat (first | refine bN3 ?_ _ | refine bD3 ?_ | refine bA3 ?_ _)); exact BK178.out) hb); have n9_ := zA3 (below_step (by repeat (first | (with_reducible first | exact HB.out | apply below_alloc | apply pw_below_drewN | apply below_drew1 | refine below_set ?_ GE165.out | refine below_set ?_ GE166.out | refine below_set ?_ GE167.out | refine below_set ?_ GE174.out | refine below_set ?_ GE178.out) | exact HB.out)) hb); clear HO_166001; clear HO_175000; clear HO_175001; clear HO_179001; clear BK165; clear BK166; clear BK167; clear BK174; clear BK178; clear HB; have HO_166001 := n0_; have HO_175000 := n1_; have HO_175001 := n2_; have HO_179001 := n3_; have BK165 := n4_; have BK166 := n5_; have BK167 := n6_; have BK174 := n7_; have BK178 := n8_; have HB := n9_; clear n0_ n1_ n2_ n3_ n4_ n5_ n6_ n7_ n8_ n9_; (try clear hb); (try clear hb2); (try clear hk); (try clear hi)))
            have n0_ := zA3 (Kd.V_drew HO_166001.out)
            have n1_ := zA3 (Kd.R_drew HO_175000.out)
            have n2_ := zA3 (Kd.R_drew HO_175001.out)
            have n3_ := zA3 (Kd.V_drew HO_179001.out)
            have n4_ := zA3 (blk_drew BK165.out)
            have n5_ := zA3 (blk_drew BK166.out)
            have n6_ := zA3 (blk_drew BK167.out)
            have n7_ := zA3 (blk_drew BK174.out)
            have n8_ := zA3 (blk_drew BK178.out)
            have n9_ := zA3 (below_drew1 HB.out)
            clear HO_166001
            clear HO_175000
            clear HO_175001
            clear HO_179001
            clear BK165
            clear BK166
            clear BK167
            clear BK174
            clear BK178
            clear HB
            have HO_166001 := n0_
            have HO_175000 := n1_
            have HO_175001 := n2_
            have HO_179001 := n3_
            have BK165 := n4_
            have BK166 := n5_
            have BK167 := n6_
            have BK174 := n7_
            have BK178 := n8_
            have HB := n9_
            clear n0_ n1_ n2_ n3_ n4_ n5_ n6_ n7_ n8_ n9_
            have p187 : 0 ≤ (x10_2 : Int) := of_decide_eq_true (by first | (with_reducible assumption) | assumption)
            have q187 : x10_2 < (l2.length : Int) := of_decide_eq_true (by first | (with_reducible assumption) | assumption)
            obtain ⟨ad187, e187, hx187_0⟩ := Kd.at_int HR2.out x10_2 p187 q187
            have hw187_0 := hx187_0
            cases e187
            replace hx187_0 := (HB.out.cell (World.block_lt_of_cell? w _ hx187_0)).trans hx187_0
            replace p187 := eq_true p187
            replace q187 := eq_true q187
            refine start_ (n := 13) (S := fun w' => w'.cell? ⟨gb178, 0, none⟩ = some (.int .i64 x179000_2) ∧ w'.cell? ⟨gb178, 1, none⟩ = some (.slice Ao85 x179001_2.length co85) ∧ w'.cell? (ad187.add (x10_2).toNat) = some (.int .i64 (rd l2 x10_2))) (ds := []) #[false, false, false, false, false, false, false, false, false, false, false, false, false] (by kernel_rfl) rfl rfl ⟨(blk_cell BK178.out 0).trans rfl, (blk_cell BK178.out 1).trans rfl, ((HB.out.cell (World.block_lt_of_cell? w _ hw187_0)).trans hw187_0)⟩ (fun hHeld => ?_); refine with_tabW spec_l11Run.tab11 spec_l11Run.bits11 (fun HT_ HW_ => ?_)
            generalize w86.drew = w87 at HO_166001 HO_175000 HO_175001 HO_179001 BK165 BK166 BK167 BK174 BK178 HB hx187_0 hHeld ⊢
            refine pure_ (i := 1) (N := some 52) (v := ?_) (a' := ?_) #[false, true, false, false, false, false, false, false, false, false, false, false, false] rfl rfl (any_of HT_.out (by kernel_rfl)) (fun _ _ _ h => h) (Or.inl ⟨by rfl, ?_⟩) ?_ ?_
            rotate_left
            ·intro w'
             go_simp
             with_reducible rfl
            rotate_left
            ·simp only [Act.put, List.setIfInBounds_toArray, List.set_cons_zero, List.set_cons_succ, i64_w, i32_w]
             rfl
            refine pure_ (i := 2) (N := some 53) (v := ?_) (a' := ?_) #[false, true, true, false, false, false, false, false, false, false, false, false, false] rfl rfl (any_of HT_.out (by kernel_rfl)) (fun _ _ _ h => h) (Or.inl ⟨by rfl, ?_⟩) ?_ ?_
            rotate_left
            ·intro w'
             go_simp
             with_reducible rfl
            rotate_left
            ·simp only [Act.put, List.setIfInBounds_toArray, List.set_cons_zero, List.set_cons_succ, i64_w, i32_w]
             rfl
            refine pure_ (i := 3) (N := some 54) (v := ?_) (a' := ?_) #[false, true, true, true, false, false, false, false, false, false, false, false, false] rfl rfl (any_of HT_.out (by kernel_rfl)) (fun _ _ _ h => h) (Or.inl ⟨by rfl, ?_⟩) ?_ ?_
            rotate_left
            ·intro w'
             go_simp
             with_reducible rfl
            rotate_left
            ·simp only [Act.put, List.setIfInBounds_toArray, List.set_cons_zero, List.set_cons_succ, i64_w, i32_w]
             rfl
            refine pure_ (i := 4) (N := some 55) (v := ?_) (a' := ?_) #[false, true, true, true, true, false, false, false, false, false, false, false, false] rfl rfl (any_of HT_.out (by kernel_rfl)) (fun _ _ _ h => h) (Or.inl ⟨by rfl, ?_⟩) ?_ ?_
            rotate_left
            ·intro w'
             go_simp
             with_reducible rfl
            rotate_left
            ·simp only [Act.put, List.setIfInBounds_toArray, List.set_cons_zero, List.set_cons_succ, i64_w, i32_w]
             rfl
            refine take_ (i := 0) (N := some 51) (v := ?_) (a' := ?_) #[true, true, true, true, true, false, false, false, false, false, false, false, false] rfl rfl (take_ofW HT_.out HW_.out (by kernel_rfl)) (fun _ _ _ h => h) (Or.inl ⟨by rfl, ?_⟩) hHeld ?_ ?_
            rotate_left
            ·rintro w' ⟨s0, s1, s2⟩
             go_simp
             with_reducible rfl
            rotate_left
            ·simp only [Act.put, List.setIfInBounds_toArray, List.set_cons_zero, List.set_cons_succ, i64_w, i32_w]
             rfl
            refine take_ (i := 5) (N := some 56) (v := ?_) (a' := ?_) #[true, true, true, true, true, true, false, false, false, false, false, false, false] rfl rfl (take_ofW HT_.out HW_.out (by kernel_rfl)) (fun _ _ _ h => h) (Or.inl ⟨by rfl, ?_⟩) hHeld ?_ ?_
            rotate_left
            ·rintro w' ⟨s0, s1, s2⟩
             go_simp
             with_reducible rfl
            rotate_left
            ·simp only [Act.put, List.setIfInBounds_toArray, List.set_cons_zero, List.set_cons_succ, i64_w, i32_w]
             rfl
            refine join_ (σ := Value × Nat) 2 #[true, true, true, true, true, true, true, true, true, true, true, false, false] (fun s_ => [(57, .tuple #[.agg #[.int .i64 t188, s_.1], .int .i64 t192]), (13, .pointer (some ⟨s_.2, 0, none⟩)), (50, .tuple #[.agg #[.int .i64 t188, s_.1], .int .i64 t192]), (58, .agg #[.int .i64 t188, s_.1]), (59, .int .i64 t192)]) (fun s_ w' => (w'.cell? ⟨gb178, 0, none⟩ = some (.int .i64 x179000_2) ∧ w'.cell? ⟨gb178, 1, none⟩ = some (.slice Ao85 x179001_2.length co85) ∧ w'.cell? (ad187.add (x10_2).toNat) = some (.int .i64 (rd l2 x10_2))) ∧ (Kd.R (Kd.int .i64) 3 w' w.heap.size (fun k_ => (w.heap.size ≤ k_) ∧ some k_ ≠ (u175000 : Value).ownBlock ∧ some k_ ≠ (u175001 : Value).ownBlock) s_.1 t189) ∧ (Kd.V (Kd.int .i64) 3 w' w.heap.size (fun k_ => (P0_1_ k_ ∨ w.heap.size ≤ k_) ∧ some k_ ≠ (s_.1 : Value).ownBlock ∧ some k_ ≠ (u175000 : Value).ownBlock ∧ some k_ ≠ (u175001 : Value).ownBlock ∧ k_ ≠ gb165 ∧ k_ ≠ gb166 ∧ k_ ≠ gb167 ∧ k_ ≠ gb174 ∧ k_ ≠ gb178 ∧ k_ ≠ s_.2) (.slice A0_1 l0_1.length c0_1) l0_1) ∧ (Kd.R (Kd.int .i64) 3 w' w.heap.size (fun k_ => (w.heap.size ≤ k_) ∧ some k_ ≠ (s_.1 : Value).ownBlock ∧ some k_ ≠ (u175001 : Value).ownBlock) u175000 x175000_2) ∧ (Kd.R (Kd.int .i64) 3 w' w.heap.size (fun k_ => (w.heap.size ≤ k_) ∧ some k_ ≠ (s_.1 : Value).ownBlock ∧ some k_ ≠ (u175000 : Value).ownBlock) u175001 x175001_2) ∧ (Kd.V (Kd.int .i64) 3 w' w.heap.size (fun k_ => (P0_1_ k_ ∨ w.heap.size ≤ k_) ∧ some k_ ≠ (s_.1 : Value).ownBlock ∧ some k_ ≠ (u175000 : Value).ownBlock ∧ some k_ ≠ (u175001 : Value).ownBlock ∧ k_ ≠ gb165 ∧ k_ ≠ gb166 ∧ k_ ≠ gb167 ∧ k_ ≠ gb174 ∧ k_ ≠ gb178 ∧ k_ ≠ s_.2) (.slice Ao85 x179001_2.length co85) x179001_2) ∧ (w'.heap[gb165]? = some (.cells #[.int .i64 a0_0, .slice A0_1 l0_1.length c0_1] 30 (0, 0))) ∧ (w'.heap[gb166]? = some (.cells #[.int .i64 a1_0, .int .i64 a1_1, .int .i64 a1_2] 32 (0, 0))) ∧ (w'.heap[gb167]? = some (.cells #[.slice none 0 0, .slice none 0 0, .int .i64 x168002_2] 89 (0, 0))) ∧ (w'.heap[gb174]? = some (.cells #[u175000, u175001, .int .i64 x175002_2] 89 (0, 0))) ∧ (w'.heap[gb178]? = some (.cells #[.int .i64 x179000_2, .slice Ao85 x179001_2.length co85] 30 (0, 0))) ∧ (w'.heap[s_.2]? = some (.cells #[.int .i64 0, .slice none 0 0] 30 (0, 0))) ∧ (w.heap.size ≤ s_.2) ∧ (w.heap.size ≤ s_.2) ∧ (gb165 ≠ s_.2) ∧ (s_.2 ≠ gb165) ∧ (gb166 ≠ s_.2) ∧ (s_.2 ≠ gb166) ∧ (gb167 ≠ s_.2) ∧ (s_.2 ≠ gb167) ∧ (gb174 ≠ s_.2) ∧ (s_.2 ≠ gb174) ∧ (gb178 ≠ s_.2) ∧ (s_.2 ≠ gb178) ∧ (Below w.heap.size w w')) ?_ ?_
            rotate_left
            ·intro hCont
             refine two_ (i := 6) (j := 10) (Ni := some 57) (Nj := some 13) #[true, true, true, true, true, true, true, false, false, false, false, false, false] #[true, true, true, true, true, true, false, false, false, false, true, false, false] rfl rfl rfl rfl (two_of HT_.out (by kernel_rfl)) (by decide) (by decide) (fun K hK => ?_) (fun K hK => ?_)
             ·skip
              refine goes_ Try.func79 (by kernel_rfl) rfl #[.agg #[.int .i64 x179000_2, .slice Ao85 x179001_2.length co85], .int .i64 t179, .int .i64 (rd l2 x10_2)] (by rfl) rfl rfl (by (try simp only [List.map_toArray, List.map_cons, List.map_nil]); first | done | rfl | (simp only [List.length_drop, List.length_take]; rfl)) ?_
              with_reducible refine (spec_l11Day.calls x179000_2 _ _ x179001_2 t179 (rd l2 x10_2) t188 t189 t192 _ ?side1 ?side2 A69.out).mono ?_
              (case side1 => repeat (first | exact (Kd.V_reads' HO_179001.out).2.2 | (with_reducible refine Kd.C_alloc ?_ _) | (with_reducible refine Kd.C_drewN ?_ _) | (with_reducible refine Kd.C_drew ?_)))
              (case side2 => exact (Kd.V_reads' HO_179001.out).2.1)
              rintro e w88 ⟨v190, rfl, ho0, hb⟩
              refine ⟨_, rfl, ?_⟩
              have n0_ := zA3 (Kd.V_elder' (by (with_reducible repeat (first | apply Kd.V_alloc | apply Kd.V_drewN | apply Kd.V_drew)); exact HO_166001.out) (Kd.R_base ho0) hb)
              have n1_ := zA3 (Kd.R_elder' (by (with_reducible repeat (first | apply Kd.R_alloc | apply Kd.R_drewN | apply Kd.R_drew)); exact HO_175000.out) (Kd.R_base ho0) hb)
              have n2_ := zA3 (Kd.R_elder' (by (with_reducible repeat (first | apply Kd.R_alloc | apply Kd.R_drewN | apply Kd.R_drew)); exact HO_175001.out) (Kd.R_base ho0) hb)
              have n3_ := zA3 (Kd.V_elder' (by (with_reducible repeat (first | apply Kd.V_alloc | apply Kd.V_drewN | apply Kd.V_drew)); exact HO_179001.out) (Kd.R_base ho0) hb)
              have n4_ := zA3 (Kd.R_lower (Kd.R_new' (Kd.R_new' (Kd.R_newM (M := fun k_ => (w.heap.size ≤ k_)) ho0 (below_size (by repeat (first | (with_reducible first | exact HB.out | apply below_alloc | apply pw_below_drewN | apply below_drew1 | refine below_set ?_ GE165.out | refine below_set ?_ GE166.out | refine below_set ?_ GE167.out | refine below_set ?_ GE174.out | refine below_set ?_ GE178.out) | exact HB.out))) (fun k_ h_ => h_)) (Kd.R_lt (by (with_reducible repeat (first | apply Kd.R_alloc | apply Kd.R_drewN | apply Kd.R_drew)); exact HO_175000.out))) (Kd.R_lt (by (with_reducible repeat (first | apply Kd.R_alloc | apply Kd.R_drewN | apply Kd.R_drew)); exact HO_175001.out))) (below_size (by repeat (first | (with_reducible first | exact HB.out | apply below_alloc | apply pw_below_drewN | apply below_drew1 | refine below_set ?_ GE165.out | refine below_set ?_ GE166.out | refine below_set ?_ GE167.out | refine below_set ?_ GE174.out | refine below_set ?_ GE178.out) | exact HB.out))))
              have n5_ := zA3 (blk_below (g := gb165) (o := .cells #[.int .i64 a0_0, .slice A0_1 l0_1.length c0_1] 30 (0, 0)) (by (with_reducible repeat (first | refine bN3 ?_ _ | refine bD3 ?_ | refine bA3 ?_ _)); exact BK165.out) hb)
              have n6_ := zA3 (blk_below (g := gb166) (o := .cells #[.int .i64 a1_0, .int .i64 a1_1, .int .i64 a1_2] 32 (0, 0)) (by (with_reducible repeat (first | refine bN3 ?_ _ | refine bD3 ?_ | refine bA3 ?_ _)); exact BK166.out) hb)
              have n7_ := zA3 (blk_below (g := gb167) (o := .cells #[.slice none 0 0, .slice none 0 0, .int .i64 x168002_2] 89 (0, 0)) (by (with_reducible repeat (first | refine bN3 ?_ _ | refine bD3 ?_ | refine bA3 ?_ _)); exact BK167.out) hb)
              have n8_ := zA3 (blk_below (g := gb174) (o := .cells #[u175000, u175001, .int .i64 x175002_2] 89 (0, 0)) (by (with_reducible repeat (first | refine bN3 ?_ _ | refine bD3 ?_ | refine bA3 ?_ _)); exact BK174.out) hb)
              have n9_ := zA3 (blk_below (g := gb178) (o := .cells #[.int .i64 x179000_2, .slice Ao85 x179001_2.length co85] 30 (0, 0)) (by (with_reducible repeat (first | refine bN3 ?_ _ | refine bD3 ?_ | refine bA3 ?_ _)); exact BK178.out) hb)
              have n10_ := zA3 (below_step (by repeat (first | (with_reducible first | exact HB.out | apply below_alloc | apply pw_below_drewN | apply below_drew1 | refine below_set ?_ GE165.out | refine below_set ?_ GE166.out | refine below_set ?_ GE167.out | refine below_set ?_ GE174.out | refine below_set ?_ GE178.out) | exact HB.out)) hb)
              clear HO_166001
              clear HO_175000
              clear HO_175001
              clear HO_179001
              clear BK165
              clear BK166
              clear BK167
              clear BK174
              clear BK178
              clear HB
              have HO_166001 := n0_
              have HO_175000 := n1_
              have HO_175001 := n2_
              have HO_179001 := n3_
              have HO191 := n4_
              have BK165 := n5_
              have BK166 := n6_
              have BK167 := n7_
              have BK174 := n8_
              have BK178 := n9_
              have HB := n10_
              clear n0_ n1_ n2_ n3_ n4_ n5_ n6_ n7_ n8_ n9_ n10_
              (try clear hb)
              (try clear hb2)
              (try clear hk)
              (try clear hi)
              (try clear ho0)
              refine hK.out _ _ ⟨(blk_cell BK178.out 0).trans rfl, (blk_cell BK178.out 1).trans rfl, ((HB.out.cell (World.block_lt_of_cell? w _ hw187_0)).trans hw187_0)⟩ (fun hHeld => ?_)
              clear hK K
              refine norm_ (a' := ?_) ?_ ?_
              rotate_left
              ·show Act.put _ (some 57) _ = _
               simp only [Act.put, List.setIfInBounds_toArray, List.set_cons_zero, List.set_cons_succ, i64_w, i32_w]
               rfl
              refine pure_ (i := 7) (N := some 50) (v := ?_) (a' := ?_) #[true, true, true, true, true, true, true, true, false, false, false, false, false] rfl rfl (any_of HT_.out (by kernel_rfl)) (fun _ _ _ h => h) (Or.inl ⟨by rfl, ?_⟩) ?_ ?_
              rotate_left
              ·intro w'
               go_simp
               with_reducible rfl
              rotate_left
              ·simp only [Act.put, List.setIfInBounds_toArray, List.set_cons_zero, List.set_cons_succ, i64_w, i32_w]
               rfl
              refine pure_ (i := 8) (N := some 58) (v := ?_) (a' := ?_) #[true, true, true, true, true, true, true, true, true, false, false, false, false] rfl rfl (any_of HT_.out (by kernel_rfl)) (fun _ _ _ h => h) (Or.inl ⟨by rfl, ?_⟩) ?_ ?_
              rotate_left
              ·intro w'
               go_simp
               with_reducible rfl
              rotate_left
              ·simp only [Act.put, List.setIfInBounds_toArray, List.set_cons_zero, List.set_cons_succ, i64_w, i32_w]
               rfl
              refine pure_ (i := 9) (N := some 59) (v := ?_) (a' := ?_) #[true, true, true, true, true, true, true, true, true, true, false, false, false] rfl rfl (any_of HT_.out (by kernel_rfl)) (fun _ _ _ h => h) (Or.inl ⟨by rfl, ?_⟩) ?_ ?_
              rotate_left
              ·intro w'
               go_simp
               with_reducible rfl
              rotate_left
              ·simp only [Act.put, List.setIfInBounds_toArray, List.set_cons_zero, List.set_cons_succ, i64_w, i32_w]
               rfl
              refine one_ (i := 10) (N := some 13) #[true, true, true, true, true, true, true, true, true, true, true, false, false] rfl rfl (one_of HT_.out (by kernel_rfl)) (by decide) (fun K hK => ?_)
              refine box_step ?hg (N := 13) ?hd (cs := #[.int .i64 0, .slice none 0 0]) (t := 30) ?hr ?_; (case hd => rfl); (case hg => rfl); (case hr => first | (go_simp; done) | (go_simp; rfl))
              intro gb193 hg w89 hbox hb
              have n0_ := zA3 (Kd.V_below (Kd.V_elderB (by (with_reducible repeat (first | apply Kd.V_alloc | apply Kd.V_drewN | apply Kd.V_drew)); exact HO_166001.out) gb193 (Nat.le_of_eq hg.symm)) hb)
              have n1_ := zA3 (Kd.R_below (by (with_reducible repeat (first | apply Kd.R_alloc | apply Kd.R_drewN | apply Kd.R_drew)); exact HO_175000.out) hb)
              have n2_ := zA3 (Kd.R_below (by (with_reducible repeat (first | apply Kd.R_alloc | apply Kd.R_drewN | apply Kd.R_drew)); exact HO_175001.out) hb)
              have n3_ := zA3 (Kd.V_below (Kd.V_elderB (by (with_reducible repeat (first | apply Kd.V_alloc | apply Kd.V_drewN | apply Kd.V_drew)); exact HO_179001.out) gb193 (Nat.le_of_eq hg.symm)) hb)
              have n4_ := zA3 (Kd.R_below (by (with_reducible repeat (first | apply Kd.R_alloc | apply Kd.R_drewN | apply Kd.R_drew)); exact HO191.out) hb)
              have n5_ := zA3 (blk_below (g := gb165) (o := .cells #[.int .i64 a0_0, .slice A0_1 l0_1.length c0_1] 30 (0, 0)) (by (with_reducible repeat (first | refine bN3 ?_ _ | refine bD3 ?_ | refine bA3 ?_ _)); exact BK165.out) hb)
              have n6_ := zA3 (blk_below (g := gb166) (o := .cells #[.int .i64 a1_0, .int .i64 a1_1, .int .i64 a1_2] 32 (0, 0)) (by (with_reducible repeat (first | refine bN3 ?_ _ | refine bD3 ?_ | refine bA3 ?_ _)); exact BK166.out) hb)
              have n7_ := zA3 (blk_below (g := gb167) (o := .cells #[.slice none 0 0, .slice none 0 0, .int .i64 x168002_2] 89 (0, 0)) (by (with_reducible repeat (first | refine bN3 ?_ _ | refine bD3 ?_ | refine bA3 ?_ _)); exact BK167.out) hb)
              have n8_ := zA3 (blk_below (g := gb174) (o := .cells #[u175000, u175001, .int .i64 x175002_2] 89 (0, 0)) (by (with_reducible repeat (first | refine bN3 ?_ _ | refine bD3 ?_ | refine bA3 ?_ _)); exact BK174.out) hb)
              have n9_ := zA3 (blk_below (g := gb178) (o := .cells #[.int .i64 x179000_2, .slice Ao85 x179001_2.length co85] 30 (0, 0)) (by (with_reducible repeat (first | refine bN3 ?_ _ | refine bD3 ?_ | refine bA3 ?_ _)); exact BK178.out) hb)
              have n10_ := zA3 (below_step (by repeat (first | (with_reducible first | exact HB.out | apply below_alloc | apply pw_below_drewN | apply below_drew1 | refine below_set ?_ GE165.out | refine below_set ?_ GE166.out | refine below_set ?_ GE167.out | refine below_set ?_ GE174.out | refine below_set ?_ GE178.out) | exact HB.out)) hb)
              have n11_ := zA3 (hbox)
              have n12_ := zA3 ((by rw [hg]; exact (below_size (by repeat (first | (with_reducible first | exact HB.out | apply below_alloc | apply pw_below_drewN | apply below_drew1 | refine below_set ?_ GE165.out | refine below_set ?_ GE166.out | refine below_set ?_ GE167.out | refine below_set ?_ GE174.out | refine below_set ?_ GE178.out) | exact HB.out))) : w.heap.size ≤ gb193))
              have n13_ := zA3 ((by rw [hg]; exact (below_size (by repeat (first | (with_reducible first | exact HB.out | apply below_alloc | apply pw_below_drewN | apply below_drew1 | refine below_set ?_ GE165.out | refine below_set ?_ GE166.out | refine below_set ?_ GE167.out | refine below_set ?_ GE174.out | refine below_set ?_ GE178.out) | exact HB.out))) : w.heap.size ≤ gb193))
              have n14_ := zA3 ((by rw [hg]; exact Nat.ne_of_lt (blk_lt (g := gb165) (o := .cells #[.int .i64 a0_0, .slice A0_1 l0_1.length c0_1] 30 (0, 0)) (by (with_reducible repeat (first | refine bN3 ?_ _ | refine bD3 ?_ | refine bA3 ?_ _)); exact BK165.out)) : gb165 ≠ gb193))
              have n15_ := zA3 ((by rw [hg]; exact Nat.ne_of_gt (blk_lt (g := gb165) (o := .cells #[.int .i64 a0_0, .slice A0_1 l0_1.length c0_1] 30 (0, 0)) (by (with_reducible repeat (first | refine bN3 ?_ _ | refine bD3 ?_ | refine bA3 ?_ _)); exact BK165.out)) : gb193 ≠ gb165))
              have n16_ := zA3 ((by rw [hg]; exact Nat.ne_of_lt (blk_lt (g := gb166) (o := .cells #[.int .i64 a1_0, .int .i64 a1_1, .int .i64 a1_2] 32 (0, 0)) (by (with_reducible repeat (first | refine bN3 ?_ _ | refine bD3 ?_ | refine bA3 ?_ _)); exact BK166.out)) : gb166 ≠ gb193))
              have n17_ := zA3 ((by rw [hg]; exact Nat.ne_of_gt (blk_lt (g := gb166) (o := .cells #[.int .i64 a1_0, .int .i64 a1_1, .int .i64 a1_2] 32 (0, 0)) (by (with_reducible repeat (first | refine bN3 ?_ _ | refine bD3 ?_ | refine bA3 ?_ _)); exact BK166.out)) : gb193 ≠ gb166))
              have n18_ := zA3 ((by rw [hg]; exact Nat.ne_of_lt (blk_lt (g := gb167) (o := .cells #[.slice none 0 0, .slice none 0 0, .int .i64 x168002_2] 89 (0, 0)) (by (with_reducible repeat (first | refine bN3 ?_ _ | refine bD3 ?_ | refine bA3 ?_ _)); exact BK167.out)) : gb167 ≠ gb193))
              have n19_ := zA3 ((by rw [hg]; exact Nat.ne_of_gt (blk_lt (g := gb167) (o := .cells #[.slice none 0 0, .slice none 0 0, .int .i64 x168002_2] 89 (0, 0)) (by (with_reducible repeat (first | refine bN3 ?_ _ | refine bD3 ?_ | refine bA3 ?_ _)); exact BK167.out)) : gb193 ≠ gb167))
              have n20_ := zA3 ((by rw [hg]; exact Nat.ne_of_lt (blk_lt (g := gb174) (o := .cells #[u175000, u175001, .int .i64 x175002_2] 89 (0, 0)) (by (with_reducible repeat (first | refine bN3 ?_ _ | refine bD3 ?_ | refine bA3 ?_ _)); exact BK174.out)) : gb174 ≠ gb193))
              have n21_ := zA3 ((by rw [hg]; exact Nat.ne_of_gt (blk_lt (g := gb174) (o := .cells #[u175000, u175001, .int .i64 x175002_2] 89 (0, 0)) (by (with_reducible repeat (first | refine bN3 ?_ _ | refine bD3 ?_ | refine bA3 ?_ _)); exact BK174.out)) : gb193 ≠ gb174))
              have n22_ := zA3 ((by rw [hg]; exact Nat.ne_of_lt (blk_lt (g := gb178) (o := .cells #[.int .i64 x179000_2, .slice Ao85 x179001_2.length co85] 30 (0, 0)) (by (with_reducible repeat (first | refine bN3 ?_ _ | refine bD3 ?_ | refine bA3 ?_ _)); exact BK178.out)) : gb178 ≠ gb193))
              have n23_ := zA3 ((by rw [hg]; exact Nat.ne_of_gt (blk_lt (g := gb178) (o := .cells #[.int .i64 x179000_2, .slice Ao85 x179001_2.length co85] 30 (0, 0)) (by (with_reducible repeat (first | refine bN3 ?_ _ | refine bD3 ?_ | refine bA3 ?_ _)); exact BK178.out)) : gb193 ≠ gb178))
              clear HO_166001
              clear HO_175000
              clear HO_175001
              clear HO_179001
              clear HO191
              clear BK165
              clear BK166
              clear BK167
              clear BK174
              clear BK178
              clear HB
              have HO_166001 := n0_
              have HO_175000 := n1_
              have HO_175001 := n2_
              have HO_179001 := n3_
              have HO191 := n4_
              have BK165 := n5_
              have BK166 := n6_
              have BK167 := n7_
              have BK174 := n8_
              have BK178 := n9_
              have HB := n10_
              have BK193 := n11_
              have GW193 := n12_
              have GE193 := n13_
              have NB165_193 := n14_
              have NB193_165 := n15_
              have NB166_193 := n16_
              have NB193_166 := n17_
              have NB167_193 := n18_
              have NB193_167 := n19_
              have NB174_193 := n20_
              have NB193_174 := n21_
              have NB178_193 := n22_
              have NB193_178 := n23_
              clear n0_ n1_ n2_ n3_ n4_ n5_ n6_ n7_ n8_ n9_ n10_ n11_ n12_ n13_ n14_ n15_ n16_ n17_ n18_ n19_ n20_ n21_ n22_ n23_
              clear hb hbox hg
              refine hK.out _ _ ⟨(blk_cell BK178.out 0).trans rfl, (blk_cell BK178.out 1).trans rfl, ((HB.out.cell (World.block_lt_of_cell? w _ hw187_0)).trans hw187_0)⟩ (fun hHeld => ?_)
              clear hK K
              refine norm_ (a' := ?_) ?_ ?_
              rotate_left
              ·show Act.put _ (some 13) _ = _
               simp only [Act.put, List.setIfInBounds_toArray, List.set_cons_zero, List.set_cons_succ, i64_w, i32_w]
               rfl
              exact norm_ (by simp only [putAll, Act.put, List.setIfInBounds_toArray, List.set_cons_zero, List.set_cons_succ]) (hCont (v190, gb193) _ ⟨hHeld, (by (with_reducible repeat (first | apply Kd.R_alloc | apply Kd.R_drewN | apply Kd.R_drew)); exact Kd.R_mono HO191.out (fun _ hk => ⟨hk.1.1.1, ⟨hk.1.2, hk.2⟩⟩)), (by (with_reducible repeat (first | apply Kd.V_alloc | apply Kd.V_drewN | apply Kd.V_drew)); exact Kd.V_mono HO_166001.out (fun _ hk => ⟨hk.1.1.1, ⟨hk.1.2, ⟨hk.1.1.2.1, ⟨hk.1.1.2.2.1, ⟨hk.1.1.2.2.2.1, ⟨hk.1.1.2.2.2.2.1, ⟨hk.1.1.2.2.2.2.2.1, ⟨hk.1.1.2.2.2.2.2.2.1, ⟨hk.1.1.2.2.2.2.2.2.2, hk.2⟩⟩⟩⟩⟩⟩⟩⟩⟩)), (by (with_reducible repeat (first | apply Kd.R_alloc | apply Kd.R_drewN | apply Kd.R_drew)); exact Kd.R_mono HO_175000.out (fun _ hk => ⟨hk.1.1, ⟨hk.2, hk.1.2⟩⟩)), (by (with_reducible repeat (first | apply Kd.R_alloc | apply Kd.R_drewN | apply Kd.R_drew)); exact Kd.R_mono HO_175001.out (fun _ hk => ⟨hk.1.1, ⟨hk.2, hk.1.2⟩⟩)), (by (with_reducible repeat (first | apply Kd.V_alloc | apply Kd.V_drewN | apply Kd.V_drew)); exact Kd.V_mono HO_179001.out (fun _ hk => ⟨hk.1.1.1, ⟨hk.1.2, ⟨hk.1.1.2.1, ⟨hk.1.1.2.2.1, ⟨hk.1.1.2.2.2.1, ⟨hk.1.1.2.2.2.2.1, ⟨hk.1.1.2.2.2.2.2.1, ⟨hk.1.1.2.2.2.2.2.2.1, ⟨hk.1.1.2.2.2.2.2.2.2, hk.2⟩⟩⟩⟩⟩⟩⟩⟩⟩)), (by (with_reducible repeat (first | refine bN3 ?_ _ | refine bD3 ?_ | refine bA3 ?_ _)); exact BK165.out), (by (with_reducible repeat (first | refine bN3 ?_ _ | refine bD3 ?_ | refine bA3 ?_ _)); exact BK166.out), (by (with_reducible repeat (first | refine bN3 ?_ _ | refine bD3 ?_ | refine bA3 ?_ _)); exact BK167.out), (by (with_reducible repeat (first | refine bN3 ?_ _ | refine bD3 ?_ | refine bA3 ?_ _)); exact BK174.out), (by (with_reducible repeat (first | refine bN3 ?_ _ | refine bD3 ?_ | refine bA3 ?_ _)); exact BK178.out), (by (with_reducible repeat (first | refine bN3 ?_ _ | refine bD3 ?_ | refine bA3 ?_ _)); exact BK193.out), GW193.out, GE193.out, NB165_193.out, NB193_165.out, NB166_193.out, NB193_166.out, NB167_193.out, NB193_167.out, NB174_193.out, NB193_174.out, NB178_193.out, NB193_178.out, (by repeat (first | (with_reducible first | exact HB.out | apply below_alloc | apply pw_below_drewN | apply below_drew1 | refine below_set ?_ GE165.out | refine below_set ?_ GE166.out | refine below_set ?_ GE167.out | refine below_set ?_ GE174.out | refine below_set ?_ GE178.out | refine below_set ?_ GE193.out) | exact HB.out))⟩)
             ·skip
              refine box_step ?hg (N := 13) ?hd (cs := #[.int .i64 0, .slice none 0 0]) (t := 30) ?hr ?_; (case hd => rfl); (case hg => rfl); (case hr => first | (go_simp; done) | (go_simp; rfl))
              intro gb193 hg w88 hbox hb
              have n0_ := zA3 (Kd.V_below (Kd.V_elderB (by (with_reducible repeat (first | apply Kd.V_alloc | apply Kd.V_drewN | apply Kd.V_drew)); exact HO_166001.out) gb193 (Nat.le_of_eq hg.symm)) hb)
              have n1_ := zA3 (Kd.R_below (by (with_reducible repeat (first | apply Kd.R_alloc | apply Kd.R_drewN | apply Kd.R_drew)); exact HO_175000.out) hb)
              have n2_ := zA3 (Kd.R_below (by (with_reducible repeat (first | apply Kd.R_alloc | apply Kd.R_drewN | apply Kd.R_drew)); exact HO_175001.out) hb)
              have n3_ := zA3 (Kd.V_below (Kd.V_elderB (by (with_reducible repeat (first | apply Kd.V_alloc | apply Kd.V_drewN | apply Kd.V_drew)); exact HO_179001.out) gb193 (Nat.le_of_eq hg.symm)) hb)
              have n4_ := zA3 (blk_below (g := gb165) (o := .cells #[.int .i64 a0_0, .slice A0_1 l0_1.length c0_1] 30 (0, 0)) (by (with_reducible repeat (first | refine bN3 ?_ _ | refine bD3 ?_ | refine bA3 ?_ _)); exact BK165.out) hb)
              have n5_ := zA3 (blk_below (g := gb166) (o := .cells #[.int .i64 a1_0, .int .i64 a1_1, .int .i64 a1_2] 32 (0, 0)) (by (with_reducible repeat (first | refine bN3 ?_ _ | refine bD3 ?_ | refine bA3 ?_ _)); exact BK166.out) hb)
              have n6_ := zA3 (blk_below (g := gb167) (o := .cells #[.slice none 0 0, .slice none 0 0, .int .i64 x168002_2] 89 (0, 0)) (by (with_reducible repeat (first | refine bN3 ?_ _ | refine bD3 ?_ | refine bA3 ?_ _)); exact BK167.out) hb)
              have n7_ := zA3 (blk_below (g := gb174) (o := .cells #[u175000, u175001, .int .i64 x175002_2] 89 (0, 0)) (by (with_reducible repeat (first | refine bN3 ?_ _ | refine bD3 ?_ | refine bA3 ?_ _)); exact BK174.out) hb)
              have n8_ := zA3 (blk_below (g := gb178) (o := .cells #[.int .i64 x179000_2, .slice Ao85 x179001_2.length co85] 30 (0, 0)) (by (with_reducible repeat (first | refine bN3 ?_ _ | refine bD3 ?_ | refine bA3 ?_ _)); exact BK178.out) hb)
              have n9_ := zA3 (below_step (by repeat (first | (with_reducible first | exact HB.out | apply below_alloc | apply pw_below_drewN | apply below_drew1 | refine below_set ?_ GE165.out | refine below_set ?_ GE166.out | refine below_set ?_ GE167.out | refine below_set ?_ GE174.out | refine below_set ?_ GE178.out) | exact HB.out)) hb)
              have n10_ := zA3 (hbox)
              have n11_ := zA3 ((by rw [hg]; exact (below_size (by repeat (first | (with_reducible first | exact HB.out | apply below_alloc | apply pw_below_drewN | apply below_drew1 | refine below_set ?_ GE165.out | refine below_set ?_ GE166.out | refine below_set ?_ GE167.out | refine below_set ?_ GE174.out | refine below_set ?_ GE178.out) | exact HB.out))) : w.heap.size ≤ gb193))
              have n12_ := zA3 ((by rw [hg]; exact (below_size (by repeat (first | (with_reducible first | exact HB.out | apply below_alloc | apply pw_below_drewN | apply below_drew1 | refine below_set ?_ GE165.out | refine below_set ?_ GE166.out | refine below_set ?_ GE167.out | refine below_set ?_ GE174.out | refine below_set ?_ GE178.out) | exact HB.out))) : w.heap.size ≤ gb193))
              have n13_ := zA3 ((by rw [hg]; exact Nat.ne_of_lt (blk_lt (g := gb165) (o := .cells #[.int .i64 a0_0, .slice A0_1 l0_1.length c0_1] 30 (0, 0)) (by (with_reducible repeat (first | refine bN3 ?_ _ | refine bD3 ?_ | refine bA3 ?_ _)); exact BK165.out)) : gb165 ≠ gb193))
              have n14_ := zA3 ((by rw [hg]; exact Nat.ne_of_gt (blk_lt (g := gb165) (o := .cells #[.int .i64 a0_0, .slice A0_1 l0_1.length c0_1] 30 (0, 0)) (by (with_reducible repeat (first | refine bN3 ?_ _ | refine bD3 ?_ | refine bA3 ?_ _)); exact BK165.out)) : gb193 ≠ gb165))
              have n15_ := zA3 ((by rw [hg]; exact Nat.ne_of_lt (blk_lt (g := gb166) (o := .cells #[.int .i64 a1_0, .int .i64 a1_1, .int .i64 a1_2] 32 (0, 0)) (by (with_reducible repeat (first | refine bN3 ?_ _ | refine bD3 ?_ | refine bA3 ?_ _)); exact BK166.out)) : gb166 ≠ gb193))
              have n16_ := zA3 ((by rw [hg]; exact Nat.ne_of_gt (blk_lt (g := gb166) (o := .cells #[.int .i64 a1_0, .int .i64 a1_1, .int .i64 a1_2] 32 (0, 0)) (by (with_reducible repeat (first | refine bN3 ?_ _ | refine bD3 ?_ | refine bA3 ?_ _)); exact BK166.out)) : gb193 ≠ gb166))
              have n17_ := zA3 ((by rw [hg]; exact Nat.ne_of_lt (blk_lt (g := gb167) (o := .cells #[.slice none 0 0, .slice none 0 0, .int .i64 x168002_2] 89 (0, 0)) (by (with_reducible repeat (first | refine bN3 ?_ _ | refine bD3 ?_ | refine bA3 ?_ _)); exact BK167.out)) : gb167 ≠ gb193))
              have n18_ := zA3 ((by rw [hg]; exact Nat.ne_of_gt (blk_lt (g := gb167) (o := .cells #[.slice none 0 0, .slice none 0 0, .int .i64 x168002_2] 89 (0, 0)) (by (with_reducible repeat (first | refine bN3 ?_ _ | refine bD3 ?_ | refine bA3 ?_ _)); exact BK167.out)) : gb193 ≠ gb167))
              have n19_ := zA3 ((by rw [hg]; exact Nat.ne_of_lt (blk_lt (g := gb174) (o := .cells #[u175000, u175001, .int .i64 x175002_2] 89 (0, 0)) (by (with_reducible repeat (first | refine bN3 ?_ _ | refine bD3 ?_ | refine bA3 ?_ _)); exact BK174.out)) : gb174 ≠ gb193))
              have n20_ := zA3 ((by rw [hg]; exact Nat.ne_of_gt (blk_lt (g := gb174) (o := .cells #[u175000, u175001, .int .i64 x175002_2] 89 (0, 0)) (by (with_reducible repeat (first | refine bN3 ?_ _ | refine bD3 ?_ | refine bA3 ?_ _)); exact BK174.out)) : gb193 ≠ gb174))
              have n21_ := zA3 ((by rw [hg]; exact Nat.ne_of_lt (blk_lt (g := gb178) (o := .cells #[.int .i64 x179000_2, .slice Ao85 x179001_2.length co85] 30 (0, 0)) (by (with_reducible repeat (first | refine bN3 ?_ _ | refine bD3 ?_ | refine bA3 ?_ _)); exact BK178.out)) : gb178 ≠ gb193))
              have n22_ := zA3 ((by rw [hg]; exact Nat.ne_of_gt (blk_lt (g := gb178) (o := .cells #[.int .i64 x179000_2, .slice Ao85 x179001_2.length co85] 30 (0, 0)) (by (with_reducible repeat (first | refine bN3 ?_ _ | refine bD3 ?_ | refine bA3 ?_ _)); exact BK178.out)) : gb193 ≠ gb178))
              clear HO_166001
              clear HO_175000
              clear HO_175001
              clear HO_179001
              clear BK165
              clear BK166
              clear BK167
              clear BK174
              clear BK178
              clear HB
              have HO_166001 := n0_
              have HO_175000 := n1_
              have HO_175001 := n2_
              have HO_179001 := n3_
              have BK165 := n4_
              have BK166 := n5_
              have BK167 := n6_
              have BK174 := n7_
              have BK178 := n8_
              have HB := n9_
              have BK193 := n10_
              have GW193 := n11_
              have GE193 := n12_
              have NB165_193 := n13_
              have NB193_165 := n14_
              have NB166_193 := n15_
              have NB193_166 := n16_
              have NB167_193 := n17_
              have NB193_167 := n18_
              have NB174_193 := n19_
              have NB193_174 := n20_
              have NB178_193 := n21_
              have NB193_178 := n22_
              clear n0_ n1_ n2_ n3_ n4_ n5_ n6_ n7_ n8_ n9_ n10_ n11_ n12_ n13_ n14_ n15_ n16_ n17_ n18_ n19_ n20_ n21_ n22_
              clear hb hbox hg
              refine hK.out _ _ ⟨(blk_cell BK178.out 0).trans rfl, (blk_cell BK178.out 1).trans rfl, ((HB.out.cell (World.block_lt_of_cell? w _ hw187_0)).trans hw187_0)⟩ (fun hHeld => ?_)
              clear hK K
              refine norm_ (a' := ?_) ?_ ?_
              rotate_left
              ·show Act.put _ (some 13) _ = _
               simp only [Act.put, List.setIfInBounds_toArray, List.set_cons_zero, List.set_cons_succ, i64_w, i32_w]
               rfl
              refine one_ (i := 6) (N := some 57) #[true, true, true, true, true, true, true, false, false, false, true, false, false] rfl rfl (one_of HT_.out (by kernel_rfl)) (by decide) (fun K hK => ?_)
              refine goes_ Try.func79 (by kernel_rfl) rfl #[.agg #[.int .i64 x179000_2, .slice Ao85 x179001_2.length co85], .int .i64 t179, .int .i64 (rd l2 x10_2)] (by rfl) rfl rfl (by (try simp only [List.map_toArray, List.map_cons, List.map_nil]); first | done | rfl | (simp only [List.length_drop, List.length_take]; rfl)) ?_
              with_reducible refine (spec_l11Day.calls x179000_2 _ _ x179001_2 t179 (rd l2 x10_2) t188 t189 t192 _ ?side1 ?side2 A69.out).mono ?_
              (case side1 => repeat (first | exact (Kd.V_reads' HO_179001.out).2.2 | (with_reducible refine Kd.C_alloc ?_ _) | (with_reducible refine Kd.C_drewN ?_ _) | (with_reducible refine Kd.C_drew ?_)))
              (case side2 => exact (Kd.V_reads' HO_179001.out).2.1)
              rintro e w89 ⟨v190, rfl, ho0, hb⟩
              refine ⟨_, rfl, ?_⟩
              have n0_ := zA3 (Kd.V_elder' (by (with_reducible repeat (first | apply Kd.V_alloc | apply Kd.V_drewN | apply Kd.V_drew)); exact HO_166001.out) (Kd.R_base ho0) hb)
              have n1_ := zA3 (Kd.R_elder' (by (with_reducible repeat (first | apply Kd.R_alloc | apply Kd.R_drewN | apply Kd.R_drew)); exact HO_175000.out) (Kd.R_base ho0) hb)
              have n2_ := zA3 (Kd.R_elder' (by (with_reducible repeat (first | apply Kd.R_alloc | apply Kd.R_drewN | apply Kd.R_drew)); exact HO_175001.out) (Kd.R_base ho0) hb)
              have n3_ := zA3 (Kd.V_elder' (by (with_reducible repeat (first | apply Kd.V_alloc | apply Kd.V_drewN | apply Kd.V_drew)); exact HO_179001.out) (Kd.R_base ho0) hb)
              have n4_ := zA3 (Kd.R_lower (Kd.R_new' (Kd.R_new' (Kd.R_newM (M := fun k_ => (w.heap.size ≤ k_)) ho0 (below_size (by repeat (first | (with_reducible first | exact HB.out | apply below_alloc | apply pw_below_drewN | apply below_drew1 | refine below_set ?_ GE165.out | refine below_set ?_ GE166.out | refine below_set ?_ GE167.out | refine below_set ?_ GE174.out | refine below_set ?_ GE178.out | refine below_set ?_ GE193.out) | exact HB.out))) (fun k_ h_ => h_)) (Kd.R_lt (by (with_reducible repeat (first | apply Kd.R_alloc | apply Kd.R_drewN | apply Kd.R_drew)); exact HO_175000.out))) (Kd.R_lt (by (with_reducible repeat (first | apply Kd.R_alloc | apply Kd.R_drewN | apply Kd.R_drew)); exact HO_175001.out))) (below_size (by repeat (first | (with_reducible first | exact HB.out | apply below_alloc | apply pw_below_drewN | apply below_drew1 | refine below_set ?_ GE165.out | refine below_set ?_ GE166.out | refine below_set ?_ GE167.out | refine below_set ?_ GE174.out | refine below_set ?_ GE178.out | refine below_set ?_ GE193.out) | exact HB.out))))
              have n5_ := zA3 (blk_below (g := gb165) (o := .cells #[.int .i64 a0_0, .slice A0_1 l0_1.length c0_1] 30 (0, 0)) (by (with_reducible repeat (first | refine bN3 ?_ _ | refine bD3 ?_ | refine bA3 ?_ _)); exact BK165.out) hb)
              have n6_ := zA3 (blk_below (g := gb166) (o := .cells #[.int .i64 a1_0, .int .i64 a1_1, .int .i64 a1_2] 32 (0, 0)) (by (with_reducible repeat (first | refine bN3 ?_ _ | refine bD3 ?_ | refine bA3 ?_ _)); exact BK166.out) hb)
              have n7_ := zA3 (blk_below (g := gb167) (o := .cells #[.slice none 0 0, .slice none 0 0, .int .i64 x168002_2] 89 (0, 0)) (by (with_reducible repeat (first | refine bN3 ?_ _ | refine bD3 ?_ | refine bA3 ?_ _)); exact BK167.out) hb)
              have n8_ := zA3 (blk_below (g := gb174) (o := .cells #[u175000, u175001, .int .i64 x175002_2] 89 (0, 0)) (by (with_reducible repeat (first | refine bN3 ?_ _ | refine bD3 ?_ | refine bA3 ?_ _)); exact BK174.out) hb)
              have n9_ := zA3 (blk_below (g := gb178) (o := .cells #[.int .i64 x179000_2, .slice Ao85 x179001_2.length co85] 30 (0, 0)) (by (with_reducible repeat (first | refine bN3 ?_ _ | refine bD3 ?_ | refine bA3 ?_ _)); exact BK178.out) hb)
              have n10_ := zA3 (blk_below (g := gb193) (o := .cells #[.int .i64 0, .slice none 0 0] 30 (0, 0)) (by (with_reducible repeat (first | refine bN3 ?_ _ | refine bD3 ?_ | refine bA3 ?_ _)); exact BK193.out) hb)
              have n11_ := zA3 (below_step (by repeat (first | (with_reducible first | exact HB.out | apply below_alloc | apply pw_below_drewN | apply below_drew1 | refine below_set ?_ GE165.out | refine below_set ?_ GE166.out | refine below_set ?_ GE167.out | refine below_set ?_ GE174.out | refine below_set ?_ GE178.out | refine below_set ?_ GE193.out) | exact HB.out)) hb)
              clear HO_166001
              clear HO_175000
              clear HO_175001
              clear HO_179001
              clear BK165
              clear BK166
              clear BK167
              clear BK174
              clear BK178
              clear BK193
              clear HB
              have HO_166001 := n0_
              have HO_175000 := n1_
              have HO_175001 := n2_
              have HO_179001 := n3_
              have HO191 := n4_
              have BK165 := n5_
              have BK166 := n6_
              have BK167 := n7_
              have BK174 := n8_
              have BK178 := n9_
              have BK193 := n10_
              have HB := n11_
              clear n0_ n1_ n2_ n3_ n4_ n5_ n6_ n7_ n8_ n9_ n10_ n11_
              (try clear hb)
              (try clear hb2)
              (try clear hk)
              (try clear hi)
              (try clear ho0)
              refine hK.out _ _ ⟨(blk_cell BK178.out 0).trans rfl, (blk_cell BK178.out 1).trans rfl, ((HB.out.cell (World.block_lt_of_cell? w _ hw187_0)).trans hw187_0)⟩ (fun hHeld => ?_)
              clear hK K
              refine norm_ (a' := ?_) ?_ ?_
              rotate_left
              ·show Act.put _ (some 57) _ = _
               simp only [Act.put, List.setIfInBounds_toArray, List.set_cons_zero, List.set_cons_succ, i64_w, i32_w]
               rfl
              refine pure_ (i := 7) (N := some 50) (v := ?_) (a' := ?_) #[true, true, true, true, true, true, true, true, false, false, true, false, false] rfl rfl (any_of HT_.out (by kernel_rfl)) (fun _ _ _ h => h) (Or.inl ⟨by rfl, ?_⟩) ?_ ?_
              rotate_left
              ·intro w'
               go_simp
               with_reducible rfl
              rotate_left
              ·simp only [Act.put, List.setIfInBounds_toArray, List.set_cons_zero, List.set_cons_succ, i64_w, i32_w]
               rfl
              refine pure_ (i := 8) (N := some 58) (v := ?_) (a' := ?_) #[true, true, true, true, true, true, true, true, true, false, true, false, false] rfl rfl (any_of HT_.out (by kernel_rfl)) (fun _ _ _ h => h) (Or.inl ⟨by rfl, ?_⟩) ?_ ?_
              rotate_left
              ·intro w'
               go_simp
               with_reducible rfl
              rotate_left
              ·simp only [Act.put, List.setIfInBounds_toArray, List.set_cons_zero, List.set_cons_succ, i64_w, i32_w]
               rfl
              refine pure_ (i := 9) (N := some 59) (v := ?_) (a' := ?_) #[true, true, true, true, true, true, true, true, true, true, true, false, false] rfl rfl (any_of HT_.out (by kernel_rfl)) (fun _ _ _ h => h) (Or.inl ⟨by rfl, ?_⟩) ?_ ?_
              rotate_left
              ·intro w'
               go_simp
               with_reducible rfl
              rotate_left
              ·simp only [Act.put, List.setIfInBounds_toArray, List.set_cons_zero, List.set_cons_succ, i64_w, i32_w]
               rfl
              exact norm_ (by simp only [putAll, Act.put, List.setIfInBounds_toArray, List.set_cons_zero, List.set_cons_succ]) (hCont (v190, gb193) _ ⟨hHeld, (by (with_reducible repeat (first | apply Kd.R_alloc | apply Kd.R_drewN | apply Kd.R_drew)); exact Kd.R_mono HO191.out (fun _ hk => ⟨hk.1.1.1, ⟨hk.1.2, hk.2⟩⟩)), (by (with_reducible repeat (first | apply Kd.V_alloc | apply Kd.V_drewN | apply Kd.V_drew)); exact Kd.V_mono HO_166001.out (fun _ hk => ⟨hk.1.1.1, ⟨hk.2, ⟨hk.1.1.2.1, ⟨hk.1.1.2.2.1, ⟨hk.1.1.2.2.2.1, ⟨hk.1.1.2.2.2.2.1, ⟨hk.1.1.2.2.2.2.2.1, ⟨hk.1.1.2.2.2.2.2.2.1, ⟨hk.1.1.2.2.2.2.2.2.2, hk.1.2⟩⟩⟩⟩⟩⟩⟩⟩⟩)), (by (with_reducible repeat (first | apply Kd.R_alloc | apply Kd.R_drewN | apply Kd.R_drew)); exact Kd.R_mono HO_175000.out (fun _ hk => ⟨hk.1.1, ⟨hk.2, hk.1.2⟩⟩)), (by (with_reducible repeat (first | apply Kd.R_alloc | apply Kd.R_drewN | apply Kd.R_drew)); exact Kd.R_mono HO_175001.out (fun _ hk => ⟨hk.1.1, ⟨hk.2, hk.1.2⟩⟩)), (by (with_reducible repeat (first | apply Kd.V_alloc | apply Kd.V_drewN | apply Kd.V_drew)); exact Kd.V_mono HO_179001.out (fun _ hk => ⟨hk.1.1.1, ⟨hk.2, ⟨hk.1.1.2.1, ⟨hk.1.1.2.2.1, ⟨hk.1.1.2.2.2.1, ⟨hk.1.1.2.2.2.2.1, ⟨hk.1.1.2.2.2.2.2.1, ⟨hk.1.1.2.2.2.2.2.2.1, ⟨hk.1.1.2.2.2.2.2.2.2, hk.1.2⟩⟩⟩⟩⟩⟩⟩⟩⟩)), (by (with_reducible repeat (first | refine bN3 ?_ _ | refine bD3 ?_ | refine bA3 ?_ _)); exact BK165.out), (by (with_reducible repeat (first | refine bN3 ?_ _ | refine bD3 ?_ | refine bA3 ?_ _)); exact BK166.out), (by (with_reducible repeat (first | refine bN3 ?_ _ | refine bD3 ?_ | refine bA3 ?_ _)); exact BK167.out), (by (with_reducible repeat (first | refine bN3 ?_ _ | refine bD3 ?_ | refine bA3 ?_ _)); exact BK174.out), (by (with_reducible repeat (first | refine bN3 ?_ _ | refine bD3 ?_ | refine bA3 ?_ _)); exact BK178.out), (by (with_reducible repeat (first | refine bN3 ?_ _ | refine bD3 ?_ | refine bA3 ?_ _)); exact BK193.out), GW193.out, GE193.out, NB165_193.out, NB193_165.out, NB166_193.out, NB193_166.out, NB167_193.out, NB193_167.out, NB174_193.out, NB193_174.out, NB178_193.out, NB193_178.out, (by repeat (first | (with_reducible first | exact HB.out | apply below_alloc | apply pw_below_drewN | apply below_drew1 | refine below_set ?_ GE165.out | refine below_set ?_ GE166.out | refine below_set ?_ GE167.out | refine below_set ?_ GE174.out | refine below_set ?_ GE178.out | refine below_set ?_ GE193.out) | exact HB.out))⟩)
            rintro ⟨v190, gb193⟩ w90 ⟨hS_, h0_, h1_, h2_, h3_, h4_, h5_, h6_, h7_, h8_, h9_, h10_, h11_, h12_, h13_, h14_, h15_, h16_, h17_, h18_, h19_, h20_, h21_, h22_, h23_⟩
            have n0_ : Aside0 (Kd.R (Kd.int .i64) 3 w90 w.heap.size (fun k_ => (w.heap.size ≤ k_) ∧ some k_ ≠ (u175000 : Value).ownBlock ∧ some k_ ≠ (u175001 : Value).ownBlock) v190 t189) := ⟨h0_⟩
            have n1_ : Aside0 (Kd.V (Kd.int .i64) 3 w90 w.heap.size (fun k_ => (P0_1_ k_ ∨ w.heap.size ≤ k_) ∧ some k_ ≠ (v190 : Value).ownBlock ∧ some k_ ≠ (u175000 : Value).ownBlock ∧ some k_ ≠ (u175001 : Value).ownBlock ∧ k_ ≠ gb165 ∧ k_ ≠ gb166 ∧ k_ ≠ gb167 ∧ k_ ≠ gb174 ∧ k_ ≠ gb178 ∧ k_ ≠ gb193) (.slice A0_1 l0_1.length c0_1) l0_1) := ⟨h1_⟩
            have n2_ : Aside0 (Kd.R (Kd.int .i64) 3 w90 w.heap.size (fun k_ => (w.heap.size ≤ k_) ∧ some k_ ≠ (v190 : Value).ownBlock ∧ some k_ ≠ (u175001 : Value).ownBlock) u175000 x175000_2) := ⟨h2_⟩
            have n3_ : Aside0 (Kd.R (Kd.int .i64) 3 w90 w.heap.size (fun k_ => (w.heap.size ≤ k_) ∧ some k_ ≠ (v190 : Value).ownBlock ∧ some k_ ≠ (u175000 : Value).ownBlock) u175001 x175001_2) := ⟨h3_⟩
            have n4_ : Aside0 (Kd.V (Kd.int .i64) 3 w90 w.heap.size (fun k_ => (P0_1_ k_ ∨ w.heap.size ≤ k_) ∧ some k_ ≠ (v190 : Value).ownBlock ∧ some k_ ≠ (u175000 : Value).ownBlock ∧ some k_ ≠ (u175001 : Value).ownBlock ∧ k_ ≠ gb165 ∧ k_ ≠ gb166 ∧ k_ ≠ gb167 ∧ k_ ≠ gb174 ∧ k_ ≠ gb178 ∧ k_ ≠ gb193) (.slice Ao85 x179001_2.length co85) x179001_2) := ⟨h4_⟩
            have n5_ : Aside0 (w90.heap[gb165]? = some (.cells #[.int .i64 a0_0, .slice A0_1 l0_1.length c0_1] 30 (0, 0))) := ⟨h5_⟩
            have n6_ : Aside0 (w90.heap[gb166]? = some (.cells #[.int .i64 a1_0, .int .i64 a1_1, .int .i64 a1_2] 32 (0, 0))) := ⟨h6_⟩
            have n7_ : Aside0 (w90.heap[gb167]? = some (.cells #[.slice none 0 0, .slice none 0 0, .int .i64 x168002_2] 89 (0, 0))) := ⟨h7_⟩
            have n8_ : Aside0 (w90.heap[gb174]? = some (.cells #[u175000, u175001, .int .i64 x175002_2] 89 (0, 0))) := ⟨h8_⟩
            have n9_ : Aside0 (w90.heap[gb178]? = some (.cells #[.int .i64 x179000_2, .slice Ao85 x179001_2.length co85] 30 (0, 0))) := ⟨h9_⟩
            have n10_ : Aside0 (w90.heap[gb193]? = some (.cells #[.int .i64 0, .slice none 0 0] 30 (0, 0))) := ⟨h10_⟩
            have n11_ : Aside0 (w.heap.size ≤ gb193) := ⟨h11_⟩
            have n12_ : Aside0 (w.heap.size ≤ gb193) := ⟨h12_⟩
            have n13_ : Aside0 (gb165 ≠ gb193) := ⟨h13_⟩
            have n14_ : Aside0 (gb193 ≠ gb165) := ⟨h14_⟩
            have n15_ : Aside0 (gb166 ≠ gb193) := ⟨h15_⟩
            have n16_ : Aside0 (gb193 ≠ gb166) := ⟨h16_⟩
            have n17_ : Aside0 (gb167 ≠ gb193) := ⟨h17_⟩
            have n18_ : Aside0 (gb193 ≠ gb167) := ⟨h18_⟩
            have n19_ : Aside0 (gb174 ≠ gb193) := ⟨h19_⟩
            have n20_ : Aside0 (gb193 ≠ gb174) := ⟨h20_⟩
            have n21_ : Aside0 (gb178 ≠ gb193) := ⟨h21_⟩
            have n22_ : Aside0 (gb193 ≠ gb178) := ⟨h22_⟩
            have n23_ : Aside0 (Below w.heap.size w w90) := ⟨h23_⟩
            clear HO_166001
            clear HO_175000
            clear HO_175001
            clear HO_179001
            clear BK165
            clear BK166
            clear BK167
            clear BK174
            clear BK178
            clear HB
            clear h0_ h1_ h2_ h3_ h4_ h5_ h6_ h7_ h8_ h9_ h10_ h11_ h12_ h13_ h14_ h15_ h16_ h17_ h18_ h19_ h20_ h21_ h22_ h23_
            have HO191 := n0_
            have HO_166001 := n1_
            have HO_175000 := n2_
            have HO_175001 := n3_
            have HO_179001 := n4_
            have BK165 := n5_
            have BK166 := n6_
            have BK167 := n7_
            have BK174 := n8_
            have BK178 := n9_
            have BK193 := n10_
            have GW193 := n11_
            have GE193 := n12_
            have NB165_193 := n13_
            have NB193_165 := n14_
            have NB166_193 := n15_
            have NB193_166 := n16_
            have NB167_193 := n17_
            have NB193_167 := n18_
            have NB174_193 := n19_
            have NB193_174 := n20_
            have NB178_193 := n21_
            have NB193_178 := n22_
            have HB := n23_
            clear n0_ n1_ n2_ n3_ n4_ n5_ n6_ n7_ n8_ n9_ n10_ n11_ n12_ n13_ n14_ n15_ n16_ n17_ n18_ n19_ n20_ n21_ n22_ n23_
            have hHeld : w90.cell? ⟨gb178, 0, none⟩ = some (.int .i64 x179000_2) ∧ w90.cell? ⟨gb178, 1, none⟩ = some (.slice Ao85 x179001_2.length co85) ∧ w90.cell? (ad187.add (x10_2).toNat) = some (.int .i64 (rd l2 x10_2)) := hS_
            obtain ⟨Ao92, co92, eo92⟩ := Kd.R_slice HO191.out
            (first | subst eo92 | (injection eo92 with f1_ f2_ f3_; have f4_ := f1_.symm; have f5_ := f3_.symm; clear f1_ f2_ f3_; subst f4_; subst f5_))
            refine norm_ (a' := ?_) ?_ ?_
            rotate_left
            ·simp only [putAll, Act.put, List.setIfInBounds_toArray, List.set_cons_zero, List.set_cons_succ]
             rfl
            refine one_ (i := 11) (N := none) #[true, true, true, true, true, true, true, true, true, true, true, true, false] rfl rfl (one_of HT_.out (by kernel_rfl)) (by decide) (fun K hK => ?_)
            have hs91 : w90.cell? ⟨gb193, 0, none⟩ = some (.int .i64 0) := (blk_cell BK193.out 0).trans rfl
            have hfs91 := blk_frozen BK193.out 0
            have hns91_0 := NB165_193.out
            have hns91_1 := NB166_193.out
            have hns91_2 := NB167_193.out
            have hns91_3 := NB174_193.out
            have hns91_4 := NB178_193.out
            have hms91_0 := NB193_165.out
            have hms91_1 := NB193_166.out
            have hms91_2 := NB193_167.out
            have hms91_3 := NB193_174.out
            have hms91_4 := NB193_178.out
            have hs93 : w90.cell? ⟨gb193, 1, none⟩ = some (.slice none 0 0) := (blk_cell BK193.out 1).trans rfl
            have hfs93 := blk_frozen BK193.out 1
            have hns93_0 := NB165_193.out
            have hns93_1 := NB166_193.out
            have hns93_2 := NB167_193.out
            have hns93_3 := NB174_193.out
            have hns93_4 := NB178_193.out
            have hms93_0 := NB193_165.out
            have hms93_1 := NB193_166.out
            have hms93_2 := NB193_167.out
            have hms93_3 := NB193_174.out
            have hms93_4 := NB193_178.out
            refine skip_ (w1 := ?_) (by rfl) rfl ?_ ?_
            rotate_left
            ·go_simp
             rfl
            refine hK.out _ _ ⟨((cell_far (p := ⟨gb193, _, none⟩) NB178_193.out _).trans (((cell_far (p := ⟨gb193, _, none⟩) NB178_193.out _).trans (hHeld.1)))), ((cell_far (p := ⟨gb193, _, none⟩) NB178_193.out _).trans (((cell_far (p := ⟨gb193, _, none⟩) NB178_193.out _).trans (hHeld.2.1)))), ((cell_far (p := ⟨gb193, _, none⟩) (by first | exact Nat.ne_of_lt (Nat.lt_of_lt_of_le (by have := World.block_lt_of_cell? _ _ hw187_0; first | rwa [add_block] at this | exact this) GW193.out) | (rw [add_block]; exact Nat.ne_of_lt (Nat.lt_of_lt_of_le (by have := World.block_lt_of_cell? _ _ hw187_0; first | rwa [add_block] at this | exact this) GW193.out)) | (show (Addr.add _ _).block ≠ _; rw [add_block]; exact Nat.ne_of_lt (Nat.lt_of_lt_of_le (by have := World.block_lt_of_cell? _ _ hw187_0; first | rwa [add_block] at this | exact this) GW193.out)) | (dsimp only; exact Nat.ne_of_lt (Nat.lt_of_lt_of_le (by have := World.block_lt_of_cell? _ _ hw187_0; first | rwa [add_block] at this | exact this) GW193.out))) _).trans (((cell_far (p := ⟨gb193, _, none⟩) (by first | exact Nat.ne_of_lt (Nat.lt_of_lt_of_le (by have := World.block_lt_of_cell? _ _ hw187_0; first | rwa [add_block] at this | exact this) GW193.out) | (rw [add_block]; exact Nat.ne_of_lt (Nat.lt_of_lt_of_le (by have := World.block_lt_of_cell? _ _ hw187_0; first | rwa [add_block] at this | exact this) GW193.out)) | (show (Addr.add _ _).block ≠ _; rw [add_block]; exact Nat.ne_of_lt (Nat.lt_of_lt_of_le (by have := World.block_lt_of_cell? _ _ hw187_0; first | rwa [add_block] at this | exact this) GW193.out)) | (dsimp only; exact Nat.ne_of_lt (Nat.lt_of_lt_of_le (by have := World.block_lt_of_cell? _ _ hw187_0; first | rwa [add_block] at this | exact this) GW193.out))) _).trans (hHeld.2.2))))⟩ (fun hHeld => ?_)
            clear hK K
            refine pure_ (i := 12) (N := some 14) (v := ?_) (a' := ?_) #[true, true, true, true, true, true, true, true, true, true, true, true, true] rfl rfl (any_of HT_.out (by kernel_rfl)) (fun _ _ _ h => h) (Or.inl ⟨by rfl, ?_⟩) ?_ ?_
            rotate_left
            ·intro w'
             go_simp
             with_reducible rfl
            rotate_left
            ·simp only [Act.put, List.setIfInBounds_toArray, List.set_cons_zero, List.set_cons_succ, i64_w, i32_w]
             rfl
            refine done_ (done_of HT_.out (by kernel_rfl)) ?_
            have hnb94 := NB193_165.out
            have hnc94 := NB165_193.out
            have hnb95 := NB193_166.out
            have hnc95 := NB166_193.out
            have hnb96 := NB193_167.out
            have hnc96 := NB167_193.out
            have hnb97 := NB193_174.out
            have hnc97 := NB174_193.out
            have hnb98 := NB193_178.out
            have hnc98 := NB178_193.out
            have hcz99_0 : w90.cell? ⟨gb193, 0, none⟩ = some (.int .i64 0) := (blk_cell BK193.out 0).trans rfl
            have hcz99_1 : w90.cell? ⟨gb193, 1, none⟩ = some (.slice none 0 0) := (blk_cell BK193.out 1).trans rfl
            have hfz99_0 := blk_frozen BK193.out 0
            have hfz99_1 := blk_frozen BK193.out 1
            try go_wp2_with (first | ((with_reducible refine gate_callee (f := 77) rfl ?_); refine goesL_ (some 61) rfl rfl Try.func77 (by kernel_rfl) rfl #[.agg #[.int .i64 t188, .slice Ao92 t189.length co92]] rfl (by (try simp only [List.map_toArray, List.map_cons, List.map_nil]); first | done | rfl | (simp only [List.length_drop, List.length_take]; rfl)) ?_; (with_reducible refine (spec_l11Flow.calls k2 t188 _ _ t189 true _ ?side1 ?side2 A70.out).mono ?_); (case side1 => refine (Kd.R_reads' (e := 3) (base := w.heap.size) (ok := fun k_ => ((w.heap.size ≤ k_) ∧ (some k_ ≠ (u175000 : Value).ownBlock ∧ some k_ ≠ (u175001 : Value).ownBlock))) (n := t189.length) (c := co92) ?_).2.2; exact (by (with_reducible repeat (first | apply Kd.R_alloc | apply Kd.R_drewN | apply Kd.R_drew)); exact (Kd.R_mono (Kd.R_far (p := ⟨gb193, 1, none⟩) (Kd.R_far (p := ⟨gb193, 0, none⟩) (Kd.R_types HO191.out BK193.out (by decide)) (fun _ hk => hk.2) (.int .i64 t188)) (fun _ hk => hk.2) (.slice Ao92 t189.length co92)) (fun _ h_ => h_.1)))); (case side2 => exact (Kd.R_reads' HO191.out).2.1); rintro e w100 ⟨rfl, hb⟩; refine ⟨_, rfl, ?_⟩; have n0_ := zA3 (Kd.V_below (by (with_reducible repeat (first | apply Kd.V_alloc | apply Kd.V_drewN | apply Kd.V_drew)); exact (Kd.V_mono (Kd.V_far (p := ⟨gb193, 1, none⟩) (Kd.V_far (p := ⟨gb193, 0, none⟩) (Kd.V_mono HO_166001.out (fun k_ hk => (⟨hk, hk.2.2.2.2.2.2.2.2.2⟩ : _ ∧ k_ ≠ gb193))) (fun _ hk => hk.2) (.int .i64 t188)) (fun _ hk => hk.2) (.slice Ao92 t189.length co92)) (fun _ h_ => h_.1))) hb); have n1_ := zA3 (Kd.R_below (by (with_reducible repeat (first | apply Kd.R_alloc | apply Kd.R_drewN | apply Kd.R_drew)); exact (Kd.R_mono (Kd.R_far (p := ⟨gb193, 1, none⟩) (Kd.R_far (p := ⟨gb193, 0, none⟩) (Kd.R_types HO_175000.out BK193.out (by decide)) (fun _ hk => hk.2) (.int .i64 t188)) (fun _ hk => hk.2) (.slice Ao92 t189.length co92)) (fun _ h_ => h_.1))) hb); have n2_ := zA3 (Kd.R_below (by (with_reducible repeat (first | apply Kd.R_alloc | apply Kd.R_drewN | apply Kd.R_drew)); exact (Kd.R_mono (Kd.R_far (p := ⟨gb193, 1, none⟩) (Kd.R_far (p := ⟨gb193, 0, none⟩) (Kd.R_types HO_175001.out BK193.out (by decide)) (fun _ hk => hk.2) (.int .i64 t188)) (fun _ hk => hk.2) (.slice Ao92 t189.length co92)) (fun _ h_ => h_.1))) hb); have n3_ := zA3 (Kd.V_below (by (with_reducible repeat (first | apply Kd.V_alloc | apply Kd.V_drewN | apply Kd.V_drew)); exact (Kd.V_mono (Kd.V_far (p := ⟨gb193, 1, none⟩) (Kd.V_far (p := ⟨gb193, 0, none⟩) (Kd.V_mono HO_179001.out (fun k_ hk => (⟨hk, hk.2.2.2.2.2.2.2.2.2⟩ : _ ∧ k_ ≠ gb193))) (fun _ hk => hk.2) (.int .i64 t188)) (fun _ hk => hk.2) (.slice Ao92 t189.length co92)) (fun _ h_ => h_.1))) hb); have n4_ := zA3 (Kd.R_below (by (with_reducible repeat (first | apply Kd.R_alloc | apply Kd.R_drewN | apply Kd.R_drew)); exact (Kd.R_mono (Kd.R_far (p := ⟨gb193, 1, none⟩) (Kd.R_far (p := ⟨gb193, 0, none⟩) (Kd.R_types HO191.out BK193.out (by decide)) (fun _ hk => hk.2) (.int .i64 t188)) (fun _ hk => hk.2) (.slice Ao92 t189.length co92)) (fun _ h_ => h_.1))) hb); have n5_ := zA3 (blk_below (g := gb165) (o := .cells #[.int .i64 a0_0, .slice A0_1 l0_1.length c0_1] 30 (0, 0)) (by (with_reducible repeat (first | refine bN3 ?_ _ | refine bD3 ?_ | refine bA3 ?_ _)); refine blk_far ?_ NB165_193.out _; (with_reducible repeat (first | refine bN3 ?_ _ | refine bD3 ?_ | refine bA3 ?_ _)); refine blk_far ?_ NB165_193.out _; (with_reducible repeat (first | refine bN3 ?_ _ | refine bD3 ?_ | refine bA3 ?_ _)); exact BK165.out) hb); have n6_ := zA3 (blk_below (g := gb166) (o := .cells #[.int .i64 a1_0, .int .i64 a1_1, .int .i64 a1_2] 32 (0, 0)) (by (with_reducible repeat (first | refine bN3 ?_ _ | refine bD3 ?_ | refine bA3 ?_ _)); refine blk_far ?_ NB166_193.out _; (with_reducible repeat (first | refine bN3 ?_ _ | refine bD3 ?_ | refine bA3 ?_ _)); refine blk_far ?_ NB166_193.out _; (with_reducible repeat (first | refine bN3 ?_ _ | refine bD3 ?_ | refine bA3 ?_ _)); exact BK166.out) hb); have n7_ := zA3 (blk_below (g := gb167) (o := .cells #[.slice none 0 0, .slice none 0 0, .int .i64 x168002_2] 89 (0, 0)) (by (with_reducible repeat (first | refine bN3 ?_ _ | refine bD3 ?_ | refine bA3 ?_ _)); refine blk_far ?_ NB167_193.out _; (with_reducible repeat (first | refine bN3 ?_ _ | refine bD3 ?_ | refine bA3 ?_ _)); refine blk_far ?_ NB167_193.out _; (with_reducible repeat (first | refine bN3 ?_ _ | refine bD3 ?_ | refine bA3 ?_ _)); exact BK167.out) hb); have n8_ := zA3 (blk_below (g := gb174) (o := .cells #[u175000, u175001, .int .i64 x175002_2] 89 (0, 0)) (by (with_reducible repeat (first | refine bN3 ?_ _ | refine bD3 ?_ | refine bA3 ?_ _)); refine blk_far ?_ NB174_193.out _; (with_reducible repeat (first | refine bN3 ?_ _ | refine bD3 ?_ | refine bA3 ?_ _)); refine blk_far ?_ NB174_193.out _; (with_reducible repeat (first | refine bN3 ?_ _ | refine bD3 ?_ | refine bA3 ?_ _)); exact BK174.out) hb); have n9_ := zA3 (blk_below (g := gb178) (o := .cells #[.int .i64 x179000_2, .slice Ao85 x179001_2.length co85] 30 (0, 0)) (by (with_reducible repeat (first | refine bN3 ?_ _ | refine bD3 ?_ | refine bA3 ?_ _)); refine blk_far ?_ NB178_193.out _; (with_reducible repeat (first | refine bN3 ?_ _ | refine bD3 ?_ | refine bA3 ?_ _)); refine blk_far ?_ NB178_193.out _; (with_reducible repeat (first | refine bN3 ?_ _ | refine bD3 ?_ | refine bA3 ?_ _)); exact BK178.out) hb); have n10_ := zA3 (blk_below (g := gb193) (o := .cells #[.int .i64 t188, .slice Ao92 t189.length co92] 30 (0, 0)) (by (with_reducible repeat (first | refine bN3 ?_ _ | refine bD3 ?_ | refine bA3 ?_ _)); refine blk_put (cs := #[.int .i64 t188, .slice none 0 0]) ?_ 1 _ rfl; (with_reducible repeat (first | refine bN3 ?_ _ | refine bD3 ?_ | refine bA3 ?_ _)); refine blk_put (cs := #[.int .i64 0, .slice none 0 0]) ?_ 0 _ rfl; (with_reducible repeat (first | refine bN3 ?_ _ | refine bD3 ?_ | refine bA3 ?_ _)); exact BK193.out) hb); have n11_ := zA3 (below_step (by repeat (first | (with_reducible first | exact HB.out | apply below_alloc | apply pw_below_drewN | apply below_drew1 | refine below_set ?_ GE165.out | refine below_set ?_ GE166.out | refine below_set ?_ GE167.out | refine below_set ?_ GE174.out | refine below_set ?_ GE178.out | refine below_set ?_ GE193.out) | exact HB.out)) hb); clear HO_166001; clear HO_175000; clear HO_175001; clear HO_179001; clear HO191; clear BK165; clear BK166; clear BK167; clear BK174; clear BK178; clear BK193; clear HB; have HO_166001 := n0_; have HO_175000 := n1_; have HO_175001 := n2_; have HO_179001 := n3_; have HO191 := n4_; have BK165 := n5_; have BK166 := n6_; have BK167 := n7_; have BK174 := n8_; have BK178 := n9_; have BK193 := n10_; have HB := n11_; clear n0_ n1_ n2_ n3_ n4_ n5_ n6_ n7_ n8_ n9_ n10_ n11_; (try clear hb); (try clear hb2); (try clear hk); (try clear hi); have hnb101 := NB174_165.out; have hnc101 := NB165_174.out; have hnb102 := NB174_167.out; have hnc102 := NB167_174.out; have hcz103_0 : w100.cell? ⟨gb174, 0, none⟩ = some (u175000) := (blk_cell BK174.out 0).trans rfl; have hcz103_1 : w100.cell? ⟨gb174, 1, none⟩ = some (u175001) := (blk_cell BK174.out 1).trans rfl; have hcz103_2 : w100.cell? ⟨gb174, 2, none⟩ = some (.int .i64 x175002_2) := (blk_cell BK174.out 2).trans rfl; have hfz103_0 := blk_frozen BK174.out 0; have hfz103_1 := blk_frozen BK174.out 1; have hfz103_2 := blk_frozen BK174.out 2) | ((with_reducible refine gate_builtin (b := .append) (xs := #[.tmp 67, .tmp 69]) rfl ?_); at_builtin; refine Kd.R_append (Kd.int .i64) (w0 := w) w.heap.size rfl (.tmp 67) (.tmp 69) 22 3 (.int .i64 0) 8 rfl Try.underlying22 info3 rfl (by decide) (by omega) u175000 x175000_2 t179 [.int .i64 t179] (fun k_ => (w.heap.size ≤ k_) ∧ some k_ ≠ (u175001 : Value).ownBlock ∧ some k_ ≠ (.slice Ao92 t189.length co92 : Value).ownBlock) (fun _ => False) rfl rfl ?aP (fun _ hk => hk.elim) ?aF ?aO ?aB ?aS ?aL ?_; (case aP => exact rfl); (case aB => exact (by repeat (first | (with_reducible first | exact HB.out | apply below_alloc | apply pw_below_drewN | apply below_drew1 | refine below_set ?_ GE165.out | refine below_set ?_ GE166.out | refine below_set ?_ GE167.out | refine below_set ?_ GE174.out | refine below_set ?_ GE178.out | refine below_set ?_ GE193.out) | exact HB.out))); (case aF => exact (fun k_ hk => ⟨(Nat.le_trans (below_size (by repeat (first | (with_reducible first | exact HB.out | apply below_alloc | apply pw_below_drewN | apply below_drew1 | refine below_set ?_ GE165.out | refine below_set ?_ GE166.out | refine below_set ?_ GE167.out | refine below_set ?_ GE174.out | refine below_set ?_ GE178.out | refine below_set ?_ GE193.out) | exact HB.out))) hk), Kd.fresh' (Kd.R_lt (by (with_reducible repeat (first | apply Kd.R_alloc | apply Kd.R_drewN | apply Kd.R_drew)); exact HO_175001.out)) k_ hk, Kd.fresh' (Kd.R_lt (by (with_reducible repeat (first | apply Kd.R_alloc | apply Kd.R_drewN | apply Kd.R_drew)); exact HO191.out)) k_ hk⟩)); (case aO => exact (by (with_reducible repeat (first | apply Kd.R_alloc | apply Kd.R_drewN | apply Kd.R_drew)); exact Kd.R_mono HO_175000.out (fun _ hk => ⟨hk.1, ⟨hk.2.2, hk.2.1⟩⟩))); (case aS => exact (below_size (by repeat (first | (with_reducible first | exact HB.out | apply below_alloc | apply pw_below_drewN | apply below_drew1 | refine below_set ?_ GE165.out | refine below_set ?_ GE166.out | refine below_set ?_ GE167.out | refine below_set ?_ GE174.out | refine below_set ?_ GE178.out | refine below_set ?_ GE193.out) | exact HB.out)))); (case aL => have := LMc72.out; omega); intro v196 w104 ho hb hg hat; rw [← Ny195.out] at ho; have n0_ := zA3 (Kd.V_afterv (ok := (fun k_ => (P0_1_ k_ ∨ w.heap.size ≤ k_) ∧ some k_ ≠ (u175001 : Value).ownBlock ∧ some k_ ≠ (.slice Ao92 t189.length co92 : Value).ownBlock ∧ k_ ≠ gb165 ∧ k_ ≠ gb166 ∧ k_ ≠ gb167 ∧ k_ ≠ gb174 ∧ k_ ≠ gb178 ∧ k_ ≠ gb193)) (by (with_reducible repeat (first | apply Kd.V_alloc | apply Kd.V_drewN | apply Kd.V_drew)); exact Kd.V_mono HO_166001.out (fun _ hk => ⟨⟨hk.1, ⟨hk.2.2.2.1, ⟨hk.2.1, ⟨hk.2.2.2.2.1, ⟨hk.2.2.2.2.2.1, ⟨hk.2.2.2.2.2.2.1, ⟨hk.2.2.2.2.2.2.2.1, ⟨hk.2.2.2.2.2.2.2.2.1, hk.2.2.2.2.2.2.2.2.2⟩⟩⟩⟩⟩⟩⟩⟩, hk.2.2.1⟩)) hg hat); have n1_ := zA3 (Kd.R_after (ok := (fun k_ => (w.heap.size ≤ k_) ∧ some k_ ≠ (.slice Ao92 t189.length co92 : Value).ownBlock)) (by (with_reducible repeat (first | apply Kd.R_alloc | apply Kd.R_drewN | apply Kd.R_drew)); exact Kd.R_mono HO_175001.out (fun _ hk => ⟨⟨hk.1, hk.2.1⟩, hk.2.2⟩)) hg hat); have n2_ := zA3 (Kd.V_afterv (ok := (fun k_ => (P0_1_ k_ ∨ w.heap.size ≤ k_) ∧ some k_ ≠ (u175001 : Value).ownBlock ∧ some k_ ≠ (.slice Ao92 t189.length co92 : Value).ownBlock ∧ k_ ≠ gb165 ∧ k_ ≠ gb166 ∧ k_ ≠ gb167 ∧ k_ ≠ gb174 ∧ k_ ≠ gb178 ∧ k_ ≠ gb193)) (by (with_reducible repeat (first | apply Kd.V_alloc | apply Kd.V_drewN | apply Kd.V_drew)); exact Kd.V_mono HO_179001.out (fun _ hk => ⟨⟨hk.1, ⟨hk.2.2.2.1, ⟨hk.2.1, ⟨hk.2.2.2.2.1, ⟨hk.2.2.2.2.2.1, ⟨hk.2.2.2.2.2.2.1, ⟨hk.2.2.2.2.2.2.2.1, ⟨hk.2.2.2.2.2.2.2.2.1, hk.2.2.2.2.2.2.2.2.2⟩⟩⟩⟩⟩⟩⟩⟩, hk.2.2.1⟩)) hg hat); have n3_ := zA3 (blk_grown (g := gb165) (o := .cells #[.int .i64 a0_0, .slice A0_1 l0_1.length c0_1] 30 (0, 0)) (by (with_reducible repeat (first | refine bN3 ?_ _ | refine bD3 ?_ | refine bA3 ?_ _)); exact BK165.out) hg (Kd.R_ne HO_175000.out BK165.out (by decide))); have n4_ := zA3 (blk_grown (g := gb166) (o := .cells #[.int .i64 a1_0, .int .i64 a1_1, .int .i64 a1_2] 32 (0, 0)) (by (with_reducible repeat (first | refine bN3 ?_ _ | refine bD3 ?_ | refine bA3 ?_ _)); exact BK166.out) hg (Kd.R_ne HO_175000.out BK166.out (by decide))); have n5_ := zA3 (blk_grown (g := gb167) (o := .cells #[.slice none 0 0, .slice none 0 0, .int .i64 x168002_2] 89 (0, 0)) (by (with_reducible repeat (first | refine bN3 ?_ _ | refine bD3 ?_ | refine bA3 ?_ _)); exact BK167.out) hg (Kd.R_ne HO_175000.out BK167.out (by decide))); have n6_ := zA3 (blk_grown (g := gb174) (o := .cells #[u175000, u175001, .int .i64 x175002_2] 89 (0, 0)) (by (with_reducible repeat (first | refine bN3 ?_ _ | refine bD3 ?_ | refine bA3 ?_ _)); exact BK174.out) hg (Kd.R_ne HO_175000.out BK174.out (by decide))); have n7_ := zA3 (blk_grown (g := gb178) (o := .cells #[.int .i64 x179000_2, .slice Ao85 x179001_2.length co85] 30 (0, 0)) (by (with_reducible repeat (first | refine bN3 ?_ _ | refine bD3 ?_ | refine bA3 ?_ _)); exact BK178.out) hg (Kd.R_ne HO_175000.out BK178.out (by decide))); have n8_ := zA3 (Kd.R_after (ok := (fun k_ => (w.heap.size ≤ k_) ∧ some k_ ≠ (u175001 : Value).ownBlock)) (by (with_reducible repeat (first | apply Kd.R_alloc | apply Kd.R_drewN | apply Kd.R_drew)); exact Kd.R_mono HO191.out (fun _ hk => ⟨⟨hk.1, hk.2.2⟩, hk.2.1⟩)) hg hat); have n9_ := zA3 (blk_grown (g := gb193) (o := .cells #[.int .i64 t188, .slice Ao92 t189.length co92] 30 (0, 0)) (by (with_reducible repeat (first | refine bN3 ?_ _ | refine bD3 ?_ | refine bA3 ?_ _)); exact BK193.out) hg (Kd.R_ne HO_175000.out BK193.out (by decide))); have n10_ := zA3 (hb); have n11_ := zA3 (ho); clear HO_166001; clear HO_175001; clear HO_179001; clear BK165; clear BK166; clear BK167; clear BK174; clear BK178; clear HO191; clear BK193; clear HB; clear HO_175000; have HO_166001 := n0_; have HO_175001 := n1_; have HO_179001 := n2_; have BK165 := n3_; have BK166 := n4_; have BK167 := n5_; have BK174 := n6_; have BK178 := n7_; have HO191 := n8_; have BK193 := n9_; have HB := n10_; have HO197 := n11_; clear n0_ n1_ n2_ n3_ n4_ n5_ n6_ n7_ n8_ n9_ n10_ n11_; clear ho hb hg hat; obtain ⟨Ao105, co105, eo105⟩ := Kd.R_slice HO197.out; subst eo105; have hcz106_0 : w104.cell? ⟨gb174, 0, none⟩ = some (u175000) := (blk_cell BK174.out 0).trans rfl; have hcz106_1 : w104.cell? ⟨gb174, 1, none⟩ = some (u175001) := (blk_cell BK174.out 1).trans rfl; have hcz106_2 : w104.cell? ⟨gb174, 2, none⟩ = some (.int .i64 x175002_2) := (blk_cell BK174.out 2).trans rfl; have hfz106_0 := blk_frozen BK174.out 0; have hfz106_1 := blk_frozen BK174.out 1; have hfz106_2 := blk_frozen BK174.out 2; have hcz107_0 : w104.cell? ⟨gb193, 0, none⟩ = some (.int .i64 t188) := (blk_cell BK193.out 0).trans rfl; have hcz107_1 : w104.cell? ⟨gb193, 1, none⟩ = some (.slice Ao92 t189.length co92) := (blk_cell BK193.out 1).trans rfl; have hfz107_0 := blk_frozen BK193.out 0; have hfz107_1 := blk_frozen BK193.out 1) | ((with_reducible refine gate_builtin (b := .append) (xs := #[.tmp 73, .tmp 76]) rfl ?_); at_builtin; refine Kd.R_append (Kd.int .i64) (w0 := w) w.heap.size rfl (.tmp 73) (.tmp 76) 22 3 (.int .i64 0) 8 rfl Try.underlying22 info3 rfl (by decide) (by omega) u175001 x175001_2 t188 [.int .i64 t188] (fun k_ => (w.heap.size ≤ k_) ∧ some k_ ≠ (.slice Ao92 t189.length co92 : Value).ownBlock ∧ some k_ ≠ (.slice Ao105 y195.length co105 : Value).ownBlock) (fun _ => False) rfl (by first | (go_simp; done) | (go_simp; rfl)) ?aP (fun _ hk => hk.elim) ?aF ?aO ?aB ?aS ?aL ?_; (case aP => exact rfl); (case aB => exact (by repeat (first | (with_reducible first | exact HB.out | apply below_alloc | apply pw_below_drewN | apply below_drew1 | refine below_set ?_ GE165.out | refine below_set ?_ GE166.out | refine below_set ?_ GE167.out | refine below_set ?_ GE174.out | refine below_set ?_ GE178.out | refine below_set ?_ GE193.out) | exact HB.out))); (case aF => exact (fun k_ hk => ⟨(Nat.le_trans (below_size (by repeat (first | (with_reducible first | exact HB.out | apply below_alloc | apply pw_below_drewN | apply below_drew1 | refine below_set ?_ GE165.out | refine below_set ?_ GE166.out | refine below_set ?_ GE167.out | refine below_set ?_ GE174.out | refine below_set ?_ GE178.out | refine below_set ?_ GE193.out) | exact HB.out))) hk), Kd.fresh' (Kd.R_lt (by (with_reducible repeat (first | apply Kd.R_alloc | apply Kd.R_drewN | apply Kd.R_drew)); exact (Kd.R_mono (Kd.R_far (p := ⟨gb174, 0, none⟩) (Kd.R_types HO191.out BK174.out (by decide)) (fun _ hk => hk.2) (.slice Ao105 y195.length co105)) (fun _ h_ => h_.1)))) k_ hk, Kd.fresh' (Kd.R_lt (by (with_reducible repeat (first | apply Kd.R_alloc | apply Kd.R_drewN | apply Kd.R_drew)); exact (Kd.R_mono (Kd.R_far (p := ⟨gb174, 0, none⟩) (Kd.R_types HO197.out BK174.out (by decide)) (fun _ hk => hk.2) (.slice Ao105 y195.length co105)) (fun _ h_ => h_.1)))) k_ hk⟩)); (case aO => exact (by (with_reducible repeat (first | apply Kd.R_alloc | apply Kd.R_drewN | apply Kd.R_drew)); exact Kd.R_mono (Kd.R_far (p := ⟨gb174, 0, none⟩) (Kd.R_types HO_175001.out BK174.out (by decide)) (fun _ hk => hk.2) (.slice Ao105 y195.length co105)) (fun _ hk => ⟨hk.1.1.1, ⟨hk.1.1.2, hk.1.2⟩⟩))); (case aS => exact (below_size (by repeat (first | (with_reducible first | exact HB.out | apply below_alloc | apply pw_below_drewN | apply below_drew1 | refine below_set ?_ GE165.out | refine below_set ?_ GE166.out | refine below_set ?_ GE167.out | refine below_set ?_ GE174.out | refine below_set ?_ GE178.out | refine below_set ?_ GE193.out) | exact HB.out)))); (case aL => have := LMc73.out; omega); intro v199 w108 ho hb hg hat; rw [← Ny198.out] at ho; have n0_ := zA3 (Kd.V_afterv (ok := (fun k_ => (P0_1_ k_ ∨ w.heap.size ≤ k_) ∧ some k_ ≠ (.slice Ao92 t189.length co92 : Value).ownBlock ∧ some k_ ≠ (.slice Ao105 y195.length co105 : Value).ownBlock ∧ k_ ≠ gb165 ∧ k_ ≠ gb166 ∧ k_ ≠ gb167 ∧ k_ ≠ gb174 ∧ k_ ≠ gb178 ∧ k_ ≠ gb193)) (by (with_reducible repeat (first | apply Kd.V_alloc | apply Kd.V_drewN | apply Kd.V_drew)); exact Kd.V_mono (Kd.V_far (p := ⟨gb174, 0, none⟩) (Kd.V_mono HO_166001.out (fun k_ hk => (⟨hk, hk.1.2.2.2.2.2.2.1⟩ : _ ∧ k_ ≠ gb174))) (fun _ hk => hk.2) (.slice Ao105 y195.length co105)) (fun _ hk => ⟨⟨hk.1.1.1, ⟨hk.1.1.2.2.1, ⟨hk.1.2, ⟨hk.1.1.2.2.2.1, ⟨hk.1.1.2.2.2.2.1, ⟨hk.1.1.2.2.2.2.2.1, ⟨hk.1.1.2.2.2.2.2.2.1, ⟨hk.1.1.2.2.2.2.2.2.2.1, hk.1.1.2.2.2.2.2.2.2.2⟩⟩⟩⟩⟩⟩⟩⟩, hk.1.1.2.1⟩)) hg hat); have n1_ := zA3 (Kd.V_afterv (ok := (fun k_ => (P0_1_ k_ ∨ w.heap.size ≤ k_) ∧ some k_ ≠ (.slice Ao92 t189.length co92 : Value).ownBlock ∧ some k_ ≠ (.slice Ao105 y195.length co105 : Value).ownBlock ∧ k_ ≠ gb165 ∧ k_ ≠ gb166 ∧ k_ ≠ gb167 ∧ k_ ≠ gb174 ∧ k_ ≠ gb178 ∧ k_ ≠ gb193)) (by (with_reducible repeat (first | apply Kd.V_alloc | apply Kd.V_drewN | apply Kd.V_drew)); exact Kd.V_mono (Kd.V_far (p := ⟨gb174, 0, none⟩) (Kd.V_mono HO_179001.out (fun k_ hk => (⟨hk, hk.1.2.2.2.2.2.2.1⟩ : _ ∧ k_ ≠ gb174))) (fun _ hk => hk.2) (.slice Ao105 y195.length co105)) (fun _ hk => ⟨⟨hk.1.1.1, ⟨hk.1.1.2.2.1, ⟨hk.1.2, ⟨hk.1.1.2.2.2.1, ⟨hk.1.1.2.2.2.2.1, ⟨hk.1.1.2.2.2.2.2.1, ⟨hk.1.1.2.2.2.2.2.2.1, ⟨hk.1.1.2.2.2.2.2.2.2.1, hk.1.1.2.2.2.2.2.2.2.2⟩⟩⟩⟩⟩⟩⟩⟩, hk.1.1.2.1⟩)) hg hat); have n2_ := zA3 (blk_grown (g := gb165) (o := .cells #[.int .i64 a0_0, .slice A0_1 l0_1.length c0_1] 30 (0, 0)) (by (with_reducible repeat (first | refine bN3 ?_ _ | refine bD3 ?_ | refine bA3 ?_ _)); refine blk_far ?_ NB165_174.out _; (with_reducible repeat (first | refine bN3 ?_ _ | refine bD3 ?_ | refine bA3 ?_ _)); exact BK165.out) hg (Kd.R_ne HO_175001.out BK165.out (by decide))); have n3_ := zA3 (blk_grown (g := gb166) (o := .cells #[.int .i64 a1_0, .int .i64 a1_1, .int .i64 a1_2] 32 (0, 0)) (by (with_reducible repeat (first | refine bN3 ?_ _ | refine bD3 ?_ | refine bA3 ?_ _)); refine blk_far ?_ NB166_174.out _; (with_reducible repeat (first | refine bN3 ?_ _ | refine bD3 ?_ | refine bA3 ?_ _)); exact BK166.out) hg (Kd.R_ne HO_175001.out BK166.out (by decide))); have n4_ := zA3 (blk_grown (g := gb167) (o := .cells #[.slice none 0 0, .slice none 0 0, .int .i64 x168002_2] 89 (0, 0)) (by (with_reducible repeat (first | refine bN3 ?_ _ | refine bD3 ?_ | refine bA3 ?_ _)); refine blk_far ?_ NB167_174.out _; (with_reducible repeat (first | refine bN3 ?_ _ | refine bD3 ?_ | refine bA3 ?_ _)); exact BK167.out) hg (Kd.R_ne HO_175001.out BK167.out (by decide))); have n5_ := zA3 (blk_grown (g := gb174) (o := .cells #[.slice Ao105 y195.length co105, u175001, .int .i64 x175002_2] 89 (0, 0)) (by (with_reducible repeat (first | refine bN3 ?_ _ | refine bD3 ?_ | refine bA3 ?_ _)); refine blk_put (cs := #[u175000, u175001, .int .i64 x175002_2]) ?_ 0 _ rfl; (with_reducible repeat (first | refine bN3 ?_ _ | refine bD3 ?_ | refine bA3 ?_ _)); exact BK174.out) hg (Kd.R_ne HO_175001.out BK174.out (by decide))); have n6_ := zA3 (blk_grown (g := gb178) (o := .cells #[.int .i64 x179000_2, .slice Ao85 x179001_2.length co85] 30 (0, 0)) (by (with_reducible repeat (first | refine bN3 ?_ _ | refine bD3 ?_ | refine bA3 ?_ _)); refine blk_far ?_ NB178_174.out _; (with_reducible repeat (first | refine bN3 ?_ _ | refine bD3 ?_ | refine bA3 ?_ _)); exact BK178.out) hg (Kd.R_ne HO_175001.out BK178.out (by decide))); have n7_ := zA3 (Kd.R_after (ok := (fun k_ => (w.heap.size ≤ k_) ∧ some k_ ≠ (.slice Ao105 y195.length co105 : Value).ownBlock)) (by (with_reducible repeat (first | apply Kd.R_alloc | apply Kd.R_drewN | apply Kd.R_drew)); exact Kd.R_mono (Kd.R_far (p := ⟨gb174, 0, none⟩) (Kd.R_types HO191.out BK174.out (by decide)) (fun _ hk => hk.2) (.slice Ao105 y195.length co105)) (fun _ hk => ⟨⟨hk.1.1.1, hk.1.2⟩, hk.1.1.2⟩)) hg hat); have n8_ := zA3 (blk_grown (g := gb193) (o := .cells #[.int .i64 t188, .slice Ao92 t189.length co92] 30 (0, 0)) (by (with_reducible repeat (first | refine bN3 ?_ _ | refine bD3 ?_ | refine bA3 ?_ _)); refine blk_far ?_ NB193_174.out _; (with_reducible repeat (first | refine bN3 ?_ _ | refine bD3 ?_ | refine bA3 ?_ _)); exact BK193.out) hg (Kd.R_ne HO_175001.out BK193.out (by decide))); have n9_ := zA3 (Kd.R_after (ok := (fun k_ => (w.heap.size ≤ k_) ∧ some k_ ≠ (.slice Ao92 t189.length co92 : Value).ownBlock)) (by (with_reducible repeat (first | apply Kd.R_alloc | apply Kd.R_drewN | apply Kd.R_drew)); exact Kd.R_mono (Kd.R_far (p := ⟨gb174, 0, none⟩) (Kd.R_types HO197.out BK174.out (by decide)) (fun _ hk => hk.2) (.slice Ao105 y195.length co105)) (fun _ hk => ⟨⟨hk.1.1, hk.1.2.2⟩, hk.1.2.1⟩)) hg hat); have n10_ := zA3 (hb); have n11_ := zA3 (ho); clear HO_166001; clear HO_179001; clear BK165; clear BK166; clear BK167; clear BK174; clear BK178; clear HO191; clear BK193; clear HO197; clear HB; clear HO_175001; have HO_166001 := n0_; have HO_179001 := n1_; have BK165 := n2_; have BK166 := n3_; have BK167 := n4_; have BK174 := n5_; have BK178 := n6_; have HO191 := n7_; have BK193 := n8_; have HO197 := n9_; have HB := n10_; have HO200 := n11_; clear n0_ n1_ n2_ n3_ n4_ n5_ n6_ n7_ n8_ n9_ n10_ n11_; clear ho hb hg hat; obtain ⟨Ao109, co109, eo109⟩ := Kd.R_slice HO200.out; subst eo109; have hcz110_0 : w108.cell? ⟨gb174, 0, none⟩ = some (.slice Ao105 y195.length co105) := (blk_cell BK174.out 0).trans rfl; have hcz110_1 : w108.cell? ⟨gb174, 1, none⟩ = some (u175001) := (blk_cell BK174.out 1).trans rfl; have hcz110_2 : w108.cell? ⟨gb174, 2, none⟩ = some (.int .i64 x175002_2) := (blk_cell BK174.out 2).trans rfl; have hfz110_0 := blk_frozen BK174.out 0; have hfz110_1 := blk_frozen BK174.out 1; have hfz110_2 := blk_frozen BK174.out 2))
            have n0_ : Aside0 (Kd.V (Kd.int .i64) 3 (w108.setCell ⟨gb174, 1, none⟩ (.slice Ao109 y198.length co109)) w.heap.size (fun k_ => (P0_1_ k_ ∨ w.heap.size ≤ k_) ∧ some k_ ≠ (.slice Ao92 t189.length co92 : Value).ownBlock ∧ some k_ ≠ (.slice Ao105 y195.length co105 : Value).ownBlock ∧ some k_ ≠ (.slice Ao109 y198.length co109 : Value).ownBlock ∧ k_ ≠ gb165 ∧ k_ ≠ gb166 ∧ k_ ≠ gb167 ∧ k_ ≠ gb174 ∧ k_ ≠ gb178 ∧ k_ ≠ gb193) (.slice A0_1 l0_1.length c0_1) l0_1) := ⟨by (with_reducible repeat (first | apply Kd.V_alloc | apply Kd.V_drewN | apply Kd.V_drew)); exact Kd.V_mono (Kd.V_far (p := ⟨gb174, 1, none⟩) (Kd.V_mono HO_166001.out (fun k_ hk => (⟨hk, hk.1.2.2.2.2.2.2.1⟩ : _ ∧ k_ ≠ gb174))) (fun _ hk => hk.2) (.slice Ao109 y198.length co109)) (fun _ hk => ⟨hk.1.1.1, ⟨hk.1.1.2.1, ⟨hk.1.1.2.2.1, ⟨hk.1.2, ⟨hk.1.1.2.2.2.1, ⟨hk.1.1.2.2.2.2.1, ⟨hk.1.1.2.2.2.2.2.1, ⟨hk.1.1.2.2.2.2.2.2.1, ⟨hk.1.1.2.2.2.2.2.2.2.1, hk.1.1.2.2.2.2.2.2.2.2⟩⟩⟩⟩⟩⟩⟩⟩⟩)⟩
            have n1_ : Aside0 (Kd.V (Kd.int .i64) 3 (w108.setCell ⟨gb174, 1, none⟩ (.slice Ao109 y198.length co109)) w.heap.size (fun k_ => (P0_1_ k_ ∨ w.heap.size ≤ k_) ∧ some k_ ≠ (.slice Ao92 t189.length co92 : Value).ownBlock ∧ some k_ ≠ (.slice Ao105 y195.length co105 : Value).ownBlock ∧ some k_ ≠ (.slice Ao109 y198.length co109 : Value).ownBlock ∧ k_ ≠ gb165 ∧ k_ ≠ gb166 ∧ k_ ≠ gb167 ∧ k_ ≠ gb174 ∧ k_ ≠ gb178 ∧ k_ ≠ gb193) (.slice Ao85 x179001_2.length co85) x179001_2) := ⟨by (with_reducible repeat (first | apply Kd.V_alloc | apply Kd.V_drewN | apply Kd.V_drew)); exact Kd.V_mono (Kd.V_far (p := ⟨gb174, 1, none⟩) (Kd.V_mono HO_179001.out (fun k_ hk => (⟨hk, hk.1.2.2.2.2.2.2.1⟩ : _ ∧ k_ ≠ gb174))) (fun _ hk => hk.2) (.slice Ao109 y198.length co109)) (fun _ hk => ⟨hk.1.1.1, ⟨hk.1.1.2.1, ⟨hk.1.1.2.2.1, ⟨hk.1.2, ⟨hk.1.1.2.2.2.1, ⟨hk.1.1.2.2.2.2.1, ⟨hk.1.1.2.2.2.2.2.1, ⟨hk.1.1.2.2.2.2.2.2.1, ⟨hk.1.1.2.2.2.2.2.2.2.1, hk.1.1.2.2.2.2.2.2.2.2⟩⟩⟩⟩⟩⟩⟩⟩⟩)⟩
            have n2_ : Aside0 (Kd.R (Kd.int .i64) 3 (w108.setCell ⟨gb174, 1, none⟩ (.slice Ao109 y198.length co109)) w.heap.size (fun k_ => (w.heap.size ≤ k_) ∧ some k_ ≠ (.slice Ao105 y195.length co105 : Value).ownBlock ∧ some k_ ≠ (.slice Ao109 y198.length co109 : Value).ownBlock) (.slice Ao92 t189.length co92) t189) := ⟨by (with_reducible repeat (first | apply Kd.R_alloc | apply Kd.R_drewN | apply Kd.R_drew)); exact Kd.R_mono (Kd.R_far (p := ⟨gb174, 1, none⟩) (Kd.R_types HO191.out BK174.out (by decide)) (fun _ hk => hk.2) (.slice Ao109 y198.length co109)) (fun _ hk => ⟨hk.1.1.1, ⟨hk.1.1.2, hk.1.2⟩⟩)⟩
            have n3_ : Aside0 (Kd.R (Kd.int .i64) 3 (w108.setCell ⟨gb174, 1, none⟩ (.slice Ao109 y198.length co109)) w.heap.size (fun k_ => (w.heap.size ≤ k_) ∧ some k_ ≠ (.slice Ao92 t189.length co92 : Value).ownBlock ∧ some k_ ≠ (.slice Ao109 y198.length co109 : Value).ownBlock) (.slice Ao105 y195.length co105) y195) := ⟨by (with_reducible repeat (first | apply Kd.R_alloc | apply Kd.R_drewN | apply Kd.R_drew)); exact Kd.R_mono (Kd.R_far (p := ⟨gb174, 1, none⟩) (Kd.R_types HO197.out BK174.out (by decide)) (fun _ hk => hk.2) (.slice Ao109 y198.length co109)) (fun _ hk => ⟨hk.1.1.1, ⟨hk.1.1.2, hk.1.2⟩⟩)⟩
            have n4_ : Aside0 (Kd.R (Kd.int .i64) 3 (w108.setCell ⟨gb174, 1, none⟩ (.slice Ao109 y198.length co109)) w.heap.size (fun k_ => (w.heap.size ≤ k_) ∧ some k_ ≠ (.slice Ao92 t189.length co92 : Value).ownBlock ∧ some k_ ≠ (.slice Ao105 y195.length co105 : Value).ownBlock) (.slice Ao109 y198.length co109) y198) := ⟨by (with_reducible repeat (first | apply Kd.R_alloc | apply Kd.R_drewN | apply Kd.R_drew)); exact Kd.R_mono (Kd.R_far (p := ⟨gb174, 1, none⟩) (Kd.R_types HO200.out BK174.out (by decide)) (fun _ hk => hk.2) (.slice Ao109 y198.length co109)) (fun _ hk => ⟨hk.1.1, ⟨hk.1.2.1, hk.1.2.2⟩⟩)⟩
            have n5_ : Aside0 ((w108.setCell ⟨gb174, 1, none⟩ (.slice Ao109 y198.length co109)).heap[gb165]? = some (.cells #[.int .i64 a0_0, .slice A0_1 l0_1.length c0_1] 30 (0, 0))) := ⟨by (with_reducible repeat (first | refine bN3 ?_ _ | refine bD3 ?_ | refine bA3 ?_ _)); refine blk_far ?_ NB165_174.out _; (with_reducible repeat (first | refine bN3 ?_ _ | refine bD3 ?_ | refine bA3 ?_ _)); exact BK165.out⟩
            have n6_ : Aside0 ((w108.setCell ⟨gb174, 1, none⟩ (.slice Ao109 y198.length co109)).heap[gb166]? = some (.cells #[.int .i64 a1_0, .int .i64 a1_1, .int .i64 a1_2] 32 (0, 0))) := ⟨by (with_reducible repeat (first | refine bN3 ?_ _ | refine bD3 ?_ | refine bA3 ?_ _)); refine blk_far ?_ NB166_174.out _; (with_reducible repeat (first | refine bN3 ?_ _ | refine bD3 ?_ | refine bA3 ?_ _)); exact BK166.out⟩
            have n7_ : Aside0 ((w108.setCell ⟨gb174, 1, none⟩ (.slice Ao109 y198.length co109)).heap[gb167]? = some (.cells #[.slice none 0 0, .slice none 0 0, .int .i64 x168002_2] 89 (0, 0))) := ⟨by (with_reducible repeat (first | refine bN3 ?_ _ | refine bD3 ?_ | refine bA3 ?_ _)); refine blk_far ?_ NB167_174.out _; (with_reducible repeat (first | refine bN3 ?_ _ | refine bD3 ?_ | refine bA3 ?_ _)); exact BK167.out⟩
            have n8_ : Aside0 ((w108.setCell ⟨gb174, 1, none⟩ (.slice Ao109 y198.length co109)).heap[gb174]? = some (.cells #[.slice Ao105 y195.length co105, .slice Ao109 y198.length co109, .int .i64 x175002_2] 89 (0, 0))) := ⟨by (with_reducible repeat (first | refine bN3 ?_ _ | refine bD3 ?_ | refine bA3 ?_ _)); refine blk_put (cs := #[.slice Ao105 y195.length co105, u175001, .int .i64 x175002_2]) ?_ 1 _ rfl; (with_reducible repeat (first | refine bN3 ?_ _ | refine bD3 ?_ | refine bA3 ?_ _)); exact BK174.out⟩
            have n9_ : Aside0 ((w108.setCell ⟨gb174, 1, none⟩ (.slice Ao109 y198.length co109)).heap[gb178]? = some (.cells #[.int .i64 x179000_2, .slice Ao85 x179001_2.length co85] 30 (0, 0))) := ⟨by (with_reducible repeat (first | refine bN3 ?_ _ | refine bD3 ?_ | refine bA3 ?_ _)); refine blk_far ?_ NB178_174.out _; (with_reducible repeat (first | refine bN3 ?_ _ | refine bD3 ?_ | refine bA3 ?_ _)); exact BK178.out⟩
            have n10_ : Aside0 ((w108.setCell ⟨gb174, 1, none⟩ (.slice Ao109 y198.length co109)).heap[gb193]? = some (.cells #[.int .i64 t188, .slice Ao92 t189.length co92] 30 (0, 0))) := ⟨by (with_reducible repeat (first | refine bN3 ?_ _ | refine bD3 ?_ | refine bA3 ?_ _)); refine blk_far ?_ NB193_174.out _; (with_reducible repeat (first | refine bN3 ?_ _ | refine bD3 ?_ | refine bA3 ?_ _)); exact BK193.out⟩
            have n11_ : Aside0 (Below w.heap.size w (w108.setCell ⟨gb174, 1, none⟩ (.slice Ao109 y198.length co109))) := ⟨by repeat (first | (with_reducible first | exact HB.out | apply below_alloc | apply pw_below_drewN | apply below_drew1 | refine below_set ?_ GE165.out | refine below_set ?_ GE166.out | refine below_set ?_ GE167.out | refine below_set ?_ GE174.out | refine below_set ?_ GE178.out | refine below_set ?_ GE193.out) | exact HB.out)⟩
            (try clear HO_166001)
            (try clear HO_179001)
            (try clear HO191)
            (try clear HO197)
            (try clear HO200)
            (try clear BK165)
            (try clear BK166)
            (try clear BK167)
            (try clear BK174)
            (try clear BK178)
            (try clear BK193)
            (try clear HB)
            generalize (w108.setCell ⟨gb174, 1, none⟩ (.slice Ao109 y198.length co109)) = w111 at n0_ n1_ n2_ n3_ n4_ n5_ n6_ n7_ n8_ n9_ n10_ n11_ ⊢
            have HO_166001 := n0_
            have HO_179001 := n1_
            have HO191 := n2_
            have HO197 := n3_
            have HO200 := n4_
            have BK165 := n5_
            have BK166 := n6_
            have BK167 := n7_
            have BK174 := n8_
            have BK178 := n9_
            have BK193 := n10_
            have HB := n11_
            clear n0_ n1_ n2_ n3_ n4_ n5_ n6_ n7_ n8_ n9_ n10_ n11_
            have n0_ := zA3 (Kd.V_drew HO_166001.out)
            have n1_ := zA3 (Kd.V_drew HO_179001.out)
            have n2_ := zA3 (Kd.R_drew HO191.out)
            have n3_ := zA3 (Kd.R_drew HO197.out)
            have n4_ := zA3 (Kd.R_drew HO200.out)
            have n5_ := zA3 (blk_drew BK165.out)
            have n6_ := zA3 (blk_drew BK166.out)
            have n7_ := zA3 (blk_drew BK167.out)
            have n8_ := zA3 (blk_drew BK174.out)
            have n9_ := zA3 (blk_drew BK178.out)
            have n10_ := zA3 (blk_drew BK193.out)
            have n11_ := zA3 (below_drew1 HB.out)
            clear HO_166001
            clear HO_179001
            clear HO191
            clear HO197
            clear HO200
            clear BK165
            clear BK166
            clear BK167
            clear BK174
            clear BK178
            clear BK193
            clear HB
            have HO_166001 := n0_
            have HO_179001 := n1_
            have HO191 := n2_
            have HO197 := n3_
            have HO200 := n4_
            have BK165 := n5_
            have BK166 := n6_
            have BK167 := n7_
            have BK174 := n8_
            have BK178 := n9_
            have BK193 := n10_
            have HB := n11_
            clear n0_ n1_ n2_ n3_ n4_ n5_ n6_ n7_ n8_ n9_ n10_ n11_
            have p201 : 0 ≤ (x10_2 : Int) := of_decide_eq_true (by first | (with_reducible assumption) | assumption)
            have q201 : x10_2 < (l2.length : Int) := of_decide_eq_true (by first | (with_reducible assumption) | assumption)
            obtain ⟨ad201, e201, hx201_0⟩ := Kd.at_int HR2.out x10_2 p201 q201
            have hw201_0 := hx201_0
            obtain rfl : ad187 = ad201 := (by injection e201)
            replace hx201_0 := (HB.out.cell (World.block_lt_of_cell? w _ hx201_0)).trans hx201_0
            replace p201 := eq_true p201
            replace q201 := eq_true q201
            refine start_ (n := 12) (S := fun w' => w'.cell? ⟨gb174, 0, none⟩ = some (.slice Ao105 y195.length co105) ∧ w'.cell? ⟨gb174, 1, none⟩ = some (.slice Ao109 y198.length co109) ∧ w'.cell? ⟨gb174, 2, none⟩ = some (.int .i64 x175002_2) ∧ w'.cell? (ad187.add (x10_2).toNat) = some (.int .i64 (rd l2 x10_2))) (ds := [11]) #[false, false, false, false, false, false, false, false, false, false, false, false] (by kernel_rfl) rfl rfl ⟨(blk_cell BK174.out 0).trans rfl, (blk_cell BK174.out 1).trans rfl, (blk_cell BK174.out 2).trans rfl, ((HB.out.cell (World.block_lt_of_cell? w _ hw201_0)).trans hw201_0)⟩ (fun hHeld => ?_); refine with_tabW spec_l11Run.tab16 spec_l11Run.bits16 (fun HT_ HW_ => ?_)
            generalize w111.drew = w112 at HO_166001 HO_179001 HO191 HO197 HO200 BK165 BK166 BK167 BK174 BK178 BK193 HB hx201_0 hHeld ⊢
            refine pure_ (i := 0) (N := some 79) (v := ?_) (a' := ?_) #[true, false, false, false, false, false, false, false, false, false, false, false] rfl rfl (any_of HT_.out (by kernel_rfl)) (fun _ _ _ h => h) (Or.inl ⟨by rfl, ?_⟩) ?_ ?_
            rotate_left
            ·intro w'
             go_simp
             with_reducible rfl
            rotate_left
            ·simp only [Act.put, List.setIfInBounds_toArray, List.set_cons_zero, List.set_cons_succ, i64_w, i32_w]
             rfl
            refine pure_ (i := 2) (N := some 81) (v := ?_) (a' := ?_) #[true, false, true, false, false, false, false, false, false, false, false, false] rfl rfl (any_of HT_.out (by kernel_rfl)) (fun _ _ _ h => h) (Or.inl ⟨by rfl, ?_⟩) ?_ ?_
            rotate_left
            ·intro w'
             go_simp
             with_reducible rfl
            rotate_left
            ·simp only [Act.put, List.setIfInBounds_toArray, List.set_cons_zero, List.set_cons_succ, i64_w, i32_w]
             rfl
            refine pure_ (i := 3) (N := some 82) (v := ?_) (a' := ?_) #[true, false, true, true, false, false, false, false, false, false, false, false] rfl rfl (any_of HT_.out (by kernel_rfl)) (fun _ _ _ h => h) (Or.inl ⟨by rfl, ?_⟩) ?_ ?_
            rotate_left
            ·intro w'
             go_simp
             with_reducible rfl
            rotate_left
            ·simp only [Act.put, List.setIfInBounds_toArray, List.set_cons_zero, List.set_cons_succ, i64_w, i32_w]
             rfl
            refine pure_ (i := 4) (N := some 83) (v := ?_) (a' := ?_) #[true, false, true, true, true, false, false, false, false, false, false, false] rfl rfl (any_of HT_.out (by kernel_rfl)) (fun _ _ _ h => h) (Or.inl ⟨by rfl, ?_⟩) ?_ ?_
            rotate_left
            ·intro w'
             go_simp
             with_reducible rfl
            rotate_left
            ·simp only [Act.put, List.setIfInBounds_toArray, List.set_cons_zero, List.set_cons_succ, i64_w, i32_w]
             rfl
            refine pure_ (i := 6) (N := some 85) (v := ?_) (a' := ?_) #[true, false, true, true, true, false, true, false, false, false, false, false] rfl rfl (any_of HT_.out (by kernel_rfl)) (fun _ _ _ h => h) (Or.inl ⟨by rfl, ?_⟩) ?_ ?_
            rotate_left
            ·intro w'
             go_simp
             with_reducible rfl
            rotate_left
            ·simp only [Act.put, List.setIfInBounds_toArray, List.set_cons_zero, List.set_cons_succ, i64_w, i32_w]
             rfl
            refine take_ (i := 1) (N := some 80) (v := ?_) (a' := ?_) #[true, true, true, true, true, false, true, false, false, false, false, false] rfl rfl (take_ofW HT_.out HW_.out (by kernel_rfl)) (fun _ _ _ h => h) (Or.inl ⟨by rfl, ?_⟩) hHeld ?_ ?_
            rotate_left
            ·rintro w' ⟨s0, s1, s2, s3⟩
             go_simp
             with_reducible rfl
            rotate_left
            ·simp only [Act.put, List.setIfInBounds_toArray, List.set_cons_zero, List.set_cons_succ, i64_w, i32_w]
             rfl
            refine take_ (i := 5) (N := some 84) (v := ?_) (a' := ?_) #[true, true, true, true, true, true, true, false, false, false, false, false] rfl rfl (take_ofW HT_.out HW_.out (by kernel_rfl)) (fun _ _ _ h => h) (Or.inl ⟨by rfl, ?_⟩) hHeld ?_ ?_
            rotate_left
            ·rintro w' ⟨s0, s1, s2, s3⟩
             go_simp
             with_reducible rfl
            rotate_left
            ·simp only [Act.put, List.setIfInBounds_toArray, List.set_cons_zero, List.set_cons_succ, i64_w, i32_w]
             rfl
            refine one_ (i := 7) (N := some 86) #[true, true, true, true, true, true, true, true, false, false, false, false] rfl rfl (one_of HT_.out (by kernel_rfl)) (by decide) (fun K hK => ?_)
            refine goes_ Try.func106 (by kernel_rfl) rfl #[.int .i64 (rd l2 x10_2), .int .i64 t192] (by rfl) rfl rfl (by (try simp only [List.map_toArray, List.map_cons, List.map_nil]); first | done | rfl | (simp only [List.length_drop, List.length_take]; rfl)) ?_
            with_reducible refine (spec_l1Least.calls (rd l2 x10_2) t192 t202 _ A74.out).mono ?_
            rintro e w' ⟨rfl, ⟨nd, rfl⟩⟩
            refine ⟨_, rfl, ?_⟩
            refine hK.out _ _ ⟨(blk_cell BK174.out 0).trans rfl, (blk_cell BK174.out 1).trans rfl, (blk_cell BK174.out 2).trans rfl, ((HB.out.cell (World.block_lt_of_cell? w _ hw201_0)).trans hw201_0)⟩ (fun hHeld => ?_)
            clear hK K
            refine norm_ (a' := ?_) ?_ ?_
            rotate_left
            ·show Act.put _ (some 86) _ = _
             simp only [Act.put, List.setIfInBounds_toArray, List.set_cons_zero, List.set_cons_succ, i64_w, i32_w]
             rfl
            refine one_ (i := 8) (N := some 87) #[true, true, true, true, true, true, true, true, true, false, false, false] rfl rfl (one_of HT_.out (by kernel_rfl)) (by decide) (fun K hK => ?_)
            refine goes_ Try.func105 (by kernel_rfl) rfl #[.int .i64 t202, .int .i64 0] (by rfl) rfl rfl (by (try simp only [List.map_toArray, List.map_cons, List.map_nil]); first | done | rfl | (simp only [List.length_drop, List.length_take]; rfl)) ?_
            with_reducible refine (spec_l1Most.calls t202 0 t203 _ A75.out).mono ?_
            rintro e w' ⟨rfl, ⟨nd, rfl⟩⟩
            refine ⟨_, rfl, ?_⟩
            refine hK.out _ _ ⟨(blk_cell BK174.out 0).trans rfl, (blk_cell BK174.out 1).trans rfl, (blk_cell BK174.out 2).trans rfl, ((HB.out.cell (World.block_lt_of_cell? w _ hw201_0)).trans hw201_0)⟩ (fun hHeld => ?_)
            clear hK K
            refine norm_ (a' := ?_) ?_ ?_
            rotate_left
            ·show Act.put _ (some 87) _ = _
             simp only [Act.put, List.setIfInBounds_toArray, List.set_cons_zero, List.set_cons_succ, i64_w, i32_w]
             rfl
            refine pure_ (i := 9) (N := some 88) (v := ?_) (a' := ?_) #[true, true, true, true, true, true, true, true, true, true, false, false] rfl rfl (any_of HT_.out (by kernel_rfl)) (fun _ _ _ h => h) (Or.inl ⟨by rfl, ?_⟩) ?_ ?_
            rotate_left
            ·intro w'
             go_simp
             with_reducible rfl
            rotate_left
            ·simp only [Act.put, List.setIfInBounds_toArray, List.set_cons_zero, List.set_cons_succ, i64_w, i32_w]
             rfl
            refine pure_ (i := 10) (N := some 89) (v := ?_) (a' := ?_) #[true, true, true, true, true, true, true, true, true, true, true, false] rfl rfl (any_of HT_.out (by kernel_rfl)) (fun _ _ _ h => h) (Or.inl ⟨by rfl, ?_⟩) ?_ ?_
            rotate_left
            ·intro w'
             go_simp
             with_reducible rfl
            rotate_left
            ·simp only [Act.put, List.setIfInBounds_toArray, List.set_cons_zero, List.set_cons_succ, i64_w, i32_w]
             rfl
            refine last_ (i := 11) (N := none) #[true, true, true, true, true, true, true, true, true, true, true, true] rfl rfl (one_of HT_.out (by kernel_rfl)) (by decide) (fun K hK => ?_)
            have hs113 : w112.cell? ⟨gb174, 2, none⟩ = some (.int .i64 x175002_2) := (blk_cell BK174.out 2).trans rfl
            have hfs113 := blk_frozen BK174.out 2
            have hns113_0 := NB165_174.out
            have hns113_1 := NB166_174.out
            have hns113_2 := NB167_174.out
            have hns113_4 := NB178_174.out
            have hns113_5 := NB193_174.out
            have hms113_0 := NB174_165.out
            have hms113_1 := NB174_166.out
            have hms113_2 := NB174_167.out
            have hms113_4 := NB174_178.out
            have hms113_5 := NB174_193.out
            refine skip_ (w1 := ?_) (by rfl) rfl ?_ ?_
            rotate_left
            ·go_simp
             rfl
            refine hK.out _ _ ?_
            clear hK K
            refine done_ (done_of HT_.out (by kernel_rfl)) ?_
            have hcz114_0 : w112.cell? ⟨gb193, 0, none⟩ = some (.int .i64 t188) := (blk_cell BK193.out 0).trans rfl
            have hcz114_1 : w112.cell? ⟨gb193, 1, none⟩ = some (.slice Ao92 t189.length co92) := (blk_cell BK193.out 1).trans rfl
            have hfz114_0 := blk_frozen BK193.out 0
            have hfz114_1 := blk_frozen BK193.out 1
            have hcz115_0 : w112.cell? ⟨gb178, 0, none⟩ = some (.int .i64 x179000_2) := (blk_cell BK178.out 0).trans rfl
            have hcz115_1 : w112.cell? ⟨gb178, 1, none⟩ = some (.slice Ao85 x179001_2.length co85) := (blk_cell BK178.out 1).trans rfl
            have hfz115_0 := blk_frozen BK178.out 0
            have hfz115_1 := blk_frozen BK178.out 1
            try go_wp2
            go_roundg k2
            case measure => have := HJ3.out; have := HK2.out; omega
            case rel => exact ⟨(wrap64 (x10_2 + 1)), (x168002_2), (y195), (y198), (wrap64 (x175002_2 + t203)), (t188), (t189), (.slice Ao105 y195.length co105), (.slice Ao109 y198.length co109), (.slice Ao92 t189.length co92), (by first | rfl | (simp; done) | (simp [*]; done)), H', ⟨by have := HJ3.out; have := HK2.out; omega⟩, ⟨by (with_reducible repeat (first | apply Kd.V_alloc | apply Kd.V_drewN | apply Kd.V_drew)); exact Kd.V_mono (Kd.V_far (p := ⟨gb178, 1, none⟩) (Kd.V_far (p := ⟨gb178, 0, none⟩) (Kd.V_far (p := ⟨gb174, 2, none⟩) (Kd.V_mono (Kd.V_mono HO_166001.out (fun k_ hk => (⟨hk, hk.2.2.2.2.2.2.2.1⟩ : _ ∧ k_ ≠ gb174))) (fun k_ hk => (⟨hk, hk.1.2.2.2.2.2.2.2.2.1⟩ : _ ∧ k_ ≠ gb178))) (fun _ hk => hk.1.2) (.int .i64 (wrap64 (x175002_2 + t203)))) (fun _ hk => hk.2) (.int .i64 t188)) (fun _ hk => hk.2) (.slice Ao92 t189.length co92)) (fun _ hk => ⟨hk.1.1.1, ⟨hk.1.1.2.2.1, ⟨hk.1.1.2.2.2.1, ⟨hk.1.1.2.2.2.2.1, ⟨hk.1.1.2.2.2.2.2.1, ⟨hk.1.1.2.2.2.2.2.2.1, ⟨hk.1.1.2.2.2.2.2.2.2.1, hk.1.1.2.2.2.2.2.2.2.2.1⟩⟩⟩⟩⟩⟩⟩)⟩, ⟨by (with_reducible repeat (first | apply Kd.R_alloc | apply Kd.R_drewN | apply Kd.R_drew)); exact Kd.R_mono (Kd.R_far (p := ⟨gb178, 1, none⟩) (Kd.R_far (p := ⟨gb178, 0, none⟩) (Kd.R_far (p := ⟨gb174, 2, none⟩) (Kd.R_types (Kd.R_types HO197.out BK174.out (by decide)) BK178.out (by decide)) (fun _ hk => hk.1.2) (.int .i64 (wrap64 (x175002_2 + t203)))) (fun _ hk => hk.2) (.int .i64 t188)) (fun _ hk => hk.2) (.slice Ao92 t189.length co92)) (fun _ hk => ⟨hk.1.1.1, hk.1.1.2.2⟩)⟩, ⟨by (with_reducible repeat (first | apply Kd.R_alloc | apply Kd.R_drewN | apply Kd.R_drew)); exact Kd.R_mono (Kd.R_far (p := ⟨gb178, 1, none⟩) (Kd.R_far (p := ⟨gb178, 0, none⟩) (Kd.R_far (p := ⟨gb174, 2, none⟩) (Kd.R_types (Kd.R_types HO200.out BK174.out (by decide)) BK178.out (by decide)) (fun _ hk => hk.1.2) (.int .i64 (wrap64 (x175002_2 + t203)))) (fun _ hk => hk.2) (.int .i64 t188)) (fun _ hk => hk.2) (.slice Ao92 t189.length co92)) (fun _ hk => ⟨hk.1.1.1, hk.1.1.2.2⟩)⟩, ⟨Kd.V_mono (Kd.R_V (by (with_reducible repeat (first | apply Kd.R_alloc | apply Kd.R_drewN | apply Kd.R_drew)); exact (Kd.R_far (p := ⟨gb178, 1, none⟩) (Kd.R_far (p := ⟨gb178, 0, none⟩) (Kd.R_far (p := ⟨gb174, 2, none⟩) (Kd.R_types (Kd.R_types (Kd.R_types (Kd.R_types (Kd.R_types (Kd.R_types (Kd.R_types HO191.out BK165.out (by decide)) BK166.out (by decide)) BK167.out (by decide)) BK174.out (by decide)) BK178.out (by decide)) BK174.out (by decide)) BK178.out (by decide)) (fun _ hk => hk.1.2) (.int .i64 (wrap64 (x175002_2 + t203)))) (fun _ hk => hk.2) (.int .i64 t188)) (fun _ hk => hk.2) (.slice Ao92 t189.length co92)))) (fun k_ hk0 => by have hk := And.intro (hk0.1.1.1.1.1.1.1.1) (And.intro (hk0.1.1.1.1.1.1.1.2.1) (And.intro (hk0.1.1.1.1.1.1.1.2.2) (And.intro (hk0.1.1.1.1.1.1.2) (And.intro (hk0.1.1.1.1.1.2) (And.intro (hk0.1.1.1.1.2) (And.intro (hk0.1.1.1.2) (hk0.1.1.2))))))); first | exact ⟨(.inr (hk.1)), hk.2⟩ | exact (.inr (hk)))⟩, ⟨by (with_reducible repeat (first | refine bN3 ?_ _ | refine bD3 ?_ | refine bA3 ?_ _)); refine blk_far ?_ NB165_178.out _; (with_reducible repeat (first | refine bN3 ?_ _ | refine bD3 ?_ | refine bA3 ?_ _)); refine blk_far ?_ NB165_178.out _; (with_reducible repeat (first | refine bN3 ?_ _ | refine bD3 ?_ | refine bA3 ?_ _)); refine blk_far ?_ NB165_174.out _; (with_reducible repeat (first | refine bN3 ?_ _ | refine bD3 ?_ | refine bA3 ?_ _)); exact BK165.out⟩, ⟨by (with_reducible repeat (first | refine bN3 ?_ _ | refine bD3 ?_ | refine bA3 ?_ _)); refine blk_far ?_ NB166_178.out _; (with_reducible repeat (first | refine bN3 ?_ _ | refine bD3 ?_ | refine bA3 ?_ _)); refine blk_far ?_ NB166_178.out _; (with_reducible repeat (first | refine bN3 ?_ _ | refine bD3 ?_ | refine bA3 ?_ _)); refine blk_far ?_ NB166_174.out _; (with_reducible repeat (first | refine bN3 ?_ _ | refine bD3 ?_ | refine bA3 ?_ _)); exact BK166.out⟩, ⟨by (with_reducible repeat (first | refine bN3 ?_ _ | refine bD3 ?_ | refine bA3 ?_ _)); refine blk_far ?_ NB167_178.out _; (with_reducible repeat (first | refine bN3 ?_ _ | refine bD3 ?_ | refine bA3 ?_ _)); refine blk_far ?_ NB167_178.out _; (with_reducible repeat (first | refine bN3 ?_ _ | refine bD3 ?_ | refine bA3 ?_ _)); refine blk_far ?_ NB167_174.out _; (with_reducible repeat (first | refine bN3 ?_ _ | refine bD3 ?_ | refine bA3 ?_ _)); exact BK167.out⟩, ⟨by (with_reducible repeat (first | refine bN3 ?_ _ | refine bD3 ?_ | refine bA3 ?_ _)); refine blk_far ?_ NB174_178.out _; (with_reducible repeat (first | refine bN3 ?_ _ | refine bD3 ?_ | refine bA3 ?_ _)); refine blk_far ?_ NB174_178.out _; (with_reducible repeat (first | refine bN3 ?_ _ | refine bD3 ?_ | refine bA3 ?_ _)); refine blk_put (cs := #[.slice Ao105 y195.length co105, .slice Ao109 y198.length co109, .int .i64 x175002_2]) ?_ 2 _ rfl; (with_reducible repeat (first | refine bN3 ?_ _ | refine bD3 ?_ | refine bA3 ?_ _)); exact BK174.out⟩, ⟨by (with_reducible repeat (first | refine bN3 ?_ _ | refine bD3 ?_ | refine bA3 ?_ _)); refine blk_put (cs := #[.int .i64 t188, .slice Ao85 x179001_2.length co85]) ?_ 1 _ rfl; (with_reducible repeat (first | refine bN3 ?_ _ | refine bD3 ?_ | refine bA3 ?_ _)); refine blk_put (cs := #[.int .i64 x179000_2, .slice Ao85 x179001_2.length co85]) ?_ 0 _ rfl; (with_reducible repeat (first | refine bN3 ?_ _ | refine bD3 ?_ | refine bA3 ?_ _)); refine blk_far ?_ NB178_174.out _; (with_reducible repeat (first | refine bN3 ?_ _ | refine bD3 ?_ | refine bA3 ?_ _)); exact BK178.out⟩, ⟨by repeat (first | (with_reducible first | exact HB.out | apply below_alloc | apply pw_below_drewN | apply below_drew1 | refine below_set ?_ GE165.out | refine below_set ?_ GE166.out | refine below_set ?_ GE167.out | refine below_set ?_ GE174.out | refine below_set ?_ GE178.out | refine below_set ?_ GE193.out) | exact HB.out)⟩⟩
           ·rw [if_neg c73] at H
            exact absurd H (by simp)
          ·rw [if_neg c72] at H
           exact absurd H (by simp)
         ·replace c71 := Bool.eq_false_iff.mpr c71
          subst c71
          have H1 : (some ((([] : List Int)), (([] : List Int)), 0, false)) = some (r1, r2, r3, r4) := by rw [if_neg (show ¬ (false = true) by decide)] at H; exact H
          clear H
          have H := H1
          clear H1
          obtain ⟨y204, hy204⟩ : ∃ y_ : List Int, y_ = (([] : List Int)) := ⟨_, rfl⟩
          replace H : (some (y204, (([] : List Int)), 0, false)) = some (r1, r2, r3, r4) := by first | (rw [hy204]; with_reducible exact H) | (have H2_ := (Option.bind_some _ _).symm.trans H; rw [hy204]; with_reducible exact H2_) | (have H2_ := (Option.bind_some _ _).symm.trans H; with_reducible exact H2_) | with_reducible exact H | (rw [hy204]; exact H) | exact H
          have Ny204 := zA3 hy204
          clear hy204
          obtain ⟨y207, hy207⟩ : ∃ y_ : List Int, y_ = (([] : List Int)) := ⟨_, rfl⟩
          replace H : (some (y204, y207, 0, false)) = some (r1, r2, r3, r4) := by first | (rw [hy207]; with_reducible exact H) | (have H2_ := (Option.bind_some _ _).symm.trans H; rw [hy207]; with_reducible exact H2_) | (have H2_ := (Option.bind_some _ _).symm.trans H; with_reducible exact H2_) | with_reducible exact H | (rw [hy207]; exact H) | exact H
          have Ny207 := zA3 hy207
          clear hy207
          simp only [Option.some.injEq, Prod.mk.injEq] at H
          obtain ⟨rfl, rfl, rfl, rfl⟩ := H
          have hnb116 := NB178_165.out
          have hnc116 := NB165_178.out
          have hnb117 := NB178_166.out
          have hnc117 := NB166_178.out
          have hnb118 := NB178_167.out
          have hnc118 := NB167_178.out
          have hnb119 := NB178_174.out
          have hnc119 := NB174_178.out
          have hcz120_0 : wr.cell? ⟨gb178, 0, none⟩ = some (.int .i64 x179000_2) := (blk_cell BK178.out 0).trans rfl
          have hcz120_1 : wr.cell? ⟨gb178, 1, none⟩ = some (u179001) := (blk_cell BK178.out 1).trans rfl
          have hfz120_0 := blk_frozen BK178.out 0
          have hfz120_1 := blk_frozen BK178.out 1
          have hnb121 := NB166_165.out
          have hnc121 := NB165_166.out
          have hnb122 := NB166_167.out
          have hnc122 := NB167_166.out
          have hnb123 := NB166_174.out
          have hnc123 := NB174_166.out
          have hcz124_0 : wr.cell? ⟨gb166, 0, none⟩ = some (.int .i64 a1_0) := (blk_cell BK166.out 0).trans rfl
          have hcz124_1 : wr.cell? ⟨gb166, 1, none⟩ = some (.int .i64 a1_1) := (blk_cell BK166.out 1).trans rfl
          have hcz124_2 : wr.cell? ⟨gb166, 2, none⟩ = some (.int .i64 a1_2) := (blk_cell BK166.out 2).trans rfl
          have hfz124_0 := blk_frozen BK166.out 0
          have hfz124_1 := blk_frozen BK166.out 1
          have hfz124_2 := blk_frozen BK166.out 2
          obtain ⟨Ao125, co125, eo125⟩ := Kd.V_slice HO_179001.out
          subst eo125
          try go_wp2_with (first | ((with_reducible refine gate_callee (f := 47) rfl ?_); refine goesL_ (some 42) rfl rfl Try.func47 (by kernel_rfl) rfl #[.agg #[.int .i64 x179000_2, .slice Ao125 x179001_2.length co125], .agg #[.int .i64 a1_0, .int .i64 a1_1, .int .i64 a1_2]] rfl (by (try simp only [List.map_toArray, List.map_cons, List.map_nil]); first | done | rfl | (simp only [List.length_drop, List.length_take]; rfl)) ?_; (with_reducible refine (spec_RuleOrder.calls k2 x179000_2 _ _ x179001_2 a1_0 a1_1 a1_2 t179 true _ ?side1 ?side2 A66.out).mono ?_); (case side1 => repeat (first | exact (Kd.V_reads' HO_179001.out).2.2 | (with_reducible refine Kd.C_alloc ?_ _) | (with_reducible refine Kd.C_drewN ?_ _) | (with_reducible refine Kd.C_drew ?_))); (case side2 => exact (Kd.V_reads' HO_179001.out).2.1); rintro e w126 ⟨rfl, hb⟩; refine ⟨_, rfl, ?_⟩; have n0_ := zA3 (Kd.V_below (by (with_reducible repeat (first | apply Kd.V_alloc | apply Kd.V_drewN | apply Kd.V_drew)); exact HO_166001.out) hb); have n1_ := zA3 (Kd.R_below (by (with_reducible repeat (first | apply Kd.R_alloc | apply Kd.R_drewN | apply Kd.R_drew)); exact HO_175000.out) hb); have n2_ := zA3 (Kd.R_below (by (with_reducible repeat (first | apply Kd.R_alloc | apply Kd.R_drewN | apply Kd.R_drew)); exact HO_175001.out) hb); have n3_ := zA3 (Kd.V_below (by (with_reducible repeat (first | apply Kd.V_alloc | apply Kd.V_drewN | apply Kd.V_drew)); exact HO_179001.out) hb); have n4_ := zA3 (blk_below (g := gb165) (o := .cells #[.int .i64 a0_0, .slice A0_1 l0_1.length c0_1] 30 (0, 0)) (by (with_reducible repeat (first | refine bN3 ?_ _ | refine bD3 ?_ | refine bA3 ?_ _)); exact BK165.out) hb); have n5_ := zA3 (blk_below (g := gb166) (o := .cells #[.int .i64 a1_0, .int .i64 a1_1, .int .i64 a1_2] 32 (0, 0)) (by (with_reducible repeat (first | refine bN3 ?_ _ | refine bD3 ?_ | refine bA3 ?_ _)); exact BK166.out) hb); have n6_ := zA3 (blk_below (g := gb167) (o := .cells #[.slice none 0 0, .slice none 0 0, .int .i64 x168002_2] 89 (0, 0)) (by (with_reducible repeat (first | refine bN3 ?_ _ | refine bD3 ?_ | refine bA3 ?_ _)); exact BK167.out) hb); have n7_ := zA3 (blk_below (g := gb174) (o := .cells #[u175000, u175001, .int .i64 x175002_2] 89 (0, 0)) (by (with_reducible repeat (first | refine bN3 ?_ _ | refine bD3 ?_ | refine bA3 ?_ _)); exact BK174.out) hb); have n8_ := zA3 (blk_below (g := gb178) (o := .cells #[.int .i64 x179000_2, .slice Ao125 x179001_2.length co125] 30 (0, 0)) (by (with_reducible repeat (first | refine bN3 ?_ _ | refine bD3 ?_ | refine bA3 ?_ _)); exact BK178.out) hb); have n9_ := zA3 (below_step (by repeat (first | (with_reducible first | exact HB.out | apply below_alloc | apply pw_below_drewN | apply below_drew1 | refine below_set ?_ GE165.out | refine below_set ?_ GE166.out | refine below_set ?_ GE167.out | refine below_set ?_ GE174.out | refine below_set ?_ GE178.out) | exact HB.out)) hb); clear HO_166001; clear HO_175000; clear HO_175001; clear HO_179001; clear BK165; clear BK166; clear BK167; clear BK174; clear BK178; clear HB; have HO_166001 := n0_; have HO_175000 := n1_; have HO_175001 := n2_; have HO_179001 := n3_; have BK165 := n4_; have BK166 := n5_; have BK167 := n6_; have BK174 := n7_; have BK178 := n8_; have HB := n9_; clear n0_ n1_ n2_ n3_ n4_ n5_ n6_ n7_ n8_ n9_; (try clear hb); (try clear hb2); (try clear hk); (try clear hi)))
          have n0_ := zA3 (Kd.V_drew HO_166001.out)
          have n1_ := zA3 (Kd.R_drew HO_175000.out)
          have n2_ := zA3 (Kd.R_drew HO_175001.out)
          have n3_ := zA3 (Kd.V_drew HO_179001.out)
          have n4_ := zA3 (blk_drew BK165.out)
          have n5_ := zA3 (blk_drew BK166.out)
          have n6_ := zA3 (blk_drew BK167.out)
          have n7_ := zA3 (blk_drew BK174.out)
          have n8_ := zA3 (blk_drew BK178.out)
          have n9_ := zA3 (below_drew1 HB.out)
          clear HO_166001
          clear HO_175000
          clear HO_175001
          clear HO_179001
          clear BK165
          clear BK166
          clear BK167
          clear BK174
          clear BK178
          clear HB
          have HO_166001 := n0_
          have HO_175000 := n1_
          have HO_175001 := n2_
          have HO_179001 := n3_
          have BK165 := n4_
          have BK166 := n5_
          have BK167 := n6_
          have BK174 := n7_
          have BK178 := n8_
          have HB := n9_
          clear n0_ n1_ n2_ n3_ n4_ n5_ n6_ n7_ n8_ n9_
          have p187 : 0 ≤ (x10_2 : Int) := of_decide_eq_true (by first | (with_reducible assumption) | assumption)
          have q187 : x10_2 < (l2.length : Int) := of_decide_eq_true (by first | (with_reducible assumption) | assumption)
          obtain ⟨ad187, e187, hx187_0⟩ := Kd.at_int HR2.out x10_2 p187 q187
          have hw187_0 := hx187_0
          cases e187
          replace hx187_0 := (HB.out.cell (World.block_lt_of_cell? w _ hx187_0)).trans hx187_0
          replace p187 := eq_true p187
          replace q187 := eq_true q187
          refine start_ (n := 13) (S := fun w' => w'.cell? ⟨gb178, 0, none⟩ = some (.int .i64 x179000_2) ∧ w'.cell? ⟨gb178, 1, none⟩ = some (.slice Ao125 x179001_2.length co125) ∧ w'.cell? (ad187.add (x10_2).toNat) = some (.int .i64 (rd l2 x10_2))) (ds := []) #[false, false, false, false, false, false, false, false, false, false, false, false, false] (by kernel_rfl) rfl rfl ⟨(blk_cell BK178.out 0).trans rfl, (blk_cell BK178.out 1).trans rfl, ((HB.out.cell (World.block_lt_of_cell? w _ hw187_0)).trans hw187_0)⟩ (fun hHeld => ?_); refine with_tabW spec_l11Run.tab11 spec_l11Run.bits11 (fun HT_ HW_ => ?_)
          generalize w126.drew = w127 at HO_166001 HO_175000 HO_175001 HO_179001 BK165 BK166 BK167 BK174 BK178 HB hx187_0 hHeld ⊢
          refine pure_ (i := 1) (N := some 52) (v := ?_) (a' := ?_) #[false, true, false, false, false, false, false, false, false, false, false, false, false] rfl rfl (any_of HT_.out (by kernel_rfl)) (fun _ _ _ h => h) (Or.inl ⟨by rfl, ?_⟩) ?_ ?_
          rotate_left
          ·intro w'
           go_simp
           with_reducible rfl
          rotate_left
          ·simp only [Act.put, List.setIfInBounds_toArray, List.set_cons_zero, List.set_cons_succ, i64_w, i32_w]
           rfl
          refine pure_ (i := 2) (N := some 53) (v := ?_) (a' := ?_) #[false, true, true, false, false, false, false, false, false, false, false, false, false] rfl rfl (any_of HT_.out (by kernel_rfl)) (fun _ _ _ h => h) (Or.inl ⟨by rfl, ?_⟩) ?_ ?_
          rotate_left
          ·intro w'
           go_simp
           with_reducible rfl
          rotate_left
          ·simp only [Act.put, List.setIfInBounds_toArray, List.set_cons_zero, List.set_cons_succ, i64_w, i32_w]
           rfl
          refine pure_ (i := 3) (N := some 54) (v := ?_) (a' := ?_) #[false, true, true, true, false, false, false, false, false, false, false, false, false] rfl rfl (any_of HT_.out (by kernel_rfl)) (fun _ _ _ h => h) (Or.inl ⟨by rfl, ?_⟩) ?_ ?_
          rotate_left
          ·intro w'
           go_simp
           with_reducible rfl
          rotate_left
          ·simp only [Act.put, List.setIfInBounds_toArray, List.set_cons_zero, List.set_cons_succ, i64_w, i32_w]
           rfl
          refine pure_ (i := 4) (N := some 55) (v := ?_) (a' := ?_) #[false, true, true, true, true, false, false, false, false, false, false, false, false] rfl rfl (any_of HT_.out (by kernel_rfl)) (fun _ _ _ h => h) (Or.inl ⟨by rfl, ?_⟩) ?_ ?_
          rotate_left
          ·intro w'
           go_simp
           with_reducible rfl
          rotate_left
          ·simp only [Act.put, List.setIfInBounds_toArray, List.set_cons_zero, List.set_cons_succ, i64_w, i32_w]
           rfl
          refine take_ (i := 0) (N := some 51) (v := ?_) (a' := ?_) #[true, true, true, true, true, false, false, false, false, false, false, false, false] rfl rfl (take_ofW HT_.out HW_.out (by kernel_rfl)) (fun _ _ _ h => h) (Or.inl ⟨by rfl, ?_⟩) hHeld ?_ ?_
          rotate_left
          ·rintro w' ⟨s0, s1, s2⟩
           go_simp
           with_reducible rfl
          rotate_left
          ·simp only [Act.put, List.setIfInBounds_toArray, List.set_cons_zero, List.set_cons_succ, i64_w, i32_w]
           rfl
          refine take_ (i := 5) (N := some 56) (v := ?_) (a' := ?_) #[true, true, true, true, true, true, false, false, false, false, false, false, false] rfl rfl (take_ofW HT_.out HW_.out (by kernel_rfl)) (fun _ _ _ h => h) (Or.inl ⟨by rfl, ?_⟩) hHeld ?_ ?_
          rotate_left
          ·rintro w' ⟨s0, s1, s2⟩
           go_simp
           with_reducible rfl
          rotate_left
          ·simp only [Act.put, List.setIfInBounds_toArray, List.set_cons_zero, List.set_cons_succ, i64_w, i32_w]
           rfl
          refine join_ (σ := Value × Nat) 2 #[true, true, true, true, true, true, true, true, true, true, true, false, false] (fun s_ => [(57, .tuple #[.agg #[.int .i64 t188, s_.1], .int .i64 t192]), (13, .pointer (some ⟨s_.2, 0, none⟩)), (50, .tuple #[.agg #[.int .i64 t188, s_.1], .int .i64 t192]), (58, .agg #[.int .i64 t188, s_.1]), (59, .int .i64 t192)]) (fun s_ w' => (w'.cell? ⟨gb178, 0, none⟩ = some (.int .i64 x179000_2) ∧ w'.cell? ⟨gb178, 1, none⟩ = some (.slice Ao125 x179001_2.length co125) ∧ w'.cell? (ad187.add (x10_2).toNat) = some (.int .i64 (rd l2 x10_2))) ∧ (Kd.R (Kd.int .i64) 3 w' w.heap.size (fun k_ => (w.heap.size ≤ k_) ∧ some k_ ≠ (u175000 : Value).ownBlock ∧ some k_ ≠ (u175001 : Value).ownBlock) s_.1 t189) ∧ (Kd.V (Kd.int .i64) 3 w' w.heap.size (fun k_ => (P0_1_ k_ ∨ w.heap.size ≤ k_) ∧ some k_ ≠ (s_.1 : Value).ownBlock ∧ some k_ ≠ (u175000 : Value).ownBlock ∧ some k_ ≠ (u175001 : Value).ownBlock ∧ k_ ≠ gb165 ∧ k_ ≠ gb166 ∧ k_ ≠ gb167 ∧ k_ ≠ gb174 ∧ k_ ≠ gb178 ∧ k_ ≠ s_.2) (.slice A0_1 l0_1.length c0_1) l0_1) ∧ (Kd.R (Kd.int .i64) 3 w' w.heap.size (fun k_ => (w.heap.size ≤ k_) ∧ some k_ ≠ (s_.1 : Value).ownBlock ∧ some k_ ≠ (u175001 : Value).ownBlock) u175000 x175000_2) ∧ (Kd.R (Kd.int .i64) 3 w' w.heap.size (fun k_ => (w.heap.size ≤ k_) ∧ some k_ ≠ (s_.1 : Value).ownBlock ∧ some k_ ≠ (u175000 : Value).ownBlock) u175001 x175001_2) ∧ (Kd.V (Kd.int .i64) 3 w' w.heap.size (fun k_ => (P0_1_ k_ ∨ w.heap.size ≤ k_) ∧ some k_ ≠ (s_.1 : Value).ownBlock ∧ some k_ ≠ (u175000 : Value).ownBlock ∧ some k_ ≠ (u175001 : Value).ownBlock ∧ k_ ≠ gb165 ∧ k_ ≠ gb166 ∧ k_ ≠ gb167 ∧ k_ ≠ gb174 ∧ k_ ≠ gb178 ∧ k_ ≠ s_.2) (.slice Ao125 x179001_2.length co125) x179001_2) ∧ (w'.heap[gb165]? = some (.cells #[.int .i64 a0_0, .slice A0_1 l0_1.length c0_1] 30 (0, 0))) ∧ (w'.heap[gb166]? = some (.cells #[.int .i64 a1_0, .int .i64 a1_1, .int .i64 a1_2] 32 (0, 0))) ∧ (w'.heap[gb167]? = some (.cells #[.slice none 0 0, .slice none 0 0, .int .i64 x168002_2] 89 (0, 0))) ∧ (w'.heap[gb174]? = some (.cells #[u175000, u175001, .int .i64 x175002_2] 89 (0, 0))) ∧ (w'.heap[gb178]? = some (.cells #[.int .i64 x179000_2, .slice Ao125 x179001_2.length co125] 30 (0, 0))) ∧ (w'.heap[s_.2]? = some (.cells #[.int .i64 0, .slice none 0 0] 30 (0, 0))) ∧ (w.heap.size ≤ s_.2) ∧ (w.heap.size ≤ s_.2) ∧ (gb165 ≠ s_.2) ∧ (s_.2 ≠ gb165) ∧ (gb166 ≠ s_.2) ∧ (s_.2 ≠ gb166) ∧ (gb167 ≠ s_.2) ∧ (s_.2 ≠ gb167) ∧ (gb174 ≠ s_.2) ∧ (s_.2 ≠ gb174) ∧ (gb178 ≠ s_.2) ∧ (s_.2 ≠ gb178) ∧ (Below w.heap.size w w')) ?_ ?_
          rotate_left
          ·intro hCont
           refine two_ (i := 6) (j := 10) (Ni := some 57) (Nj := some 13) #[true, true, true, true, true, true, true, false, false, false, false, false, false] #[true, true, true, true, true, true, false, false, false, false, true, false, false] rfl rfl rfl rfl (two_of HT_.out (by kernel_rfl)) (by decide) (by decide) (fun K hK => ?_) (fun K hK => ?_)
           ·skip
            refine goes_ Try.func79 (by kernel_rfl) rfl #[.agg #[.int .i64 x179000_2, .slice Ao125 x179001_2.length co125], .int .i64 t179, .int .i64 (rd l2 x10_2)] (by rfl) rfl rfl (by (try simp only [List.map_toArray, List.map_cons, List.map_nil]); first | done | rfl | (simp only [List.length_drop, List.length_take]; rfl)) ?_
            with_reducible refine (spec_l11Day.calls x179000_2 _ _ x179001_2 t179 (rd l2 x10_2) t188 t189 t192 _ ?side1 ?side2 A69.out).mono ?_
            (case side1 => repeat (first | exact (Kd.V_reads' HO_179001.out).2.2 | (with_reducible refine Kd.C_alloc ?_ _) | (with_reducible refine Kd.C_drewN ?_ _) | (with_reducible refine Kd.C_drew ?_)))
            (case side2 => exact (Kd.V_reads' HO_179001.out).2.1)
            rintro e w128 ⟨v190, rfl, ho0, hb⟩
            refine ⟨_, rfl, ?_⟩
            have n0_ := zA3 (Kd.V_elder' (by (with_reducible repeat (first | apply Kd.V_alloc | apply Kd.V_drewN | apply Kd.V_drew)); exact HO_166001.out) (Kd.R_base ho0) hb)
            have n1_ := zA3 (Kd.R_elder' (by (with_reducible repeat (first | apply Kd.R_alloc | apply Kd.R_drewN | apply Kd.R_drew)); exact HO_175000.out) (Kd.R_base ho0) hb)
            have n2_ := zA3 (Kd.R_elder' (by (with_reducible repeat (first | apply Kd.R_alloc | apply Kd.R_drewN | apply Kd.R_drew)); exact HO_175001.out) (Kd.R_base ho0) hb)
            have n3_ := zA3 (Kd.V_elder' (by (with_reducible repeat (first | apply Kd.V_alloc | apply Kd.V_drewN | apply Kd.V_drew)); exact HO_179001.out) (Kd.R_base ho0) hb)
            have n4_ := zA3 (Kd.R_lower (Kd.R_new' (Kd.R_new' (Kd.R_newM (M := fun k_ => (w.heap.size ≤ k_)) ho0 (below_size (by repeat (first | (with_reducible first | exact HB.out | apply below_alloc | apply pw_below_drewN | apply below_drew1 | refine below_set ?_ GE165.out | refine below_set ?_ GE166.out | refine below_set ?_ GE167.out | refine below_set ?_ GE174.out | refine below_set ?_ GE178.out) | exact HB.out))) (fun k_ h_ => h_)) (Kd.R_lt (by (with_reducible repeat (first | apply Kd.R_alloc | apply Kd.R_drewN | apply Kd.R_drew)); exact HO_175000.out))) (Kd.R_lt (by (with_reducible repeat (first | apply Kd.R_alloc | apply Kd.R_drewN | apply Kd.R_drew)); exact HO_175001.out))) (below_size (by repeat (first | (with_reducible first | exact HB.out | apply below_alloc | apply pw_below_drewN | apply below_drew1 | refine below_set ?_ GE165.out | refine below_set ?_ GE166.out | refine below_set ?_ GE167.out | refine below_set ?_ GE174.out | refine below_set ?_ GE178.out) | exact HB.out))))
            have n5_ := zA3 (blk_below (g := gb165) (o := .cells #[.int .i64 a0_0, .slice A0_1 l0_1.length c0_1] 30 (0, 0)) (by (with_reducible repeat (first | refine bN3 ?_ _ | refine bD3 ?_ | refine bA3 ?_ _)); exact BK165.out) hb)
            have n6_ := zA3 (blk_below (g := gb166) (o := .cells #[.int .i64 a1_0, .int .i64 a1_1, .int .i64 a1_2] 32 (0, 0)) (by (with_reducible repeat (first | refine bN3 ?_ _ | refine bD3 ?_ | refine bA3 ?_ _)); exact BK166.out) hb)
            have n7_ := zA3 (blk_below (g := gb167) (o := .cells #[.slice none 0 0, .slice none 0 0, .int .i64 x168002_2] 89 (0, 0)) (by (with_reducible repeat (first | refine bN3 ?_ _ | refine bD3 ?_ | refine bA3 ?_ _)); exact BK167.out) hb)
            have n8_ := zA3 (blk_below (g := gb174) (o := .cells #[u175000, u175001, .int .i64 x175002_2] 89 (0, 0)) (by (with_reducible repeat (first | refine bN3 ?_ _ | refine bD3 ?_ | refine bA3 ?_ _)); exact BK174.out) hb)
            have n9_ := zA3 (blk_below (g := gb178) (o := .cells #[.int .i64 x179000_2, .slice Ao125 x179001_2.length co125] 30 (0, 0)) (by (with_reducible repeat (first | refine bN3 ?_ _ | refine bD3 ?_ | refine bA3 ?_ _)); exact BK178.out) hb)
            have n10_ := zA3 (below_step (by repeat (first | (with_reducible first | exact HB.out | apply below_alloc | apply pw_below_drewN | apply below_drew1 | refine below_set ?_ GE165.out | refine below_set ?_ GE166.out | refine below_set ?_ GE167.out | refine below_set ?_ GE174.out | refine below_set ?_ GE178.out) | exact HB.out)) hb)
            clear HO_166001
            clear HO_175000
            clear HO_175001
            clear HO_179001
            clear BK165
            clear BK166
            clear BK167
            clear BK174
            clear BK178
            clear HB
            have HO_166001 := n0_
            have HO_175000 := n1_
            have HO_175001 := n2_
            have HO_179001 := n3_
            have HO191 := n4_
            have BK165 := n5_
            have BK166 := n6_
            have BK167 := n7_
            have BK174 := n8_
            have BK178 := n9_
            have HB := n10_
            clear n0_ n1_ n2_ n3_ n4_ n5_ n6_ n7_ n8_ n9_ n10_
            (try clear hb)
            (try clear hb2)
            (try clear hk)
            (try clear hi)
            (try clear ho0)
            refine hK.out _ _ ⟨(blk_cell BK178.out 0).trans rfl, (blk_cell BK178.out 1).trans rfl, ((HB.out.cell (World.block_lt_of_cell? w _ hw187_0)).trans hw187_0)⟩ (fun hHeld => ?_)
            clear hK K
            refine norm_ (a' := ?_) ?_ ?_
            rotate_left
            ·show Act.put _ (some 57) _ = _
             simp only [Act.put, List.setIfInBounds_toArray, List.set_cons_zero, List.set_cons_succ, i64_w, i32_w]
             rfl
            refine pure_ (i := 7) (N := some 50) (v := ?_) (a' := ?_) #[true, true, true, true, true, true, true, true, false, false, false, false, false] rfl rfl (any_of HT_.out (by kernel_rfl)) (fun _ _ _ h => h) (Or.inl ⟨by rfl, ?_⟩) ?_ ?_
            rotate_left
            ·intro w'
             go_simp
             with_reducible rfl
            rotate_left
            ·simp only [Act.put, List.setIfInBounds_toArray, List.set_cons_zero, List.set_cons_succ, i64_w, i32_w]
             rfl
            refine pure_ (i := 8) (N := some 58) (v := ?_) (a' := ?_) #[true, true, true, true, true, true, true, true, true, false, false, false, false] rfl rfl (any_of HT_.out (by kernel_rfl)) (fun _ _ _ h => h) (Or.inl ⟨by rfl, ?_⟩) ?_ ?_
            rotate_left
            ·intro w'
             go_simp
             with_reducible rfl
            rotate_left
            ·simp only [Act.put, List.setIfInBounds_toArray, List.set_cons_zero, List.set_cons_succ, i64_w, i32_w]
             rfl
            refine pure_ (i := 9) (N := some 59) (v := ?_) (a' := ?_) #[true, true, true, true, true, true, true, true, true, true, false, false, false] rfl rfl (any_of HT_.out (by kernel_rfl)) (fun _ _ _ h => h) (Or.inl ⟨by rfl, ?_⟩) ?_ ?_
            rotate_left
            ·intro w'
             go_simp
             with_reducible rfl
            rotate_left
            ·simp only [Act.put, List.setIfInBounds_toArray, List.set_cons_zero, List.set_cons_succ, i64_w, i32_w]
             rfl
            refine one_ (i := 10) (N := some 13) #[true, true, true, true, true, true, true, true, true, true, true, false, false] rfl rfl (one_of HT_.out (by kernel_rfl)) (by decide) (fun K hK => ?_)
            refine box_step ?hg (N := 13) ?hd (cs := #[.int .i64 0, .slice none 0 0]) (t := 30) ?hr ?_; (case hd => rfl); (case hg => rfl); (case hr => first | (go_simp; done) | (go_simp; rfl))
            intro gb193 hg w129 hbox hb
            have n0_ := zA3 (Kd.V_below (Kd.V_elderB (by (with_reducible repeat (first | apply Kd.V_alloc | apply Kd.V_drewN | apply Kd.V_drew)); exact HO_166001.out) gb193 (Nat.le_of_eq hg.symm)) hb)
            have n1_ := zA3 (Kd.R_below (by (with_reducible repeat (first | apply Kd.R_alloc | apply Kd.R_drewN | apply Kd.R_drew)); exact HO_175000.out) hb)
            have n2_ := zA3 (Kd.R_below (by (with_reducible repeat (first | apply Kd.R_alloc | apply Kd.R_drewN | apply Kd.R_drew)); exact HO_175001.out) hb)
            have n3_ := zA3 (Kd.V_below (Kd.V_elderB (by (with_reducible repeat (first | apply Kd.V_alloc | apply Kd.V_drewN | apply Kd.V_drew)); exact HO_179001.out) gb193 (Nat.le_of_eq hg.symm)) hb)
            have n4_ := zA3 (Kd.R_below (by (with_reducible repeat (first | apply Kd.R_alloc | apply Kd.R_drewN | apply Kd.R_drew)); exact HO191.out) hb)
            have n5_ := zA3 (blk_below (g := gb165) (o := .cells #[.int .i64 a0_0, .slice A0_1 l0_1.length c0_1] 30 (0, 0)) (by (with_reducible repeat (first | refine bN3 ?_ _ | refine bD3 ?_ | refine bA3 ?_ _)); exact BK165.out) hb)
            have n6_ := zA3 (blk_below (g := gb166) (o := .cells #[.int .i64 a1_0, .int .i64 a1_1, .int .i64 a1_2] 32 (0, 0)) (by (with_reducible repeat (first | refine bN3 ?_ _ | refine bD3 ?_ | refine bA3 ?_ _)); exact BK166.out) hb)
            have n7_ := zA3 (blk_below (g := gb167) (o := .cells #[.slice none 0 0, .slice none 0 0, .int .i64 x168002_2] 89 (0, 0)) (by (with_reducible repeat (first | refine bN3 ?_ _ | refine bD3 ?_ | refine bA3 ?_ _)); exact BK167.out) hb)
            have n8_ := zA3 (blk_below (g := gb174) (o := .cells #[u175000, u175001, .int .i64 x175002_2] 89 (0, 0)) (by (with_reducible repeat (first | refine bN3 ?_ _ | refine bD3 ?_ | refine bA3 ?_ _)); exact BK174.out) hb)
            have n9_ := zA3 (blk_below (g := gb178) (o := .cells #[.int .i64 x179000_2, .slice Ao125 x179001_2.length co125] 30 (0, 0)) (by (with_reducible repeat (first | refine bN3 ?_ _ | refine bD3 ?_ | refine bA3 ?_ _)); exact BK178.out) hb)
            have n10_ := zA3 (below_step (by repeat (first | (with_reducible first | exact HB.out | apply below_alloc | apply pw_below_drewN | apply below_drew1 | refine below_set ?_ GE165.out | refine below_set ?_ GE166.out | refine below_set ?_ GE167.out | refine below_set ?_ GE174.out | refine below_set ?_ GE178.out) | exact HB.out)) hb)
            have n11_ := zA3 (hbox)
            have n12_ := zA3 ((by rw [hg]; exact (below_size (by repeat (first | (with_reducible first | exact HB.out | apply below_alloc | apply pw_below_drewN | apply below_drew1 | refine below_set ?_ GE165.out | refine below_set ?_ GE166.out | refine below_set ?_ GE167.out | refine below_set ?_ GE174.out | refine below_set ?_ GE178.out) | exact HB.out))) : w.heap.size ≤ gb193))
            have n13_ := zA3 ((by rw [hg]; exact (below_size (by repeat (first | (with_reducible first | exact HB.out | apply below_alloc | apply pw_below_drewN | apply below_drew1 | refine below_set ?_ GE165.out | refine below_set ?_ GE166.out | refine below_set ?_ GE167.out | refine below_set ?_ GE174.out | refine below_set ?_ GE178.out) | exact HB.out))) : w.heap.size ≤ gb193))
            have n14_ := zA3 ((by rw [hg]; exact Nat.ne_of_lt (blk_lt (g := gb165) (o := .cells #[.int .i64 a0_0, .slice A0_1 l0_1.length c0_1] 30 (0, 0)) (by (with_reducible repeat (first | refine bN3 ?_ _ | refine bD3 ?_ | refine bA3 ?_ _)); exact BK165.out)) : gb165 ≠ gb193))
            have n15_ := zA3 ((by rw [hg]; exact Nat.ne_of_gt (blk_lt (g := gb165) (o := .cells #[.int .i64 a0_0, .slice A0_1 l0_1.length c0_1] 30 (0, 0)) (by (with_reducible repeat (first | refine bN3 ?_ _ | refine bD3 ?_ | refine bA3 ?_ _)); exact BK165.out)) : gb193 ≠ gb165))
            have n16_ := zA3 ((by rw [hg]; exact Nat.ne_of_lt (blk_lt (g := gb166) (o := .cells #[.int .i64 a1_0, .int .i64 a1_1, .int .i64 a1_2] 32 (0, 0)) (by (with_reducible repeat (first | refine bN3 ?_ _ | refine bD3 ?_ | refine bA3 ?_ _)); exact BK166.out)) : gb166 ≠ gb193))
            have n17_ := zA3 ((by rw [hg]; exact Nat.ne_of_gt (blk_lt (g := gb166) (o := .cells #[.int .i64 a1_0, .int .i64 a1_1, .int .i64 a1_2] 32 (0, 0)) (by (with_reducible repeat (first | refine bN3 ?_ _ | refine bD3 ?_ | refine bA3 ?_ _)); exact BK166.out)) : gb193 ≠ gb166))
            have n18_ := zA3 ((by rw [hg]; exact Nat.ne_of_lt (blk_lt (g := gb167) (o := .cells #[.slice none 0 0, .slice none 0 0, .int .i64 x168002_2] 89 (0, 0)) (by (with_reducible repeat (first | refine bN3 ?_ _ | refine bD3 ?_ | refine bA3 ?_ _)); exact BK167.out)) : gb167 ≠ gb193))
            have n19_ := zA3 ((by rw [hg]; exact Nat.ne_of_gt (blk_lt (g := gb167) (o := .cells #[.slice none 0 0, .slice none 0 0, .int .i64 x168002_2] 89 (0, 0)) (by (with_reducible repeat (first | refine bN3 ?_ _ | refine bD3 ?_ | refine bA3 ?_ _)); exact BK167.out)) : gb193 ≠ gb167))
            have n20_ := zA3 ((by rw [hg]; exact Nat.ne_of_lt (blk_lt (g := gb174) (o := .cells #[u175000, u175001, .int .i64 x175002_2] 89 (0, 0)) (by (with_reducible repeat (first | refine bN3 ?_ _ | refine bD3 ?_ | refine bA3 ?_ _)); exact BK174.out)) : gb174 ≠ gb193))
            have n21_ := zA3 ((by rw [hg]; exact Nat.ne_of_gt (blk_lt (g := gb174) (o := .cells #[u175000, u175001, .int .i64 x175002_2] 89 (0, 0)) (by (with_reducible repeat (first | refine bN3 ?_ _ | refine bD3 ?_ | refine bA3 ?_ _)); exact BK174.out)) : gb193 ≠ gb174))
            have n22_ := zA3 ((by rw [hg]; exact Nat.ne_of_lt (blk_lt (g := gb178) (o := .cells #[.int .i64 x179000_2, .slice Ao125 x179001_2.length co125] 30 (0, 0)) (by (with_reducible repeat (first | refine bN3 ?_ _ | refine bD3 ?_ | refine bA3 ?_ _)); exact BK178.out)) : gb178 ≠ gb193))
            have n23_ := zA3 ((by rw [hg]; exact Nat.ne_of_gt (blk_lt (g := gb178) (o := .cells #[.int .i64 x179000_2, .slice Ao125 x179001_2.length co125] 30 (0, 0)) (by (with_reducible repeat (first | refine bN3 ?_ _ | refine bD3 ?_ | refine bA3 ?_ _)); exact BK178.out)) : gb193 ≠ gb178))
            clear HO_166001
            clear HO_175000
            clear HO_175001
            clear HO_179001
            clear HO191
            clear BK165
            clear BK166
            clear BK167
            clear BK174
            clear BK178
            clear HB
            have HO_166001 := n0_
            have HO_175000 := n1_
            have HO_175001 := n2_
            have HO_179001 := n3_
            have HO191 := n4_
            have BK165 := n5_
            have BK166 := n6_
            have BK167 := n7_
            have BK174 := n8_
            have BK178 := n9_
            have HB := n10_
            have BK193 := n11_
            have GW193 := n12_
            have GE193 := n13_
            have NB165_193 := n14_
            have NB193_165 := n15_
            have NB166_193 := n16_
            have NB193_166 := n17_
            have NB167_193 := n18_
            have NB193_167 := n19_
            have NB174_193 := n20_
            have NB193_174 := n21_
            have NB178_193 := n22_
            have NB193_178 := n23_
            clear n0_ n1_ n2_ n3_ n4_ n5_ n6_ n7_ n8_ n9_ n10_ n11_ n12_ n13_ n14_ n15_ n16_ n17_ n18_ n19_ n20_ n21_ n22_ n23_
            clear hb hbox hg
            refine hK.out _ _ ⟨(blk_cell BK178.out 0).trans rfl, (blk_cell BK178.out 1).trans rfl, ((HB.out.cell (World.block_lt_of_cell? w _ hw187_0)).trans hw187_0)⟩ (fun hHeld => ?_)
            clear hK K
            refine norm_ (a' := ?_) ?_ ?_
            rotate_left
            ·show Act.put _ (some 13) _ = _
             simp only [Act.put, List.setIfInBounds_toArray, List.set_cons_zero, List.set_cons_succ, i64_w, i32_w]
             rfl
            exact norm_ (by simp only [putAll, Act.put, List.setIfInBounds_toArray, List.set_cons_zero, List.set_cons_succ]) (hCont (v190, gb193) _ ⟨hHeld, (by (with_reducible repeat (first | apply Kd.R_alloc | apply Kd.R_drewN | apply Kd.R_drew)); exact Kd.R_mono HO191.out (fun _ hk => ⟨hk.1.1.1, ⟨hk.1.2, hk.2⟩⟩)), (by (with_reducible repeat (first | apply Kd.V_alloc | apply Kd.V_drewN | apply Kd.V_drew)); exact Kd.V_mono HO_166001.out (fun _ hk => ⟨hk.1.1.1, ⟨hk.1.2, ⟨hk.1.1.2.1, ⟨hk.1.1.2.2.1, ⟨hk.1.1.2.2.2.1, ⟨hk.1.1.2.2.2.2.1, ⟨hk.1.1.2.2.2.2.2.1, ⟨hk.1.1.2.2.2.2.2.2.1, ⟨hk.1.1.2.2.2.2.2.2.2, hk.2⟩⟩⟩⟩⟩⟩⟩⟩⟩)), (by (with_reducible repeat (first | apply Kd.R_alloc | apply Kd.R_drewN | apply Kd.R_drew)); exact Kd.R_mono HO_175000.out (fun _ hk => ⟨hk.1.1, ⟨hk.2, hk.1.2⟩⟩)), (by (with_reducible repeat (first | apply Kd.R_alloc | apply Kd.R_drewN | apply Kd.R_drew)); exact Kd.R_mono HO_175001.out (fun _ hk => ⟨hk.1.1, ⟨hk.2, hk.1.2⟩⟩)), (by (with_reducible repeat (first | apply Kd.V_alloc | apply Kd.V_drewN | apply Kd.V_drew)); exact Kd.V_mono HO_179001.out (fun _ hk => ⟨hk.1.1.1, ⟨hk.1.2, ⟨hk.1.1.2.1, ⟨hk.1.1.2.2.1, ⟨hk.1.1.2.2.2.1, ⟨hk.1.1.2.2.2.2.1, ⟨hk.1.1.2.2.2.2.2.1, ⟨hk.1.1.2.2.2.2.2.2.1, ⟨hk.1.1.2.2.2.2.2.2.2, hk.2⟩⟩⟩⟩⟩⟩⟩⟩⟩)), (by (with_reducible repeat (first | refine bN3 ?_ _ | refine bD3 ?_ | refine bA3 ?_ _)); exact BK165.out), (by (with_reducible repeat (first | refine bN3 ?_ _ | refine bD3 ?_ | refine bA3 ?_ _)); exact BK166.out), (by (with_reducible repeat (first | refine bN3 ?_ _ | refine bD3 ?_ | refine bA3 ?_ _)); exact BK167.out), (by (with_reducible repeat (first | refine bN3 ?_ _ | refine bD3 ?_ | refine bA3 ?_ _)); exact BK174.out), (by (with_reducible repeat (first | refine bN3 ?_ _ | refine bD3 ?_ | refine bA3 ?_ _)); exact BK178.out), (by (with_reducible repeat (first | refine bN3 ?_ _ | refine bD3 ?_ | refine bA3 ?_ _)); exact BK193.out), GW193.out, GE193.out, NB165_193.out, NB193_165.out, NB166_193.out, NB193_166.out, NB167_193.out, NB193_167.out, NB174_193.out, NB193_174.out, NB178_193.out, NB193_178.out, (by repeat (first | (with_reducible first | exact HB.out | apply below_alloc | apply pw_below_drewN | apply below_drew1 | refine below_set ?_ GE165.out | refine below_set ?_ GE166.out | refine below_set ?_ GE167.out | refine below_set ?_ GE174.out | refine below_set ?_ GE178.out | refine below_set ?_ GE193.out) | exact HB.out))⟩)
           ·skip
            refine box_step ?hg (N := 13) ?hd (cs := #[.int .i64 0, .slice none 0 0]) (t := 30) ?hr ?_; (case hd => rfl); (case hg => rfl); (case hr => first | (go_simp; done) | (go_simp; rfl))
            intro gb193 hg w128 hbox hb
            have n0_ := zA3 (Kd.V_below (Kd.V_elderB (by (with_reducible repeat (first | apply Kd.V_alloc | apply Kd.V_drewN | apply Kd.V_drew)); exact HO_166001.out) gb193 (Nat.le_of_eq hg.symm)) hb)
            have n1_ := zA3 (Kd.R_below (by (with_reducible repeat (first | apply Kd.R_alloc | apply Kd.R_drewN | apply Kd.R_drew)); exact HO_175000.out) hb)
            have n2_ := zA3 (Kd.R_below (by (with_reducible repeat (first | apply Kd.R_alloc | apply Kd.R_drewN | apply Kd.R_drew)); exact HO_175001.out) hb)
            have n3_ := zA3 (Kd.V_below (Kd.V_elderB (by (with_reducible repeat (first | apply Kd.V_alloc | apply Kd.V_drewN | apply Kd.V_drew)); exact HO_179001.out) gb193 (Nat.le_of_eq hg.symm)) hb)
            have n4_ := zA3 (blk_below (g := gb165) (o := .cells #[.int .i64 a0_0, .slice A0_1 l0_1.length c0_1] 30 (0, 0)) (by (with_reducible repeat (first | refine bN3 ?_ _ | refine bD3 ?_ | refine bA3 ?_ _)); exact BK165.out) hb)
            have n5_ := zA3 (blk_below (g := gb166) (o := .cells #[.int .i64 a1_0, .int .i64 a1_1, .int .i64 a1_2] 32 (0, 0)) (by (with_reducible repeat (first | refine bN3 ?_ _ | refine bD3 ?_ | refine bA3 ?_ _)); exact BK166.out) hb)
            have n6_ := zA3 (blk_below (g := gb167) (o := .cells #[.slice none 0 0, .slice none 0 0, .int .i64 x168002_2] 89 (0, 0)) (by (with_reducible repeat (first | refine bN3 ?_ _ | refine bD3 ?_ | refine bA3 ?_ _)); exact BK167.out) hb)
            have n7_ := zA3 (blk_below (g := gb174) (o := .cells #[u175000, u175001, .int .i64 x175002_2] 89 (0, 0)) (by (with_reducible repeat (first | refine bN3 ?_ _ | refine bD3 ?_ | refine bA3 ?_ _)); exact BK174.out) hb)
            have n8_ := zA3 (blk_below (g := gb178) (o := .cells #[.int .i64 x179000_2, .slice Ao125 x179001_2.length co125] 30 (0, 0)) (by (with_reducible repeat (first | refine bN3 ?_ _ | refine bD3 ?_ | refine bA3 ?_ _)); exact BK178.out) hb)
            have n9_ := zA3 (below_step (by repeat (first | (with_reducible first | exact HB.out | apply below_alloc | apply pw_below_drewN | apply below_drew1 | refine below_set ?_ GE165.out | refine below_set ?_ GE166.out | refine below_set ?_ GE167.out | refine below_set ?_ GE174.out | refine below_set ?_ GE178.out) | exact HB.out)) hb)
            have n10_ := zA3 (hbox)
            have n11_ := zA3 ((by rw [hg]; exact (below_size (by repeat (first | (with_reducible first | exact HB.out | apply below_alloc | apply pw_below_drewN | apply below_drew1 | refine below_set ?_ GE165.out | refine below_set ?_ GE166.out | refine below_set ?_ GE167.out | refine below_set ?_ GE174.out | refine below_set ?_ GE178.out) | exact HB.out))) : w.heap.size ≤ gb193))
            have n12_ := zA3 ((by rw [hg]; exact (below_size (by repeat (first | (with_reducible first | exact HB.out | apply below_alloc | apply pw_below_drewN | apply below_drew1 | refine below_set ?_ GE165.out | refine below_set ?_ GE166.out | refine below_set ?_ GE167.out | refine below_set ?_ GE174.out | refine below_set ?_ GE178.out) | exact HB.out))) : w.heap.size ≤ gb193))
            have n13_ := zA3 ((by rw [hg]; exact Nat.ne_of_lt (blk_lt (g := gb165) (o := .cells #[.int .i64 a0_0, .slice A0_1 l0_1.length c0_1] 30 (0, 0)) (by (with_reducible repeat (first | refine bN3 ?_ _ | refine bD3 ?_ | refine bA3 ?_ _)); exact BK165.out)) : gb165 ≠ gb193))
            have n14_ := zA3 ((by rw [hg]; exact Nat.ne_of_gt (blk_lt (g := gb165) (o := .cells #[.int .i64 a0_0, .slice A0_1 l0_1.length c0_1] 30 (0, 0)) (by (with_reducible repeat (first | refine bN3 ?_ _ | refine bD3 ?_ | refine bA3 ?_ _)); exact BK165.out)) : gb193 ≠ gb165))
            have n15_ := zA3 ((by rw [hg]; exact Nat.ne_of_lt (blk_lt (g := gb166) (o := .cells #[.int .i64 a1_0, .int .i64 a1_1, .int .i64 a1_2] 32 (0, 0)) (by (with_reducible repeat (first | refine bN3 ?_ _ | refine bD3 ?_ | refine bA3 ?_ _)); exact BK166.out)) : gb166 ≠ gb193))
            have n16_ := zA3 ((by rw [hg]; exact Nat.ne_of_gt (blk_lt (g := gb166) (o := .cells #[.int .i64 a1_0, .int .i64 a1_1, .int .i64 a1_2] 32 (0, 0)) (by (with_reducible repeat (first | refine bN3 ?_ _ | refine bD3 ?_ | refine bA3 ?_ _)); exact BK166.out)) : gb193 ≠ gb166))
            have n17_ := zA3 ((by rw [hg]; exact Nat.ne_of_lt (blk_lt (g := gb167) (o := .cells #[.slice none 0 0, .slice none 0 0, .int .i64 x168002_2] 89 (0, 0)) (by (with_reducible repeat (first | refine bN3 ?_ _ | refine bD3 ?_ | refine bA3 ?_ _)); exact BK167.out)) : gb167 ≠ gb193))
            have n18_ := zA3 ((by rw [hg]; exact Nat.ne_of_gt (blk_lt (g := gb167) (o := .cells #[.slice none 0 0, .slice none 0 0, .int .i64 x168002_2] 89 (0, 0)) (by (with_reducible repeat (first | refine bN3 ?_ _ | refine bD3 ?_ | refine bA3 ?_ _)); exact BK167.out)) : gb193 ≠ gb167))
            have n19_ := zA3 ((by rw [hg]; exact Nat.ne_of_lt (blk_lt (g := gb174) (o := .cells #[u175000, u175001, .int .i64 x175002_2] 89 (0, 0)) (by (with_reducible repeat (first | refine bN3 ?_ _ | refine bD3 ?_ | refine bA3 ?_ _)); exact BK174.out)) : gb174 ≠ gb193))
            have n20_ := zA3 ((by rw [hg]; exact Nat.ne_of_gt (blk_lt (g := gb174) (o := .cells #[u175000, u175001, .int .i64 x175002_2] 89 (0, 0)) (by (with_reducible repeat (first | refine bN3 ?_ _ | refine bD3 ?_ | refine bA3 ?_ _)); exact BK174.out)) : gb193 ≠ gb174))
            have n21_ := zA3 ((by rw [hg]; exact Nat.ne_of_lt (blk_lt (g := gb178) (o := .cells #[.int .i64 x179000_2, .slice Ao125 x179001_2.length co125] 30 (0, 0)) (by (with_reducible repeat (first | refine bN3 ?_ _ | refine bD3 ?_ | refine bA3 ?_ _)); exact BK178.out)) : gb178 ≠ gb193))
            have n22_ := zA3 ((by rw [hg]; exact Nat.ne_of_gt (blk_lt (g := gb178) (o := .cells #[.int .i64 x179000_2, .slice Ao125 x179001_2.length co125] 30 (0, 0)) (by (with_reducible repeat (first | refine bN3 ?_ _ | refine bD3 ?_ | refine bA3 ?_ _)); exact BK178.out)) : gb193 ≠ gb178))
            clear HO_166001
            clear HO_175000
            clear HO_175001
            clear HO_179001
            clear BK165
            clear BK166
            clear BK167
            clear BK174
            clear BK178
            clear HB
            have HO_166001 := n0_
            have HO_175000 := n1_
            have HO_175001 := n2_
            have HO_179001 := n3_
            have BK165 := n4_
            have BK166 := n5_
            have BK167 := n6_
            have BK174 := n7_
            have BK178 := n8_
            have HB := n9_
            have BK193 := n10_
            have GW193 := n11_
            have GE193 := n12_
            have NB165_193 := n13_
            have NB193_165 := n14_
            have NB166_193 := n15_
            have NB193_166 := n16_
            have NB167_193 := n17_
            have NB193_167 := n18_
            have NB174_193 := n19_
            have NB193_174 := n20_
            have NB178_193 := n21_
            have NB193_178 := n22_
            clear n0_ n1_ n2_ n3_ n4_ n5_ n6_ n7_ n8_ n9_ n10_ n11_ n12_ n13_ n14_ n15_ n16_ n17_ n18_ n19_ n20_ n21_ n22_
            clear hb hbox hg
            refine hK.out _ _ ⟨(blk_cell BK178.out 0).trans rfl, (blk_cell BK178.out 1).trans rfl, ((HB.out.cell (World.block_lt_of_cell? w _ hw187_0)).trans hw187_0)⟩ (fun hHeld => ?_)
            clear hK K
            refine norm_ (a' := ?_) ?_ ?_
            rotate_left
            ·show Act.put _ (some 13) _ = _
             simp only [Act.put, List.setIfInBounds_toArray, List.set_cons_zero, List.set_cons_succ, i64_w, i32_w]
             rfl
            refine one_ (i := 6) (N := some 57) #[true, true, true, true, true, true, true, false, false, false, true, false, false] rfl rfl (one_of HT_.out (by kernel_rfl)) (by decide) (fun K hK => ?_)
            refine goes_ Try.func79 (by kernel_rfl) rfl #[.agg #[.int .i64 x179000_2, .slice Ao125 x179001_2.length co125], .int .i64 t179, .int .i64 (rd l2 x10_2)] (by rfl) rfl rfl (by (try simp only [List.map_toArray, List.map_cons, List.map_nil]); first | done | rfl | (simp only [List.length_drop, List.length_take]; rfl)) ?_
            with_reducible refine (spec_l11Day.calls x179000_2 _ _ x179001_2 t179 (rd l2 x10_2) t188 t189 t192 _ ?side1 ?side2 A69.out).mono ?_
            (case side1 => repeat (first | exact (Kd.V_reads' HO_179001.out).2.2 | (with_reducible refine Kd.C_alloc ?_ _) | (with_reducible refine Kd.C_drewN ?_ _) | (with_reducible refine Kd.C_drew ?_)))
            (case side2 => exact (Kd.V_reads' HO_179001.out).2.1)
            rintro e w129 ⟨v190, rfl, ho0, hb⟩
            refine ⟨_, rfl, ?_⟩
            have n0_ := zA3 (Kd.V_elder' (by (with_reducible repeat (first | apply Kd.V_alloc | apply Kd.V_drewN | apply Kd.V_drew)); exact HO_166001.out) (Kd.R_base ho0) hb)
            have n1_ := zA3 (Kd.R_elder' (by (with_reducible repeat (first | apply Kd.R_alloc | apply Kd.R_drewN | apply Kd.R_drew)); exact HO_175000.out) (Kd.R_base ho0) hb)
            have n2_ := zA3 (Kd.R_elder' (by (with_reducible repeat (first | apply Kd.R_alloc | apply Kd.R_drewN | apply Kd.R_drew)); exact HO_175001.out) (Kd.R_base ho0) hb)
            have n3_ := zA3 (Kd.V_elder' (by (with_reducible repeat (first | apply Kd.V_alloc | apply Kd.V_drewN | apply Kd.V_drew)); exact HO_179001.out) (Kd.R_base ho0) hb)
            have n4_ := zA3 (Kd.R_lower (Kd.R_new' (Kd.R_new' (Kd.R_newM (M := fun k_ => (w.heap.size ≤ k_)) ho0 (below_size (by repeat (first | (with_reducible first | exact HB.out | apply below_alloc | apply pw_below_drewN | apply below_drew1 | refine below_set ?_ GE165.out | refine below_set ?_ GE166.out | refine below_set ?_ GE167.out | refine below_set ?_ GE174.out | refine below_set ?_ GE178.out | refine below_set ?_ GE193.out) | exact HB.out))) (fun k_ h_ => h_)) (Kd.R_lt (by (with_reducible repeat (first | apply Kd.R_alloc | apply Kd.R_drewN | apply Kd.R_drew)); exact HO_175000.out))) (Kd.R_lt (by (with_reducible repeat (first | apply Kd.R_alloc | apply Kd.R_drewN | apply Kd.R_drew)); exact HO_175001.out))) (below_size (by repeat (first | (with_reducible first | exact HB.out | apply below_alloc | apply pw_below_drewN | apply below_drew1 | refine below_set ?_ GE165.out | refine below_set ?_ GE166.out | refine below_set ?_ GE167.out | refine below_set ?_ GE174.out | refine below_set ?_ GE178.out | refine below_set ?_ GE193.out) | exact HB.out))))
            have n5_ := zA3 (blk_below (g := gb165) (o := .cells #[.int .i64 a0_0, .slice A0_1 l0_1.length c0_1] 30 (0, 0)) (by (with_reducible repeat (first | refine bN3 ?_ _ | refine bD3 ?_ | refine bA3 ?_ _)); exact BK165.out) hb)
            have n6_ := zA3 (blk_below (g := gb166) (o := .cells #[.int .i64 a1_0, .int .i64 a1_1, .int .i64 a1_2] 32 (0, 0)) (by (with_reducible repeat (first | refine bN3 ?_ _ | refine bD3 ?_ | refine bA3 ?_ _)); exact BK166.out) hb)
            have n7_ := zA3 (blk_below (g := gb167) (o := .cells #[.slice none 0 0, .slice none 0 0, .int .i64 x168002_2] 89 (0, 0)) (by (with_reducible repeat (first | refine bN3 ?_ _ | refine bD3 ?_ | refine bA3 ?_ _)); exact BK167.out) hb)
            have n8_ := zA3 (blk_below (g := gb174) (o := .cells #[u175000, u175001, .int .i64 x175002_2] 89 (0, 0)) (by (with_reducible repeat (first | refine bN3 ?_ _ | refine bD3 ?_ | refine bA3 ?_ _)); exact BK174.out) hb)
            have n9_ := zA3 (blk_below (g := gb178) (o := .cells #[.int .i64 x179000_2, .slice Ao125 x179001_2.length co125] 30 (0, 0)) (by (with_reducible repeat (first | refine bN3 ?_ _ | refine bD3 ?_ | refine bA3 ?_ _)); exact BK178.out) hb)
            have n10_ := zA3 (blk_below (g := gb193) (o := .cells #[.int .i64 0, .slice none 0 0] 30 (0, 0)) (by (with_reducible repeat (first | refine bN3 ?_ _ | refine bD3 ?_ | refine bA3 ?_ _)); exact BK193.out) hb)
            have n11_ := zA3 (below_step (by repeat (first | (with_reducible first | exact HB.out | apply below_alloc | apply pw_below_drewN | apply below_drew1 | refine below_set ?_ GE165.out | refine below_set ?_ GE166.out | refine below_set ?_ GE167.out | refine below_set ?_ GE174.out | refine below_set ?_ GE178.out | refine below_set ?_ GE193.out) | exact HB.out)) hb)
            clear HO_166001
            clear HO_175000
            clear HO_175001
            clear HO_179001
            clear BK165
            clear BK166
            clear BK167
            clear BK174
            clear BK178
            clear BK193
            clear HB
            have HO_166001 := n0_
            have HO_175000 := n1_
            have HO_175001 := n2_
            have HO_179001 := n3_
            have HO191 := n4_
            have BK165 := n5_
            have BK166 := n6_
            have BK167 := n7_
            have BK174 := n8_
            have BK178 := n9_
            have BK193 := n10_
            have HB := n11_
            clear n0_ n1_ n2_ n3_ n4_ n5_ n6_ n7_ n8_ n9_ n10_ n11_
            (try clear hb)
            (try clear hb2)
            (try clear hk)
            (try clear hi)
            (try clear ho0)
            refine hK.out _ _ ⟨(blk_cell BK178.out 0).trans rfl, (blk_cell BK178.out 1).trans rfl, ((HB.out.cell (World.block_lt_of_cell? w _ hw187_0)).trans hw187_0)⟩ (fun hHeld => ?_)
            clear hK K
            refine norm_ (a' := ?_) ?_ ?_
            rotate_left
            ·show Act.put _ (some 57) _ = _
             simp only [Act.put, List.setIfInBounds_toArray, List.set_cons_zero, List.set_cons_succ, i64_w, i32_w]
             rfl
            refine pure_ (i := 7) (N := some 50) (v := ?_) (a' := ?_) #[true, true, true, true, true, true, true, true, false, false, true, false, false] rfl rfl (any_of HT_.out (by kernel_rfl)) (fun _ _ _ h => h) (Or.inl ⟨by rfl, ?_⟩) ?_ ?_
            rotate_left
            ·intro w'
             go_simp
             with_reducible rfl
            rotate_left
            ·simp only [Act.put, List.setIfInBounds_toArray, List.set_cons_zero, List.set_cons_succ, i64_w, i32_w]
             rfl
            refine pure_ (i := 8) (N := some 58) (v := ?_) (a' := ?_) #[true, true, true, true, true, true, true, true, true, false, true, false, false] rfl rfl (any_of HT_.out (by kernel_rfl)) (fun _ _ _ h => h) (Or.inl ⟨by rfl, ?_⟩) ?_ ?_
            rotate_left
            ·intro w'
             go_simp
             with_reducible rfl
            rotate_left
            ·simp only [Act.put, List.setIfInBounds_toArray, List.set_cons_zero, List.set_cons_succ, i64_w, i32_w]
             rfl
            refine pure_ (i := 9) (N := some 59) (v := ?_) (a' := ?_) #[true, true, true, true, true, true, true, true, true, true, true, false, false] rfl rfl (any_of HT_.out (by kernel_rfl)) (fun _ _ _ h => h) (Or.inl ⟨by rfl, ?_⟩) ?_ ?_
            rotate_left
            ·intro w'
             go_simp
             with_reducible rfl
            rotate_left
            ·simp only [Act.put, List.setIfInBounds_toArray, List.set_cons_zero, List.set_cons_succ, i64_w, i32_w]
             rfl
            exact norm_ (by simp only [putAll, Act.put, List.setIfInBounds_toArray, List.set_cons_zero, List.set_cons_succ]) (hCont (v190, gb193) _ ⟨hHeld, (by (with_reducible repeat (first | apply Kd.R_alloc | apply Kd.R_drewN | apply Kd.R_drew)); exact Kd.R_mono HO191.out (fun _ hk => ⟨hk.1.1.1, ⟨hk.1.2, hk.2⟩⟩)), (by (with_reducible repeat (first | apply Kd.V_alloc | apply Kd.V_drewN | apply Kd.V_drew)); exact Kd.V_mono HO_166001.out (fun _ hk => ⟨hk.1.1.1, ⟨hk.2, ⟨hk.1.1.2.1, ⟨hk.1.1.2.2.1, ⟨hk.1.1.2.2.2.1, ⟨hk.1.1.2.2.2.2.1, ⟨hk.1.1.2.2.2.2.2.1, ⟨hk.1.1.2.2.2.2.2.2.1, ⟨hk.1.1.2.2.2.2.2.2.2, hk.1.2⟩⟩⟩⟩⟩⟩⟩⟩⟩)), (by (with_reducible repeat (first | apply Kd.R_alloc | apply Kd.R_drewN | apply Kd.R_drew)); exact Kd.R_mono HO_175000.out (fun _ hk => ⟨hk.1.1, ⟨hk.2, hk.1.2⟩⟩)), (by (with_reducible repeat (first | apply Kd.R_alloc | apply Kd.R_drewN | apply Kd.R_drew)); exact Kd.R_mono HO_175001.out (fun _ hk => ⟨hk.1.1, ⟨hk.2, hk.1.2⟩⟩)), (by (with_reducible repeat (first | apply Kd.V_alloc | apply Kd.V_drewN | apply Kd.V_drew)); exact Kd.V_mono HO_179001.out (fun _ hk => ⟨hk.1.1.1, ⟨hk.2, ⟨hk.1.1.2.1, ⟨hk.1.1.2.2.1, ⟨hk.1.1.2.2.2.1, ⟨hk.1.1.2.2.2.2.1, ⟨hk.1.1.2.2.2.2.2.1, ⟨hk.1.1.2.2.2.2.2.2.1, ⟨hk.1.1.2.2.2.2.2.2.2, hk.1.2⟩⟩⟩⟩⟩⟩⟩⟩⟩)), (by (with_reducible repeat (first | refine bN3 ?_ _ | refine bD3 ?_ | refine bA3 ?_ _)); exact BK165.out), (by (with_reducible repeat (first | refine bN3 ?_ _ | refine bD3 ?_ | refine bA3 ?_ _)); exact BK166.out), (by (with_reducible repeat (first | refine bN3 ?_ _ | refine bD3 ?_ | refine bA3 ?_ _)); exact BK167.out), (by (with_reducible repeat (first | refine bN3 ?_ _ | refine bD3 ?_ | refine bA3 ?_ _)); exact BK174.out), (by (with_reducible repeat (first | refine bN3 ?_ _ | refine bD3 ?_ | refine bA3 ?_ _)); exact BK178.out), (by (with_reducible repeat (first | refine bN3 ?_ _ | refine bD3 ?_ | refine bA3 ?_ _)); exact BK193.out), GW193.out, GE193.out, NB165_193.out, NB193_165.out, NB166_193.out, NB193_166.out, NB167_193.out, NB193_167.out, NB174_193.out, NB193_174.out, NB178_193.out, NB193_178.out, (by repeat (first | (with_reducible first | exact HB.out | apply below_alloc | apply pw_below_drewN | apply below_drew1 | refine below_set ?_ GE165.out | refine below_set ?_ GE166.out | refine below_set ?_ GE167.out | refine below_set ?_ GE174.out | refine below_set ?_ GE178.out | refine below_set ?_ GE193.out) | exact HB.out))⟩)
          rintro ⟨v190, gb193⟩ w130 ⟨hS_, h0_, h1_, h2_, h3_, h4_, h5_, h6_, h7_, h8_, h9_, h10_, h11_, h12_, h13_, h14_, h15_, h16_, h17_, h18_, h19_, h20_, h21_, h22_, h23_⟩
          have n0_ : Aside0 (Kd.R (Kd.int .i64) 3 w130 w.heap.size (fun k_ => (w.heap.size ≤ k_) ∧ some k_ ≠ (u175000 : Value).ownBlock ∧ some k_ ≠ (u175001 : Value).ownBlock) v190 t189) := ⟨h0_⟩
          have n1_ : Aside0 (Kd.V (Kd.int .i64) 3 w130 w.heap.size (fun k_ => (P0_1_ k_ ∨ w.heap.size ≤ k_) ∧ some k_ ≠ (v190 : Value).ownBlock ∧ some k_ ≠ (u175000 : Value).ownBlock ∧ some k_ ≠ (u175001 : Value).ownBlock ∧ k_ ≠ gb165 ∧ k_ ≠ gb166 ∧ k_ ≠ gb167 ∧ k_ ≠ gb174 ∧ k_ ≠ gb178 ∧ k_ ≠ gb193) (.slice A0_1 l0_1.length c0_1) l0_1) := ⟨h1_⟩
          have n2_ : Aside0 (Kd.R (Kd.int .i64) 3 w130 w.heap.size (fun k_ => (w.heap.size ≤ k_) ∧ some k_ ≠ (v190 : Value).ownBlock ∧ some k_ ≠ (u175001 : Value).ownBlock) u175000 x175000_2) := ⟨h2_⟩
          have n3_ : Aside0 (Kd.R (Kd.int .i64) 3 w130 w.heap.size (fun k_ => (w.heap.size ≤ k_) ∧ some k_ ≠ (v190 : Value).ownBlock ∧ some k_ ≠ (u175000 : Value).ownBlock) u175001 x175001_2) := ⟨h3_⟩
          have n4_ : Aside0 (Kd.V (Kd.int .i64) 3 w130 w.heap.size (fun k_ => (P0_1_ k_ ∨ w.heap.size ≤ k_) ∧ some k_ ≠ (v190 : Value).ownBlock ∧ some k_ ≠ (u175000 : Value).ownBlock ∧ some k_ ≠ (u175001 : Value).ownBlock ∧ k_ ≠ gb165 ∧ k_ ≠ gb166 ∧ k_ ≠ gb167 ∧ k_ ≠ gb174 ∧ k_ ≠ gb178 ∧ k_ ≠ gb193) (.slice Ao125 x179001_2.length co125) x179001_2) := ⟨h4_⟩
          have n5_ : Aside0 (w130.heap[gb165]? = some (.cells #[.int .i64 a0_0, .slice A0_1 l0_1.length c0_1] 30 (0, 0))) := ⟨h5_⟩
          have n6_ : Aside0 (w130.heap[gb166]? = some (.cells #[.int .i64 a1_0, .int .i64 a1_1, .int .i64 a1_2] 32 (0, 0))) := ⟨h6_⟩
          have n7_ : Aside0 (w130.heap[gb167]? = some (.cells #[.slice none 0 0, .slice none 0 0, .int .i64 x168002_2] 89 (0, 0))) := ⟨h7_⟩
          have n8_ : Aside0 (w130.heap[gb174]? = some (.cells #[u175000, u175001, .int .i64 x175002_2] 89 (0, 0))) := ⟨h8_⟩
          have n9_ : Aside0 (w130.heap[gb178]? = some (.cells #[.int .i64 x179000_2, .slice Ao125 x179001_2.length co125] 30 (0, 0))) := ⟨h9_⟩
          have n10_ : Aside0 (w130.heap[gb193]? = some (.cells #[.int .i64 0, .slice none 0 0] 30 (0, 0))) := ⟨h10_⟩
          have n11_ : Aside0 (w.heap.size ≤ gb193) := ⟨h11_⟩
          have n12_ : Aside0 (w.heap.size ≤ gb193) := ⟨h12_⟩
          have n13_ : Aside0 (gb165 ≠ gb193) := ⟨h13_⟩
          have n14_ : Aside0 (gb193 ≠ gb165) := ⟨h14_⟩
          have n15_ : Aside0 (gb166 ≠ gb193) := ⟨h15_⟩
          have n16_ : Aside0 (gb193 ≠ gb166) := ⟨h16_⟩
          have n17_ : Aside0 (gb167 ≠ gb193) := ⟨h17_⟩
          have n18_ : Aside0 (gb193 ≠ gb167) := ⟨h18_⟩
          have n19_ : Aside0 (gb174 ≠ gb193) := ⟨h19_⟩
          have n20_ : Aside0 (gb193 ≠ gb174) := ⟨h20_⟩
          have n21_ : Aside0 (gb178 ≠ gb193) := ⟨h21_⟩
          have n22_ : Aside0 (gb193 ≠ gb178) := ⟨h22_⟩
          have n23_ : Aside0 (Below w.heap.size w w130) := ⟨h23_⟩
          clear HO_166001
          clear HO_175000
          clear HO_175001
          clear HO_179001
          clear BK165
          clear BK166
          clear BK167
          clear BK174
          clear BK178
          clear HB
          clear h0_ h1_ h2_ h3_ h4_ h5_ h6_ h7_ h8_ h9_ h10_ h11_ h12_ h13_ h14_ h15_ h16_ h17_ h18_ h19_ h20_ h21_ h22_ h23_
          have HO191 := n0_
          have HO_166001 := n1_
          have HO_175000 := n2_
          have HO_175001 := n3_
          have HO_179001 := n4_
          have BK165 := n5_
          have BK166 := n6_
          have BK167 := n7_
          have BK174 := n8_
          have BK178 := n9_
          have BK193 := n10_
          have GW193 := n11_
          have GE193 := n12_
          have NB165_193 := n13_
          have NB193_165 := n14_
          have NB166_193 := n15_
          have NB193_166 := n16_
          have NB167_193 := n17_
          have NB193_167 := n18_
          have NB174_193 := n19_
          have NB193_174 := n20_
          have NB178_193 := n21_
          have NB193_178 := n22_
          have HB := n23_
          clear n0_ n1_ n2_ n3_ n4_ n5_ n6_ n7_ n8_ n9_ n10_ n11_ n12_ n13_ n14_ n15_ n16_ n17_ n18_ n19_ n20_ n21_ n22_ n23_
          have hHeld : w130.cell? ⟨gb178, 0, none⟩ = some (.int .i64 x179000_2) ∧ w130.cell? ⟨gb178, 1, none⟩ = some (.slice Ao125 x179001_2.length co125) ∧ w130.cell? (ad187.add (x10_2).toNat) = some (.int .i64 (rd l2 x10_2)) := hS_
          obtain ⟨Ao132, co132, eo132⟩ := Kd.R_slice HO191.out
          (first | subst eo132 | (injection eo132 with f1_ f2_ f3_; have f4_ := f1_.symm; have f5_ := f3_.symm; clear f1_ f2_ f3_; subst f4_; subst f5_))
          refine norm_ (a' := ?_) ?_ ?_
          rotate_left
          ·simp only [putAll, Act.put, List.setIfInBounds_toArray, List.set_cons_zero, List.set_cons_succ]
           rfl
          refine one_ (i := 11) (N := none) #[true, true, true, true, true, true, true, true, true, true, true, true, false] rfl rfl (one_of HT_.out (by kernel_rfl)) (by decide) (fun K hK => ?_)
          have hs131 : w130.cell? ⟨gb193, 0, none⟩ = some (.int .i64 0) := (blk_cell BK193.out 0).trans rfl
          have hfs131 := blk_frozen BK193.out 0
          have hns131_0 := NB165_193.out
          have hns131_1 := NB166_193.out
          have hns131_2 := NB167_193.out
          have hns131_3 := NB174_193.out
          have hns131_4 := NB178_193.out
          have hms131_0 := NB193_165.out
          have hms131_1 := NB193_166.out
          have hms131_2 := NB193_167.out
          have hms131_3 := NB193_174.out
          have hms131_4 := NB193_178.out
          have hs133 : w130.cell? ⟨gb193, 1, none⟩ = some (.slice none 0 0) := (blk_cell BK193.out 1).trans rfl
          have hfs133 := blk_frozen BK193.out 1
          have hns133_0 := NB165_193.out
          have hns133_1 := NB166_193.out
          have hns133_2 := NB167_193.out
          have hns133_3 := NB174_193.out
          have hns133_4 := NB178_193.out
          have hms133_0 := NB193_165.out
          have hms133_1 := NB193_166.out
          have hms133_2 := NB193_167.out
          have hms133_3 := NB193_174.out
          have hms133_4 := NB193_178.out
          refine skip_ (w1 := ?_) (by rfl) rfl ?_ ?_
          rotate_left
          ·go_simp
           rfl
          refine hK.out _ _ ⟨((cell_far (p := ⟨gb193, _, none⟩) NB178_193.out _).trans (((cell_far (p := ⟨gb193, _, none⟩) NB178_193.out _).trans (hHeld.1)))), ((cell_far (p := ⟨gb193, _, none⟩) NB178_193.out _).trans (((cell_far (p := ⟨gb193, _, none⟩) NB178_193.out _).trans (hHeld.2.1)))), ((cell_far (p := ⟨gb193, _, none⟩) (by first | exact Nat.ne_of_lt (Nat.lt_of_lt_of_le (by have := World.block_lt_of_cell? _ _ hw187_0; first | rwa [add_block] at this | exact this) GW193.out) | (rw [add_block]; exact Nat.ne_of_lt (Nat.lt_of_lt_of_le (by have := World.block_lt_of_cell? _ _ hw187_0; first | rwa [add_block] at this | exact this) GW193.out)) | (show (Addr.add _ _).block ≠ _; rw [add_block]; exact Nat.ne_of_lt (Nat.lt_of_lt_of_le (by have := World.block_lt_of_cell? _ _ hw187_0; first | rwa [add_block] at this | exact this) GW193.out)) | (dsimp only; exact Nat.ne_of_lt (Nat.lt_of_lt_of_le (by have := World.block_lt_of_cell? _ _ hw187_0; first | rwa [add_block] at this | exact this) GW193.out))) _).trans (((cell_far (p := ⟨gb193, _, none⟩) (by first | exact Nat.ne_of_lt (Nat.lt_of_lt_of_le (by have := World.block_lt_of_cell? _ _ hw187_0; first | rwa [add_block] at this | exact this) GW193.out) | (rw [add_block]; exact Nat.ne_of_lt (Nat.lt_of_lt_of_le (by have := World.block_lt_of_cell? _ _ hw187_0; first | rwa [add_block] at this | exact this) GW193.out)) | (show (Addr.add _ _).block ≠ _; rw [add_block]; exact Nat.ne_of_lt (Nat.lt_of_lt_of_le (by have := World.block_lt_of_cell? _ _ hw187_0; first | rwa [add_block] at this | exact this) GW193.out)) | (dsimp only; exact Nat.ne_of_lt (Nat.lt_of_lt_of_le (by have := World.block_lt_of_cell? _ _ hw187_0; first | rwa [add_block] at this | exact this) GW193.out))) _).trans (hHeld.2.2))))⟩ (fun hHeld => ?_)
          clear hK K
          refine pure_ (i := 12) (N := some 14) (v := ?_) (a' := ?_) #[true, true, true, true, true, true, true, true, true, true, true, true, true] rfl rfl (any_of HT_.out (by kernel_rfl)) (fun _ _ _ h => h) (Or.inl ⟨by rfl, ?_⟩) ?_ ?_
          rotate_left
          ·intro w'
           go_simp
           with_reducible rfl
          rotate_left
          ·simp only [Act.put, List.setIfInBounds_toArray, List.set_cons_zero, List.set_cons_succ, i64_w, i32_w]
           rfl
          refine done_ (done_of HT_.out (by kernel_rfl)) ?_
          have hnb134 := NB193_165.out
          have hnc134 := NB165_193.out
          have hnb135 := NB193_166.out
          have hnc135 := NB166_193.out
          have hnb136 := NB193_167.out
          have hnc136 := NB167_193.out
          have hnb137 := NB193_174.out
          have hnc137 := NB174_193.out
          have hnb138 := NB193_178.out
          have hnc138 := NB178_193.out
          have hcz139_0 : w130.cell? ⟨gb193, 0, none⟩ = some (.int .i64 0) := (blk_cell BK193.out 0).trans rfl
          have hcz139_1 : w130.cell? ⟨gb193, 1, none⟩ = some (.slice none 0 0) := (blk_cell BK193.out 1).trans rfl
          have hfz139_0 := blk_frozen BK193.out 0
          have hfz139_1 := blk_frozen BK193.out 1
          try go_wp2_with (first | ((with_reducible refine gate_callee (f := 77) rfl ?_); refine goesL_ (some 61) rfl rfl Try.func77 (by kernel_rfl) rfl #[.agg #[.int .i64 t188, .slice Ao132 t189.length co132]] rfl (by (try simp only [List.map_toArray, List.map_cons, List.map_nil]); first | done | rfl | (simp only [List.length_drop, List.length_take]; rfl)) ?_; (with_reducible refine (spec_l11Flow.calls k2 t188 _ _ t189 false _ ?side1 ?side2 A70.out).mono ?_); (case side1 => refine (Kd.R_reads' (e := 3) (base := w.heap.size) (ok := fun k_ => ((w.heap.size ≤ k_) ∧ (some k_ ≠ (u175000 : Value).ownBlock ∧ some k_ ≠ (u175001 : Value).ownBlock))) (n := t189.length) (c := co132) ?_).2.2; exact (by (with_reducible repeat (first | apply Kd.R_alloc | apply Kd.R_drewN | apply Kd.R_drew)); exact (Kd.R_mono (Kd.R_far (p := ⟨gb193, 1, none⟩) (Kd.R_far (p := ⟨gb193, 0, none⟩) (Kd.R_types HO191.out BK193.out (by decide)) (fun _ hk => hk.2) (.int .i64 t188)) (fun _ hk => hk.2) (.slice Ao132 t189.length co132)) (fun _ h_ => h_.1)))); (case side2 => exact (Kd.R_reads' HO191.out).2.1); rintro e w140 ⟨rfl, hb⟩; refine ⟨_, rfl, ?_⟩; have n0_ := zA3 (Kd.V_below (by (with_reducible repeat (first | apply Kd.V_alloc | apply Kd.V_drewN | apply Kd.V_drew)); exact (Kd.V_mono (Kd.V_far (p := ⟨gb193, 1, none⟩) (Kd.V_far (p := ⟨gb193, 0, none⟩) (Kd.V_mono HO_166001.out (fun k_ hk => (⟨hk, hk.2.2.2.2.2.2.2.2.2⟩ : _ ∧ k_ ≠ gb193))) (fun _ hk => hk.2) (.int .i64 t188)) (fun _ hk => hk.2) (.slice Ao132 t189.length co132)) (fun _ h_ => h_.1))) hb); have n1_ := zA3 (Kd.R_below (by (with_reducible repeat (first | apply Kd.R_alloc | apply Kd.R_drewN | apply Kd.R_drew)); exact (Kd.R_mono (Kd.R_far (p := ⟨gb193, 1, none⟩) (Kd.R_far (p := ⟨gb193, 0, none⟩) (Kd.R_types HO_175000.out BK193.out (by decide)) (fun _ hk => hk.2) (.int .i64 t188)) (fun _ hk => hk.2) (.slice Ao132 t189.length co132)) (fun _ h_ => h_.1))) hb); have n2_ := zA3 (Kd.R_below (by (with_reducible repeat (first | apply Kd.R_alloc | apply Kd.R_drewN | apply Kd.R_drew)); exact (Kd.R_mono (Kd.R_far (p := ⟨gb193, 1, none⟩) (Kd.R_far (p := ⟨gb193, 0, none⟩) (Kd.R_types HO_175001.out BK193.out (by decide)) (fun _ hk => hk.2) (.int .i64 t188)) (fun _ hk => hk.2) (.slice Ao132 t189.length co132)) (fun _ h_ => h_.1))) hb); have n3_ := zA3 (Kd.V_below (by (with_reducible repeat (first | apply Kd.V_alloc | apply Kd.V_drewN | apply Kd.V_drew)); exact (Kd.V_mono (Kd.V_far (p := ⟨gb193, 1, none⟩) (Kd.V_far (p := ⟨gb193, 0, none⟩) (Kd.V_mono HO_179001.out (fun k_ hk => (⟨hk, hk.2.2.2.2.2.2.2.2.2⟩ : _ ∧ k_ ≠ gb193))) (fun _ hk => hk.2) (.int .i64 t188)) (fun _ hk => hk.2) (.slice Ao132 t189.length co132)) (fun _ h_ => h_.1))) hb); have n4_ := zA3 (Kd.R_below (by (with_reducible repeat (first | apply Kd.R_alloc | apply Kd.R_drewN | apply Kd.R_drew)); exact (Kd.R_mono (Kd.R_far (p := ⟨gb193, 1, none⟩) (Kd.R_far (p := ⟨gb193, 0, none⟩) (Kd.R_types HO191.out BK193.out (by decide)) (fun _ hk => hk.2) (.int .i64 t188)) (fun _ hk => hk.2) (.slice Ao132 t189.length co132)) (fun _ h_ => h_.1))) hb); have n5_ := zA3 (blk_below (g := gb165) (o := .cells #[.int .i64 a0_0, .slice A0_1 l0_1.length c0_1] 30 (0, 0)) (by (with_reducible repeat (first | refine bN3 ?_ _ | refine bD3 ?_ | refine bA3 ?_ _)); refine blk_far ?_ NB165_193.out _; (with_reducible repeat (first | refine bN3 ?_ _ | refine bD3 ?_ | refine bA3 ?_ _)); refine blk_far ?_ NB165_193.out _; (with_reducible repeat (first | refine bN3 ?_ _ | refine bD3 ?_ | refine bA3 ?_ _)); exact BK165.out) hb); have n6_ := zA3 (blk_below (g := gb166) (o := .cells #[.int .i64 a1_0, .int .i64 a1_1, .int .i64 a1_2] 32 (0, 0)) (by (with_reducible repeat (first | refine bN3 ?_ _ | refine bD3 ?_ | refine bA3 ?_ _)); refine blk_far ?_ NB166_193.out _; (with_reducible repeat (first | refine bN3 ?_ _ | refine bD3 ?_ | refine bA3 ?_ _)); refine blk_far ?_ NB166_193.out _; (with_reducible repeat (first | refine bN3 ?_ _ | refine bD3 ?_ | refine bA3 ?_ _)); exact BK166.out) hb); have n7_ := zA3 (blk_below (g := gb167) (o := .cells #[.slice none 0 0, .slice none 0 0, .int .i64 x168002_2] 89 (0, 0)) (by (with_reducible repeat (first | refine bN3 ?_ _ | refine bD3 ?_ | refine bA3 ?_ _)); refine blk_far ?_ NB167_193.out _; (with_reducible repeat (first | refine bN3 ?_ _ | refine bD3 ?_ | refine bA3 ?_ _)); refine blk_far ?_ NB167_193.out _; (with_reducible repeat (first | refine bN3 ?_ _ | refine bD3 ?_ | refine bA3 ?_ _)); exact BK167.out) hb); have n8_ := zA3 (blk_below (g := gb174) (o := .cells #[u175000, u175001, .int .i64 x175002_2] 89 (0, 0)) (by (with_reducible repeat (first | refine bN3 ?_ _ | refine bD3 ?_ | refine bA3 ?_ _)); refine blk_far ?_ NB174_193.out _; (with_reducible repeat (first | refine bN3 ?_ _ | refine bD3 ?_ | refine bA3 ?_ _)); refine blk_far ?_ NB174_193.out _; (with_reducible repeat (first | refine bN3 ?_ _ | refine bD3 ?_ | refine bA3 ?_ _)); exact BK174.out) hb); have n9_ := zA3 (blk_below (g := gb178) (o := .cells #[.int .i64 x179000_2, .slice Ao125 x179001_2.length co125] 30 (0, 0)) (by (with_reducible repeat (first | refine bN3 ?_ _ | refine bD3 ?_ | refine bA3 ?_ _)); refine blk_far ?_ NB178_193.out _; (with_reducible repeat (first | refine bN3 ?_ _ | refine bD3 ?_ | refine bA3 ?_ _)); refine blk_far ?_ NB178_193.out _; (with_reducible repeat (first | refine bN3 ?_ _ | refine bD3 ?_ | refine bA3 ?_ _)); exact BK178.out) hb); have n10_ := zA3 (blk_below (g := gb193) (o := .cells #[.int .i64 t188, .slice Ao132 t189.length co132] 30 (0, 0)) (by (with_reducible repeat (first | refine bN3 ?_ _ | refine bD3 ?_ | refine bA3 ?_ _)); refine blk_put (cs := #[.int .i64 t188, .slice none 0 0]) ?_ 1 _ rfl; (with_reducible repeat (first | refine bN3 ?_ _ | refine bD3 ?_ | refine bA3 ?_ _)); refine blk_put (cs := #[.int .i64 0, .slice none 0 0]) ?_ 0 _ rfl; (with_reducible repeat (first | refine bN3 ?_ _ | refine bD3 ?_ | refine bA3 ?_ _)); exact BK193.out) hb); have n11_ := zA3 (below_step (by repeat (first | (with_reducible first | exact HB.out | apply below_alloc | apply pw_below_drewN | apply below_drew1 | refine below_set ?_ GE165.out | refine below_set ?_ GE166.out | refine below_set ?_ GE167.out | refine below_set ?_ GE174.out | refine below_set ?_ GE178.out | refine below_set ?_ GE193.out) | exact HB.out)) hb); clear HO_166001; clear HO_175000; clear HO_175001; clear HO_179001; clear HO191; clear BK165; clear BK166; clear BK167; clear BK174; clear BK178; clear BK193; clear HB; have HO_166001 := n0_; have HO_175000 := n1_; have HO_175001 := n2_; have HO_179001 := n3_; have HO191 := n4_; have BK165 := n5_; have BK166 := n6_; have BK167 := n7_; have BK174 := n8_; have BK178 := n9_; have BK193 := n10_; have HB := n11_; clear n0_ n1_ n2_ n3_ n4_ n5_ n6_ n7_ n8_ n9_ n10_ n11_; (try clear hb); (try clear hb2); (try clear hk); (try clear hi)) | ((with_reducible refine gate_dst (N := 63) rfl ?_); refine Kd.R_lit (Kd.int .i64) _ 3 ?hg (N := 63) ?hd (xs := ([] : List Int)) (inner := []) (ok := fun _ => True) (okp := fun _ => True) ?hr ?hp (fun _ hk => hk) trivial (Below.refl _ _) (Nat.le_refl _) (by simp) ?_; (case hd => rfl); (case hg => rfl); (case hr => first | (go_simp; done) | (go_simp; rfl)); (case hp => exact (Reps.none _ _)); intro v205 w141 ho142 hb hg_ hnew_; clear hg_ hnew_; (first | rw [← Ny204.out] at ho142 | (simp only [Int.reduceToNat] at ho142; rw [← Ny204.out] at ho142)); have n0_ := zA3 (Kd.V_elder' (by (with_reducible repeat (first | apply Kd.V_alloc | apply Kd.V_drewN | apply Kd.V_drew)); exact HO_166001.out) (Kd.R_base ho142) hb); have n1_ := zA3 (Kd.R_elder' (by (with_reducible repeat (first | apply Kd.R_alloc | apply Kd.R_drewN | apply Kd.R_drew)); exact HO_175000.out) (Kd.R_base ho142) hb); have n2_ := zA3 (Kd.R_elder' (by (with_reducible repeat (first | apply Kd.R_alloc | apply Kd.R_drewN | apply Kd.R_drew)); exact HO_175001.out) (Kd.R_base ho142) hb); have n3_ := zA3 (Kd.V_elder' (by (with_reducible repeat (first | apply Kd.V_alloc | apply Kd.V_drewN | apply Kd.V_drew)); exact HO_179001.out) (Kd.R_base ho142) hb); have n4_ := zA3 (Kd.R_elder' (by (with_reducible repeat (first | apply Kd.R_alloc | apply Kd.R_drewN | apply Kd.R_drew)); exact HO191.out) (Kd.R_base ho142) hb); have n5_ := zA3 (Kd.R_lower (Kd.R_new' (Kd.R_new' (Kd.R_new' (Kd.R_newM (M := fun k_ => (w.heap.size ≤ k_)) ho142 (below_size (by repeat (first | (with_reducible first | exact HB.out | apply below_alloc | apply pw_below_drewN | apply below_drew1 | refine below_set ?_ GE165.out | refine below_set ?_ GE166.out | refine below_set ?_ GE167.out | refine below_set ?_ GE174.out | refine below_set ?_ GE178.out | refine below_set ?_ GE193.out) | exact HB.out))) (fun k_ h_ => h_)) (Kd.R_lt (by (with_reducible repeat (first | apply Kd.R_alloc | apply Kd.R_drewN | apply Kd.R_drew)); exact HO_175000.out))) (Kd.R_lt (by (with_reducible repeat (first | apply Kd.R_alloc | apply Kd.R_drewN | apply Kd.R_drew)); exact HO_175001.out))) (Kd.R_lt (by (with_reducible repeat (first | apply Kd.R_alloc | apply Kd.R_drewN | apply Kd.R_drew)); exact HO191.out))) (below_size (by repeat (first | (with_reducible first | exact HB.out | apply below_alloc | apply pw_below_drewN | apply below_drew1 | refine below_set ?_ GE165.out | refine below_set ?_ GE166.out | refine below_set ?_ GE167.out | refine below_set ?_ GE174.out | refine below_set ?_ GE178.out | refine below_set ?_ GE193.out) | exact HB.out)))); have n6_ := zA3 (blk_below (g := gb165) (o := .cells #[.int .i64 a0_0, .slice A0_1 l0_1.length c0_1] 30 (0, 0)) (by (with_reducible repeat (first | refine bN3 ?_ _ | refine bD3 ?_ | refine bA3 ?_ _)); exact BK165.out) hb); have n7_ := zA3 (blk_below (g := gb166) (o := .cells #[.int .i64 a1_0, .int .i64 a1_1, .int .i64 a1_2] 32 (0, 0)) (by (with_reducible repeat (first | refine bN3 ?_ _ | refine bD3 ?_ | refine bA3 ?_ _)); exact BK166.out) hb); have n8_ := zA3 (blk_below (g := gb167) (o := .cells #[.slice none 0 0, .slice none 0 0, .int .i64 x168002_2] 89 (0, 0)) (by (with_reducible repeat (first | refine bN3 ?_ _ | refine bD3 ?_ | refine bA3 ?_ _)); exact BK167.out) hb); have n9_ := zA3 (blk_below (g := gb174) (o := .cells #[u175000, u175001, .int .i64 x175002_2] 89 (0, 0)) (by (with_reducible repeat (first | refine bN3 ?_ _ | refine bD3 ?_ | refine bA3 ?_ _)); exact BK174.out) hb); have n10_ := zA3 (blk_below (g := gb178) (o := .cells #[.int .i64 x179000_2, .slice Ao125 x179001_2.length co125] 30 (0, 0)) (by (with_reducible repeat (first | refine bN3 ?_ _ | refine bD3 ?_ | refine bA3 ?_ _)); exact BK178.out) hb); have n11_ := zA3 (blk_below (g := gb193) (o := .cells #[.int .i64 t188, .slice Ao132 t189.length co132] 30 (0, 0)) (by (with_reducible repeat (first | refine bN3 ?_ _ | refine bD3 ?_ | refine bA3 ?_ _)); exact BK193.out) hb); have n12_ := zA3 (below_step (by repeat (first | (with_reducible first | exact HB.out | apply below_alloc | apply pw_below_drewN | apply below_drew1 | refine below_set ?_ GE165.out | refine below_set ?_ GE166.out | refine below_set ?_ GE167.out | refine below_set ?_ GE174.out | refine below_set ?_ GE178.out | refine below_set ?_ GE193.out) | exact HB.out)) hb); clear HO_166001; clear HO_175000; clear HO_175001; clear HO_179001; clear HO191; clear BK165; clear BK166; clear BK167; clear BK174; clear BK178; clear BK193; clear HB; have HO_166001 := n0_; have HO_175000 := n1_; have HO_175001 := n2_; have HO_179001 := n3_; have HO191 := n4_; have HO206 := n5_; have BK165 := n6_; have BK166 := n7_; have BK167 := n8_; have BK174 := n9_; have BK178 := n10_; have BK193 := n11_; have HB := n12_; clear n0_ n1_ n2_ n3_ n4_ n5_ n6_ n7_ n8_ n9_ n10_ n11_ n12_; clear hb ho142) | ((with_reducible refine gate_dst (N := 64) rfl ?_); refine Kd.R_lit (Kd.int .i64) _ 3 ?hg (N := 64) ?hd (xs := ([] : List Int)) (inner := []) (ok := fun _ => True) (okp := fun _ => True) ?hr ?hp (fun _ hk => hk) trivial (Below.refl _ _) (Nat.le_refl _) (by simp) ?_; (case hd => rfl); (case hg => rfl); (case hr => first | (go_simp; done) | (go_simp; rfl)); (case hp => exact (Reps.none _ _)); intro v208 w143 ho144 hb hg_ hnew_; clear hg_ hnew_; (first | rw [← Ny207.out] at ho144 | (simp only [Int.reduceToNat] at ho144; rw [← Ny207.out] at ho144)); have n0_ := zA3 (Kd.V_elder' (by (with_reducible repeat (first | apply Kd.V_alloc | apply Kd.V_drewN | apply Kd.V_drew)); exact HO_166001.out) (Kd.R_base ho144) hb); have n1_ := zA3 (Kd.R_elder' (by (with_reducible repeat (first | apply Kd.R_alloc | apply Kd.R_drewN | apply Kd.R_drew)); exact HO_175000.out) (Kd.R_base ho144) hb); have n2_ := zA3 (Kd.R_elder' (by (with_reducible repeat (first | apply Kd.R_alloc | apply Kd.R_drewN | apply Kd.R_drew)); exact HO_175001.out) (Kd.R_base ho144) hb); have n3_ := zA3 (Kd.V_elder' (by (with_reducible repeat (first | apply Kd.V_alloc | apply Kd.V_drewN | apply Kd.V_drew)); exact HO_179001.out) (Kd.R_base ho144) hb); have n4_ := zA3 (Kd.R_elder' (by (with_reducible repeat (first | apply Kd.R_alloc | apply Kd.R_drewN | apply Kd.R_drew)); exact HO191.out) (Kd.R_base ho144) hb); have n5_ := zA3 (Kd.R_elder' (by (with_reducible repeat (first | apply Kd.R_alloc | apply Kd.R_drewN | apply Kd.R_drew)); exact HO206.out) (Kd.R_base ho144) hb); have n6_ := zA3 (Kd.R_lower (Kd.R_new' (Kd.R_new' (Kd.R_new' (Kd.R_new' (Kd.R_newM (M := fun k_ => (w.heap.size ≤ k_)) ho144 (below_size (by repeat (first | (with_reducible first | exact HB.out | apply below_alloc | apply pw_below_drewN | apply below_drew1 | refine below_set ?_ GE165.out | refine below_set ?_ GE166.out | refine below_set ?_ GE167.out | refine below_set ?_ GE174.out | refine below_set ?_ GE178.out | refine below_set ?_ GE193.out) | exact HB.out))) (fun k_ h_ => h_)) (Kd.R_lt (by (with_reducible repeat (first | apply Kd.R_alloc | apply Kd.R_drewN | apply Kd.R_drew)); exact HO_175000.out))) (Kd.R_lt (by (with_reducible repeat (first | apply Kd.R_alloc | apply Kd.R_drewN | apply Kd.R_drew)); exact HO_175001.out))) (Kd.R_lt (by (with_reducible repeat (first | apply Kd.R_alloc | apply Kd.R_drewN | apply Kd.R_drew)); exact HO191.out))) (Kd.R_lt (by (with_reducible repeat (first | apply Kd.R_alloc | apply Kd.R_drewN | apply Kd.R_drew)); exact HO206.out))) (below_size (by repeat (first | (with_reducible first | exact HB.out | apply below_alloc | apply pw_below_drewN | apply below_drew1 | refine below_set ?_ GE165.out | refine below_set ?_ GE166.out | refine below_set ?_ GE167.out | refine below_set ?_ GE174.out | refine below_set ?_ GE178.out | refine below_set ?_ GE193.out) | exact HB.out)))); have n7_ := zA3 (blk_below (g := gb165) (o := .cells #[.int .i64 a0_0, .slice A0_1 l0_1.length c0_1] 30 (0, 0)) (by (with_reducible repeat (first | refine bN3 ?_ _ | refine bD3 ?_ | refine bA3 ?_ _)); exact BK165.out) hb); have n8_ := zA3 (blk_below (g := gb166) (o := .cells #[.int .i64 a1_0, .int .i64 a1_1, .int .i64 a1_2] 32 (0, 0)) (by (with_reducible repeat (first | refine bN3 ?_ _ | refine bD3 ?_ | refine bA3 ?_ _)); exact BK166.out) hb); have n9_ := zA3 (blk_below (g := gb167) (o := .cells #[.slice none 0 0, .slice none 0 0, .int .i64 x168002_2] 89 (0, 0)) (by (with_reducible repeat (first | refine bN3 ?_ _ | refine bD3 ?_ | refine bA3 ?_ _)); exact BK167.out) hb); have n10_ := zA3 (blk_below (g := gb174) (o := .cells #[u175000, u175001, .int .i64 x175002_2] 89 (0, 0)) (by (with_reducible repeat (first | refine bN3 ?_ _ | refine bD3 ?_ | refine bA3 ?_ _)); exact BK174.out) hb); have n11_ := zA3 (blk_below (g := gb178) (o := .cells #[.int .i64 x179000_2, .slice Ao125 x179001_2.length co125] 30 (0, 0)) (by (with_reducible repeat (first | refine bN3 ?_ _ | refine bD3 ?_ | refine bA3 ?_ _)); exact BK178.out) hb); have n12_ := zA3 (blk_below (g := gb193) (o := .cells #[.int .i64 t188, .slice Ao132 t189.length co132] 30 (0, 0)) (by (with_reducible repeat (first | refine bN3 ?_ _ | refine bD3 ?_ | refine bA3 ?_ _)); exact BK193.out) hb); have n13_ := zA3 (below_step (by repeat (first | (with_reducible first | exact HB.out | apply below_alloc | apply pw_below_drewN | apply below_drew1 | refine below_set ?_ GE165.out | refine below_set ?_ GE166.out | refine below_set ?_ GE167.out | refine below_set ?_ GE174.out | refine below_set ?_ GE178.out | refine below_set ?_ GE193.out) | exact HB.out)) hb); clear HO_166001; clear HO_175000; clear HO_175001; clear HO_179001; clear HO191; clear HO206; clear BK165; clear BK166; clear BK167; clear BK174; clear BK178; clear BK193; clear HB; have HO_166001 := n0_; have HO_175000 := n1_; have HO_175001 := n2_; have HO_179001 := n3_; have HO191 := n4_; have HO206 := n5_; have HO209 := n6_; have BK165 := n7_; have BK166 := n8_; have BK167 := n9_; have BK174 := n10_; have BK178 := n11_; have BK193 := n12_; have HB := n13_; clear n0_ n1_ n2_ n3_ n4_ n5_ n6_ n7_ n8_ n9_ n10_ n11_ n12_ n13_; clear hb ho144; obtain ⟨Ao145, co145, eo145⟩ := Kd.R_slice HO209.out; subst eo145; obtain ⟨Ao146, co146, eo146⟩ := Kd.R_slice HO206.out; subst eo146; have hnb147 := NB167_165.out; have hnc147 := NB165_167.out; have hnb148 := NB167_174.out; have hnc148 := NB174_167.out; have hcz149_0 : w143.cell? ⟨gb167, 0, none⟩ = some (.slice none 0 0) := (blk_cell BK167.out 0).trans rfl; have hcz149_1 : w143.cell? ⟨gb167, 1, none⟩ = some (.slice none 0 0) := (blk_cell BK167.out 1).trans rfl; have hcz149_2 : w143.cell? ⟨gb167, 2, none⟩ = some (.int .i64 x168002_2) := (blk_cell BK167.out 2).trans rfl; have hfz149_0 := blk_frozen BK167.out 0; have hfz149_1 := blk_frozen BK167.out 1; have hfz149_2 := blk_frozen BK167.out 2))
          refine bodyPost_ret (results_ct rfl _ _ gb167 89 #[.slice Ao146 y204.length co146, .slice Ao145 y207.length co145, .int .i64 0] (0, 0) _ rfl (by (with_reducible repeat (first | refine bN3 ?_ _ | refine bD3 ?_ | refine bA3 ?_ _)); refine blk_put (cs := #[.slice Ao146 y204.length co146, .slice Ao145 y207.length co145, .int .i64 x168002_2]) ?_ 2 _ rfl; (with_reducible repeat (first | refine bN3 ?_ _ | refine bD3 ?_ | refine bA3 ?_ _)); refine blk_put (cs := #[.slice Ao146 y204.length co146, .slice none 0 0, .int .i64 x168002_2]) ?_ 1 _ rfl; (with_reducible repeat (first | refine bN3 ?_ _ | refine bD3 ?_ | refine bA3 ?_ _)); refine blk_put (cs := #[.slice none 0 0, .slice none 0 0, .int .i64 x168002_2]) ?_ 0 _ rfl; (with_reducible repeat (first | refine bN3 ?_ _ | refine bD3 ?_ | refine bA3 ?_ _)); exact BK167.out) Try.underlying89 rfl (by kernel_rfl)) rfl ?_
          exact ⟨_, _, by first | rfl | (simp [errW_none, errW_some] <;> rfl) | (simp [*, errW_none, errW_some] <;> rfl), by (with_reducible repeat (first | apply Kd.R_alloc | apply Kd.R_drewN | apply Kd.R_drew)); exact Kd.R_mono (Kd.R_far (p := ⟨gb167, 2, none⟩) (Kd.R_far (p := ⟨gb167, 1, none⟩) (Kd.R_far (p := ⟨gb167, 0, none⟩) (Kd.R_types HO206.out BK167.out (by decide)) (fun _ hk => hk.2) (.slice Ao146 y204.length co146)) (fun _ hk => hk.2) (.slice Ao145 y207.length co145)) (fun _ hk => hk.2) (.int .i64 0)) (fun _ hk => ⟨hk.1.1.1.1.1.1, hk.1.2⟩), by (with_reducible repeat (first | apply Kd.R_alloc | apply Kd.R_drewN | apply Kd.R_drew)); exact Kd.R_mono (Kd.R_far (p := ⟨gb167, 2, none⟩) (Kd.R_far (p := ⟨gb167, 1, none⟩) (Kd.R_far (p := ⟨gb167, 0, none⟩) (Kd.R_types HO209.out BK167.out (by decide)) (fun _ hk => hk.2) (.slice Ao146 y204.length co146)) (fun _ hk => hk.2) (.slice Ao145 y207.length co145)) (fun _ hk => hk.2) (.int .i64 0)) (fun _ hk => ⟨hk.1.1.1.1.1.1, hk.1.2⟩), by repeat (first | (with_reducible first | exact HB.out | apply below_alloc | apply pw_below_drewN | apply below_drew1 | refine below_set ?_ GE165.out | refine below_set ?_ GE166.out | refine below_set ?_ GE167.out | refine below_set ?_ GE174.out | refine below_set ?_ GE178.out | refine below_set ?_ GE193.out) | exact HB.out)⟩
        ·rw [if_neg c68] at H
         exact absurd H (by simp)
       ·replace c67 := Bool.eq_false_iff.mpr c67
        subst c67
        have H1 : (some ((([] : List Int)), (([] : List Int)), 0, false)) = some (r1, r2, r3, r4) := by rw [if_neg (show ¬ (false = true) by decide)] at H; exact H
        clear H
        have H := H1
        clear H1
        obtain ⟨y181, hy181⟩ : ∃ y_ : List Int, y_ = (([] : List Int)) := ⟨_, rfl⟩
        replace H : (some (y181, (([] : List Int)), 0, false)) = some (r1, r2, r3, r4) := by first | (rw [hy181]; with_reducible exact H) | (have H2_ := (Option.bind_some _ _).symm.trans H; rw [hy181]; with_reducible exact H2_) | (have H2_ := (Option.bind_some _ _).symm.trans H; with_reducible exact H2_) | with_reducible exact H | (rw [hy181]; exact H) | exact H
        have Ny181 := zA3 hy181
        clear hy181
        obtain ⟨y184, hy184⟩ : ∃ y_ : List Int, y_ = (([] : List Int)) := ⟨_, rfl⟩
        replace H : (some (y181, y184, 0, false)) = some (r1, r2, r3, r4) := by first | (rw [hy184]; with_reducible exact H) | (have H2_ := (Option.bind_some _ _).symm.trans H; rw [hy184]; with_reducible exact H2_) | (have H2_ := (Option.bind_some _ _).symm.trans H; with_reducible exact H2_) | with_reducible exact H | (rw [hy184]; exact H) | exact H
        have Ny184 := zA3 hy184
        clear hy184
        simp only [Option.some.injEq, Prod.mk.injEq] at H
        obtain ⟨rfl, rfl, rfl, rfl⟩ := H
        have hnb150 := NB178_165.out
        have hnc150 := NB165_178.out
        have hnb151 := NB178_166.out
        have hnc151 := NB166_178.out
        have hnb152 := NB178_167.out
        have hnc152 := NB167_178.out
        have hnb153 := NB178_174.out
        have hnc153 := NB174_178.out
        have hcz154_0 : wr.cell? ⟨gb178, 0, none⟩ = some (.int .i64 x179000_2) := (blk_cell BK178.out 0).trans rfl
        have hcz154_1 : wr.cell? ⟨gb178, 1, none⟩ = some (u179001) := (blk_cell BK178.out 1).trans rfl
        have hfz154_0 := blk_frozen BK178.out 0
        have hfz154_1 := blk_frozen BK178.out 1
        have hnb155 := NB166_165.out
        have hnc155 := NB165_166.out
        have hnb156 := NB166_167.out
        have hnc156 := NB167_166.out
        have hnb157 := NB166_174.out
        have hnc157 := NB174_166.out
        have hcz158_0 : wr.cell? ⟨gb166, 0, none⟩ = some (.int .i64 a1_0) := (blk_cell BK166.out 0).trans rfl
        have hcz158_1 : wr.cell? ⟨gb166, 1, none⟩ = some (.int .i64 a1_1) := (blk_cell BK166.out 1).trans rfl
        have hcz158_2 : wr.cell? ⟨gb166, 2, none⟩ = some (.int .i64 a1_2) := (blk_cell BK166.out 2).trans rfl
        have hfz158_0 := blk_frozen BK166.out 0
        have hfz158_1 := blk_frozen BK166.out 1
        have hfz158_2 := blk_frozen BK166.out 2
        obtain ⟨Ao159, co159, eo159⟩ := Kd.V_slice HO_179001.out
        subst eo159
        go_wp2_with (first | ((with_reducible refine gate_callee (f := 47) rfl ?_); refine goesL_ (some 42) rfl rfl Try.func47 (by kernel_rfl) rfl #[.agg #[.int .i64 x179000_2, .slice Ao159 x179001_2.length co159], .agg #[.int .i64 a1_0, .int .i64 a1_1, .int .i64 a1_2]] rfl (by (try simp only [List.map_toArray, List.map_cons, List.map_nil]); first | done | rfl | (simp only [List.length_drop, List.length_take]; rfl)) ?_; (with_reducible refine (spec_RuleOrder.calls k2 x179000_2 _ _ x179001_2 a1_0 a1_1 a1_2 t179 false _ ?side1 ?side2 A66.out).mono ?_); (case side1 => repeat (first | exact (Kd.V_reads' HO_179001.out).2.2 | (with_reducible refine Kd.C_alloc ?_ _) | (with_reducible refine Kd.C_drewN ?_ _) | (with_reducible refine Kd.C_drew ?_))); (case side2 => exact (Kd.V_reads' HO_179001.out).2.1); rintro e w160 ⟨rfl, hb⟩; refine ⟨_, rfl, ?_⟩; have n0_ := zA3 (Kd.V_below (by (with_reducible repeat (first | apply Kd.V_alloc | apply Kd.V_drewN | apply Kd.V_drew)); exact HO_166001.out) hb); have n1_ := zA3 (Kd.R_below (by (with_reducible repeat (first | apply Kd.R_alloc | apply Kd.R_drewN | apply Kd.R_drew)); exact HO_175000.out) hb); have n2_ := zA3 (Kd.R_below (by (with_reducible repeat (first | apply Kd.R_alloc | apply Kd.R_drewN | apply Kd.R_drew)); exact HO_175001.out) hb); have n3_ := zA3 (Kd.V_below (by (with_reducible repeat (first | apply Kd.V_alloc | apply Kd.V_drewN | apply Kd.V_drew)); exact HO_179001.out) hb); have n4_ := zA3 (blk_below (g := gb165) (o := .cells #[.int .i64 a0_0, .slice A0_1 l0_1.length c0_1] 30 (0, 0)) (by (with_reducible repeat (first | refine bN3 ?_ _ | refine bD3 ?_ | refine bA3 ?_ _)); exact BK165.out) hb); have n5_ := zA3 (blk_below (g := gb166) (o := .cells #[.int .i64 a1_0, .int .i64 a1_1, .int .i64 a1_2] 32 (0, 0)) (by (with_reducible repeat (first | refine bN3 ?_ _ | refine bD3 ?_ | refine bA3 ?_ _)); exact BK166.out) hb); have n6_ := zA3 (blk_below (g := gb167) (o := .cells #[.slice none 0 0, .slice none 0 0, .int .i64 x168002_2] 89 (0, 0)) (by (with_reducible repeat (first | refine bN3 ?_ _ | refine bD3 ?_ | refine bA3 ?_ _)); exact BK167.out) hb); have n7_ := zA3 (blk_below (g := gb174) (o := .cells #[u175000, u175001, .int .i64 x175002_2] 89 (0, 0)) (by (with_reducible repeat (first | refine bN3 ?_ _ | refine bD3 ?_ | refine bA3 ?_ _)); exact BK174.out) hb); have n8_ := zA3 (blk_below (g := gb178) (o := .cells #[.int .i64 x179000_2, .slice Ao159 x179001_2.length co159] 30 (0, 0)) (by (with_reducible repeat (first | refine bN3 ?_ _ | refine bD3 ?_ | refine bA3 ?_ _)); exact BK178.out) hb); have n9_ := zA3 (below_step (by repeat (first | (with_reducible first | exact HB.out | apply below_alloc | apply pw_below_drewN | apply below_drew1 | refine below_set ?_ GE165.out | refine below_set ?_ GE166.out | refine below_set ?_ GE167.out | refine below_set ?_ GE174.out | refine below_set ?_ GE178.out) | exact HB.out)) hb); clear HO_166001; clear HO_175000; clear HO_175001; clear HO_179001; clear BK165; clear BK166; clear BK167; clear BK174; clear BK178; clear HB; have HO_166001 := n0_; have HO_175000 := n1_; have HO_175001 := n2_; have HO_179001 := n3_; have BK165 := n4_; have BK166 := n5_; have BK167 := n6_; have BK174 := n7_; have BK178 := n8_; have HB := n9_; clear n0_ n1_ n2_ n3_ n4_ n5_ n6_ n7_ n8_ n9_; (try clear hb); (try clear hb2); (try clear hk); (try clear hi)) | ((with_reducible refine gate_dst (N := 47) rfl ?_); refine Kd.R_lit (Kd.int .i64) _ 3 ?hg (N := 47) ?hd (xs := ([] : List Int)) (inner := []) (ok := fun _ => True) (okp := fun _ => True) ?hr ?hp (fun _ hk => hk) trivial (Below.refl _ _) (Nat.le_refl _) (by simp) ?_; (case hd => rfl); (case hg => rfl); (case hr => first | (go_simp; done) | (go_simp; rfl)); (case hp => exact (Reps.none _ _)); intro v182 w161 ho162 hb hg_ hnew_; clear hg_ hnew_; (first | rw [← Ny181.out] at ho162 | (simp only [Int.reduceToNat] at ho162; rw [← Ny181.out] at ho162)); have n0_ := zA3 (Kd.V_elder' (by (with_reducible repeat (first | apply Kd.V_alloc | apply Kd.V_drewN | apply Kd.V_drew)); exact HO_166001.out) (Kd.R_base ho162) hb); have n1_ := zA3 (Kd.R_elder' (by (with_reducible repeat (first | apply Kd.R_alloc | apply Kd.R_drewN | apply Kd.R_drew)); exact HO_175000.out) (Kd.R_base ho162) hb); have n2_ := zA3 (Kd.R_elder' (by (with_reducible repeat (first | apply Kd.R_alloc | apply Kd.R_drewN | apply Kd.R_drew)); exact HO_175001.out) (Kd.R_base ho162) hb); have n3_ := zA3 (Kd.V_elder' (by (with_reducible repeat (first | apply Kd.V_alloc | apply Kd.V_drewN | apply Kd.V_drew)); exact HO_179001.out) (Kd.R_base ho162) hb); have n4_ := zA3 (Kd.R_lower (Kd.R_new' (Kd.R_new' (Kd.R_newM (M := fun k_ => (w.heap.size ≤ k_)) ho162 (below_size (by repeat (first | (with_reducible first | exact HB.out | apply below_alloc | apply pw_below_drewN | apply below_drew1 | refine below_set ?_ GE165.out | refine below_set ?_ GE166.out | refine below_set ?_ GE167.out | refine below_set ?_ GE174.out | refine below_set ?_ GE178.out) | exact HB.out))) (fun k_ h_ => h_)) (Kd.R_lt (by (with_reducible repeat (first | apply Kd.R_alloc | apply Kd.R_drewN | apply Kd.R_drew)); exact HO_175000.out))) (Kd.R_lt (by (with_reducible repeat (first | apply Kd.R_alloc | apply Kd.R_drewN | apply Kd.R_drew)); exact HO_175001.out))) (below_size (by repeat (first | (with_reducible first | exact HB.out | apply below_alloc | apply pw_below_drewN | apply below_drew1 | refine below_set ?_ GE165.out | refine below_set ?_ GE166.out | refine below_set ?_ GE167.out | refine below_set ?_ GE174.out | refine below_set ?_ GE178.out) | exact HB.out)))); have n5_ := zA3 (blk_below (g := gb165) (o := .cells #[.int .i64 a0_0, .slice A0_1 l0_1.length c0_1] 30 (0, 0)) (by (with_reducible repeat (first | refine bN3 ?_ _ | refine bD3 ?_ | refine bA3 ?_ _)); exact BK165.out) hb); have n6_ := zA3 (blk_below (g := gb166) (o := .cells #[.int .i64 a1_0, .int .i64 a1_1, .int .i64 a1_2] 32 (0, 0)) (by (with_reducible repeat (first | refine bN3 ?_ _ | refine bD3 ?_ | refine bA3 ?_ _)); exact BK166.out) hb); have n7_ := zA3 (blk_below (g := gb167) (o := .cells #[.slice none 0 0, .slice none 0 0, .int .i64 x168002_2] 89 (0, 0)) (by (with_reducible repeat (first | refine bN3 ?_ _ | refine bD3 ?_ | refine bA3 ?_ _)); exact BK167.out) hb); have n8_ := zA3 (blk_below (g := gb174) (o := .cells #[u175000, u175001, .int .i64 x175002_2] 89 (0, 0)) (by (with_reducible repeat (first | refine bN3 ?_ _ | refine bD3 ?_ | refine bA3 ?_ _)); exact BK174.out) hb); have n9_ := zA3 (blk_below (g := gb178) (o := .cells #[.int .i64 x179000_2, .slice Ao159 x179001_2.length co159] 30 (0, 0)) (by (with_reducible repeat (first | refine bN3 ?_ _ | refine bD3 ?_ | refine bA3 ?_ _)); exact BK178.out) hb); have n10_ := zA3 (below_step (by repeat (first | (with_reducible first | exact HB.out | apply below_alloc | apply pw_below_drewN | apply below_drew1 | refine below_set ?_ GE165.out | refine below_set ?_ GE166.out | refine below_set ?_ GE167.out | refine below_set ?_ GE174.out | refine below_set ?_ GE178.out) | exact HB.out)) hb); clear HO_166001; clear HO_175000; clear HO_175001; clear HO_179001; clear BK165; clear BK166; clear BK167; clear BK174; clear BK178; clear HB; have HO_166001 := n0_; have HO_175000 := n1_; have HO_175001 := n2_; have HO_179001 := n3_; have HO183 := n4_; have BK165 := n5_; have BK166 := n6_; have BK167 := n7_; have BK174 := n8_; have BK178 := n9_; have HB := n10_; clear n0_ n1_ n2_ n3_ n4_ n5_ n6_ n7_ n8_ n9_ n10_; clear hb ho162) | ((with_reducible refine gate_dst (N := 48) rfl ?_); refine Kd.R_lit (Kd.int .i64) _ 3 ?hg (N := 48) ?hd (xs := ([] : List Int)) (inner := []) (ok := fun _ => True) (okp := fun _ => True) ?hr ?hp (fun _ hk => hk) trivial (Below.refl _ _) (Nat.le_refl _) (by simp) ?_; (case hd => rfl); (case hg => rfl); (case hr => first | (go_simp; done) | (go_simp; rfl)); (case hp => exact (Reps.none _ _)); intro v185 w163 ho164 hb hg_ hnew_; clear hg_ hnew_; (first | rw [← Ny184.out] at ho164 | (simp only [Int.reduceToNat] at ho164; rw [← Ny184.out] at ho164)); have n0_ := zA3 (Kd.V_elder' (by (with_reducible repeat (first | apply Kd.V_alloc | apply Kd.V_drewN | apply Kd.V_drew)); exact HO_166001.out) (Kd.R_base ho164) hb); have n1_ := zA3 (Kd.R_elder' (by (with_reducible repeat (first | apply Kd.R_alloc | apply Kd.R_drewN | apply Kd.R_drew)); exact HO_175000.out) (Kd.R_base ho164) hb); have n2_ := zA3 (Kd.R_elder' (by (with_reducible repeat (first | apply Kd.R_alloc | apply Kd.R_drewN | apply Kd.R_drew)); exact HO_175001.out) (Kd.R_base ho164) hb); have n3_ := zA3 (Kd.V_elder' (by (with_reducible repeat (first | apply Kd.V_alloc | apply Kd.V_drewN | apply Kd.V_drew)); exact HO_179001.out) (Kd.R_base ho164) hb); have n4_ := zA3 (Kd.R_elder' (by (with_reducible repeat (first | apply Kd.R_alloc | apply Kd.R_drewN | apply Kd.R_drew)); exact HO183.out) (Kd.R_base ho164) hb); have n5_ := zA3 (Kd.R_lower (Kd.R_new' (Kd.R_new' (Kd.R_new' (Kd.R_newM (M := fun k_ => (w.heap.size ≤ k_)) ho164 (below_size (by repeat (first | (with_reducible first | exact HB.out | apply below_alloc | apply pw_below_drewN | apply below_drew1 | refine below_set ?_ GE165.out | refine below_set ?_ GE166.out | refine below_set ?_ GE167.out | refine below_set ?_ GE174.out | refine below_set ?_ GE178.out) | exact HB.out))) (fun k_ h_ => h_)) (Kd.R_lt (by (with_reducible repeat (first | apply Kd.R_alloc | apply Kd.R_drewN | apply Kd.R_drew)); exact HO_175000.out))) (Kd.R_lt (by (with_reducible repeat (first | apply Kd.R_alloc | apply Kd.R_drewN | apply Kd.R_drew)); exact HO_175001.out))) (Kd.R_lt (by (with_reducible repeat (first | apply Kd.R_alloc | apply Kd.R_drewN | apply Kd.R_drew)); exact HO183.out))) (below_size (by repeat (first | (with_reducible first | exact HB.out | apply below_alloc | apply pw_below_drewN | apply below_drew1 | refine below_set ?_ GE165.out | refine below_set ?_ GE166.out | refine below_set ?_ GE167.out | refine below_set ?_ GE174.out | refine below_set ?_ GE178.out) | exact HB.out)))); have n6_ := zA3 (blk_below (g := gb165) (o := .cells #[.int .i64 a0_0, .slice A0_1 l0_1.length c0_1] 30 (0, 0)) (by (with_reducible repeat (first | refine bN3 ?_ _ | refine bD3 ?_ | refine bA3 ?_ _)); exact BK165.out) hb); have n7_ := zA3 (blk_below (g := gb166) (o := .cells #[.int .i64 a1_0, .int .i64 a1_1, .int .i64 a1_2] 32 (0, 0)) (by (with_reducible repeat (first | refine bN3 ?_ _ | refine bD3 ?_ | refine bA3 ?_ _)); exact BK166.out) hb); have n8_ := zA3 (blk_below (g := gb167) (o := .cells #[.slice none 0 0, .slice none 0 0, .int .i64 x168002_2] 89 (0, 0)) (by (with_reducible repeat (first | refine bN3 ?_ _ | refine bD3 ?_ | refine bA3 ?_ _)); exact BK167.out) hb); have n9_ := zA3 (blk_below (g := gb174) (o := .cells #[u175000, u175001, .int .i64 x175002_2] 89 (0, 0)) (by (with_reducible repeat (first | refine bN3 ?_ _ | refine bD3 ?_ | refine bA3 ?_ _)); exact BK174.out) hb); have n10_ := zA3 (blk_below (g := gb178) (o := .cells #[.int .i64 x179000_2, .slice Ao159 x179001_2.length co159] 30 (0, 0)) (by (with_reducible repeat (first | refine bN3 ?_ _ | refine bD3 ?_ | refine bA3 ?_ _)); exact BK178.out) hb); have n11_ := zA3 (below_step (by repeat (first | (with_reducible first | exact HB.out | apply below_alloc | apply pw_below_drewN | apply below_drew1 | refine below_set ?_ GE165.out | refine below_set ?_ GE166.out | refine below_set ?_ GE167.out | refine below_set ?_ GE174.out | refine below_set ?_ GE178.out) | exact HB.out)) hb); clear HO_166001; clear HO_175000; clear HO_175001; clear HO_179001; clear HO183; clear BK165; clear BK166; clear BK167; clear BK174; clear BK178; clear HB; have HO_166001 := n0_; have HO_175000 := n1_; have HO_175001 := n2_; have HO_179001 := n3_; have HO183 := n4_; have HO186 := n5_; have BK165 := n6_; have BK166 := n7_; have BK167 := n8_; have BK174 := n9_; have BK178 := n10_; have HB := n11_; clear n0_ n1_ n2_ n3_ n4_ n5_ n6_ n7_ n8_ n9_ n10_ n11_; clear hb ho164; obtain ⟨Ao165, co165, eo165⟩ := Kd.R_slice HO186.out; subst eo165; obtain ⟨Ao166, co166, eo166⟩ := Kd.R_slice HO183.out; subst eo166; have hnb167 := NB167_165.out; have hnc167 := NB165_167.out; have hnb168 := NB167_174.out; have hnc168 := NB174_167.out; have hcz169_0 : w163.cell? ⟨gb167, 0, none⟩ = some (.slice none 0 0) := (blk_cell BK167.out 0).trans rfl; have hcz169_1 : w163.cell? ⟨gb167, 1, none⟩ = some (.slice none 0 0) := (blk_cell BK167.out 1).trans rfl; have hcz169_2 : w163.cell? ⟨gb167, 2, none⟩ = some (.int .i64 x168002_2) := (blk_cell BK167.out 2).trans rfl; have hfz169_0 := blk_frozen BK167.out 0; have hfz169_1 := blk_frozen BK167.out 1; have hfz169_2 := blk_frozen BK167.out 2))
        refine bodyPost_ret (results_ct rfl _ _ gb167 89 #[.slice Ao166 y181.length co166, .slice Ao165 y184.length co165, .int .i64 0] (0, 0) _ rfl (by (with_reducible repeat (first | refine bN3 ?_ _ | refine bD3 ?_ | refine bA3 ?_ _)); refine blk_put (cs := #[.slice Ao166 y181.length co166, .slice Ao165 y184.length co165, .int .i64 x168002_2]) ?_ 2 _ rfl; (with_reducible repeat (first | refine bN3 ?_ _ | refine bD3 ?_ | refine bA3 ?_ _)); refine blk_put (cs := #[.slice Ao166 y181.length co166, .slice none 0 0, .int .i64 x168002_2]) ?_ 1 _ rfl; (with_reducible repeat (first | refine bN3 ?_ _ | refine bD3 ?_ | refine bA3 ?_ _)); refine blk_put (cs := #[.slice none 0 0, .slice none 0 0, .int .i64 x168002_2]) ?_ 0 _ rfl; (with_reducible repeat (first | refine bN3 ?_ _ | refine bD3 ?_ | refine bA3 ?_ _)); exact BK167.out) Try.underlying89 rfl (by kernel_rfl)) rfl ?_
        exact ⟨_, _, by first | rfl | (simp [errW_none, errW_some] <;> rfl) | (simp [*, errW_none, errW_some] <;> rfl), by (with_reducible repeat (first | apply Kd.R_alloc | apply Kd.R_drewN | apply Kd.R_drew)); exact Kd.R_mono (Kd.R_far (p := ⟨gb167, 2, none⟩) (Kd.R_far (p := ⟨gb167, 1, none⟩) (Kd.R_far (p := ⟨gb167, 0, none⟩) (Kd.R_types HO183.out BK167.out (by decide)) (fun _ hk => hk.2) (.slice Ao166 y181.length co166)) (fun _ hk => hk.2) (.slice Ao165 y184.length co165)) (fun _ hk => hk.2) (.int .i64 0)) (fun _ hk => ⟨hk.1.1.1.1.1, hk.1.2⟩), by (with_reducible repeat (first | apply Kd.R_alloc | apply Kd.R_drewN | apply Kd.R_drew)); exact Kd.R_mono (Kd.R_far (p := ⟨gb167, 2, none⟩) (Kd.R_far (p := ⟨gb167, 1, none⟩) (Kd.R_far (p := ⟨gb167, 0, none⟩) (Kd.R_types HO186.out BK167.out (by decide)) (fun _ hk => hk.2) (.slice Ao166 y181.length co166)) (fun _ hk => hk.2) (.slice Ao165 y184.length co165)) (fun _ hk => hk.2) (.int .i64 0)) (fun _ hk => ⟨hk.1.1.1.1.1, hk.1.2⟩), by repeat (first | (with_reducible first | exact HB.out | apply below_alloc | apply pw_below_drewN | apply below_drew1 | refine below_set ?_ GE165.out | refine below_set ?_ GE166.out | refine below_set ?_ GE167.out | refine below_set ?_ GE174.out | refine below_set ?_ GE178.out) | exact HB.out)⟩
      ·rw [if_neg c65] at H
       have c65b0 : decide (x10_2 < (l2.length : Int)) = false := decide_eq_false c65
       clear c65
       simp only [Option.some.injEq, Prod.mk.injEq] at H
       obtain ⟨rfl, rfl, rfl, rfl⟩ := H
       have hnb170 := NB174_165.out
       have hnc170 := NB165_174.out
       have hnb171 := NB174_166.out
       have hnc171 := NB166_174.out
       have hnb172 := NB174_167.out
       have hnc172 := NB167_174.out
       have hnb173 := NB174_178.out
       have hnc173 := NB178_174.out
       have hcz174_0 : wr.cell? ⟨gb174, 0, none⟩ = some (u175000) := (blk_cell BK174.out 0).trans rfl
       have hcz174_1 : wr.cell? ⟨gb174, 1, none⟩ = some (u175001) := (blk_cell BK174.out 1).trans rfl
       have hcz174_2 : wr.cell? ⟨gb174, 2, none⟩ = some (.int .i64 x175002_2) := (blk_cell BK174.out 2).trans rfl
       have hfz174_0 := blk_frozen BK174.out 0
       have hfz174_1 := blk_frozen BK174.out 1
       have hfz174_2 := blk_frozen BK174.out 2
       obtain ⟨Ao175, co175, eo175⟩ := Kd.R_slice HO_175000.out
       subst eo175
       have hnb176 := NB167_165.out
       have hnc176 := NB165_167.out
       have hnb177 := NB167_166.out
       have hnc177 := NB166_167.out
       have hnb178 := NB167_178.out
       have hnc178 := NB178_167.out
       have hcz179_0 : wr.cell? ⟨gb167, 0, none⟩ = some (.slice none 0 0) := (blk_cell BK167.out 0).trans rfl
       have hcz179_1 : wr.cell? ⟨gb167, 1, none⟩ = some (.slice none 0 0) := (blk_cell BK167.out 1).trans rfl
       have hcz179_2 : wr.cell? ⟨gb167, 2, none⟩ = some (.int .i64 x168002_2) := (blk_cell BK167.out 2).trans rfl
       have hfz179_0 := blk_frozen BK167.out 0
       have hfz179_1 := blk_frozen BK167.out 1
       have hfz179_2 := blk_frozen BK167.out 2
       obtain ⟨Ao180, co180, eo180⟩ := Kd.R_slice HO_175001.out
       subst eo180
       go_wp2
       refine bodyPost_ret (results_ct rfl _ _ gb167 89 #[.slice Ao175 x175000_2.length co175, .slice Ao180 x175001_2.length co180, .int .i64 x175002_2] (0, 0) _ rfl (by (with_reducible repeat (first | refine bN3 ?_ _ | refine bD3 ?_ | refine bA3 ?_ _)); refine blk_put (cs := #[.slice Ao175 x175000_2.length co175, .slice Ao180 x175001_2.length co180, .int .i64 x168002_2]) ?_ 2 _ rfl; (with_reducible repeat (first | refine bN3 ?_ _ | refine bD3 ?_ | refine bA3 ?_ _)); refine blk_put (cs := #[.slice Ao175 x175000_2.length co175, .slice none 0 0, .int .i64 x168002_2]) ?_ 1 _ rfl; (with_reducible repeat (first | refine bN3 ?_ _ | refine bD3 ?_ | refine bA3 ?_ _)); refine blk_put (cs := #[.slice none 0 0, .slice none 0 0, .int .i64 x168002_2]) ?_ 0 _ rfl; (with_reducible repeat (first | refine bN3 ?_ _ | refine bD3 ?_ | refine bA3 ?_ _)); exact BK167.out) Try.underlying89 rfl (by kernel_rfl)) rfl ?_
       exact ⟨_, _, by first | rfl | (simp [errW_none, errW_some] <;> rfl) | (simp [*, errW_none, errW_some] <;> rfl), by (with_reducible repeat (first | apply Kd.R_alloc | apply Kd.R_drewN | apply Kd.R_drew)); exact Kd.R_mono (Kd.R_far (p := ⟨gb167, 2, none⟩) (Kd.R_far (p := ⟨gb167, 1, none⟩) (Kd.R_far (p := ⟨gb167, 0, none⟩) (Kd.R_types HO_175000.out BK167.out (by decide)) (fun _ hk => hk.2) (.slice Ao175 x175000_2.length co175)) (fun _ hk => hk.2) (.slice Ao180 x175001_2.length co180)) (fun _ hk => hk.2) (.int .i64 x175002_2)) (fun _ hk => ⟨hk.1.1, hk.1.2⟩), by (with_reducible repeat (first | apply Kd.R_alloc | apply Kd.R_drewN | apply Kd.R_drew)); exact Kd.R_mono (Kd.R_far (p := ⟨gb167, 2, none⟩) (Kd.R_far (p := ⟨gb167, 1, none⟩) (Kd.R_far (p := ⟨gb167, 0, none⟩) (Kd.R_types HO_175001.out BK167.out (by decide)) (fun _ hk => hk.2) (.slice Ao175 x175000_2.length co175)) (fun _ hk => hk.2) (.slice Ao180 x175001_2.length co180)) (fun _ hk => hk.2) (.int .i64 x175002_2)) (fun _ hk => ⟨hk.1.1, hk.1.2⟩), by repeat (first | (with_reducible first | exact HB.out | apply below_alloc | apply pw_below_drewN | apply below_drew1 | refine below_set ?_ GE165.out | refine below_set ?_ GE166.out | refine below_set ?_ GE167.out | refine below_set ?_ GE174.out | refine below_set ?_ GE178.out) | exact HB.out)⟩

end Go.Proofs.Ytfgclhojgaaepaa.PFnExactRunRule
