-- A text of this session (its program hook.py, over the kit's print.py): not a print of print.sh
-- THIN: one blank for two
import Derived.Test.YtmekmkhdhakohaaPFnExactBestLevelsx0
import Derived.Test.YtmekmkhdhakohaaPFnExactBestLevelsx8
import Derived.Test.YtmekmkhdhakohaaPFnExactBestLevelsx9
import Derived.Test.YtmekmkhdhakohaaPFnExactBestLevelsx11
import Derived.Test.YtmekmkhdhakohaaPFnExactBestLevelsx12
namespace Go.Proofs.Ytmekmkhdhakohaa.PFnExactBestLevels
open Go.RowKit Go.Proofs.YtmekmkhdhakohaaW.PrintWords Go.Proofs.YtmekmkhdhakohaaW.PrintLast Go.Proofs.YtmekmkhdhakohaaW.PrintMore
attribute [local go_sem] max2_int min2_int max_two min_two max_three min_three max_four min_four   -- for this text's walks alone
set_option linter.unusedVariables false
set_option linter.unusedSimpArgs false

-- SQUEEZED
theorem z13_A {p : Prop} (h : p) : Aside0 p := Aside0.mk h
theorem z13_C {p : Prop} (h : p := by repeat (first | exact zh | (with_reducible refine Kd.C_alloc ?_ _) | (with_reducible refine Kd.C_drewN ?_ _) | (with_reducible refine Kd.C_drew ?_))) : p := h
theorem z13_1 {p : Prop} (h : p := by repeat (first | (with_reducible first | exact HB.out | apply below_alloc | apply pw_below_drewN | apply below_drew1 | refine below_set ?_ GE272.out) | exact HB.out)) : p := h
theorem z13_2 {p : Prop} (h : p := by (with_reducible repeat (first | refine blk_drewN ?_ _ | refine blk_drew ?_ | refine blk_alloc ?_ _)); exact BK272.out) : p := h
theorem z13_3 {p : Prop} (h : p := by (with_reducible repeat (first | apply Kd.R_alloc | apply Kd.R_drewN | apply Kd.R_drew)); exact HO_4.out) : p := h
theorem z13_4 {p : Prop} (h : p := by (with_reducible repeat (first | apply Kd.R_alloc | apply Kd.R_drewN | apply Kd.R_drew)); exact HO_5.out) : p := h
theorem z13_5 {p : Prop} (h : p := by kernel_rfl) : p := h
theorem z13_6 {p : Prop} (h : p := by (try simp only [List.map_toArray, List.map_cons, List.map_nil]); first | done | rfl | (simp only [List.length_drop, List.length_take]; rfl)) : p := h
theorem z13_7 {p : Prop} (h : p := by first | (with_reducible assumption) | assumption) : p := h
theorem z13_8 {p : Prop} (h : p := by (with_reducible repeat (first | apply Kd.R_alloc | apply Kd.R_drewN | apply Kd.R_drew)); exact HO_7.out) : p := h
theorem z13_9 {p : Prop} (h : p := by repeat (first | (with_reducible first | exact HB.out | apply below_alloc | apply pw_below_drewN | apply below_drew1) | exact HB.out)) : p := h
theorem z13_10 {p : Prop} (h : p := by first | rfl | (simp; done) | (simp [*]; done)) : p := h
theorem z13_11 {p : Prop} (h : p := by rfl) : p := h
theorem z13_12 {p : Prop} (h : p := by (with_reducible repeat (first | apply Kd.R_alloc | apply Kd.R_drewN | apply Kd.R_drew)); exact HO_31.out) : p := h
theorem z13_13 {p : Prop} (h : p := by (with_reducible repeat (first | apply Kd.R_alloc | apply Kd.R_drewN | apply Kd.R_drew)); exact HO283.out) : p := h
theorem z13_14 {p : Prop} (h : p := by (with_reducible repeat (first | apply Kd.R_alloc | apply Kd.R_drewN | apply Kd.R_drew)); exact HO276.out) : p := h
theorem z13_15 {p : Prop} (h : p := by first | rfl | (simp [errW_none, errW_some] <;> rfl) | (simp [*, errW_none, errW_some] <;> rfl)) : p := h
theorem z13_16 {p : Prop} (h : p := by rw [hg]; exact (below_size z13_9)) : p := h

/-! ### impl_BestLevels: function 45 -/
mutual
def impl_BestLevels.l0 : Nat → List (S72) → List (S94) → Int → Int → Int → List Int → Int → Int → Int → Int → Option ((List (S72)) × Bool)
 | 0, _, _, _, _, _, _, _, _, _, _ => none
 | k + 1, x4, x5, x19, x20, x273000, x273001, x273002, x273003, x273004, x273005 => if x20 < x19 then (if 0 ≤ (wrap64 (x20 + 1)) then (if (wrap64 (x20 + 1)) < (x5.length : Int) then ((impl_Process_bills.f k x273000 x273001 x273002 x273003 x273004 x273005 x20 ((rd_T94 x5 (wrap64 (x20 + 1))).f0) ((rd_T94 x5 (wrap64 (x20 + 1))).f1) ((rd_T94 x5 (wrap64 (x20 + 1))).f2) ((rd_T94 x5 (wrap64 (x20 + 1))).f3) ((rd_T94 x5 (wrap64 (x20 + 1))).f4) ((rd_T94 x5 (wrap64 (x20 + 1))).f5) ((rd_T94 x5 (wrap64 (x20 + 1))).f6) ((rd_T94 x5 (wrap64 (x20 + 1))).f7) ((rd_T94 x5 (wrap64 (x20 + 1))).f8) ((rd_T94 x5 (wrap64 (x20 + 1))).f9) ((rd_T94 x5 (wrap64 (x20 + 1))).f10) ((rd_T94 x5 (wrap64 (x20 + 1))).f11) ((rd_T94 x5 (wrap64 (x20 + 1))).f12) ((rd_T94 x5 (wrap64 (x20 + 1))).f13) ((rd_T94 x5 (wrap64 (x20 + 1))).f14) ((rd_T94 x5 (wrap64 (x20 + 1))).f15) ((rd_T94 x5 (wrap64 (x20 + 1))).f16) ((rd_T94 x5 (wrap64 (x20 + 1))).f17) ((rd_T94 x5 (wrap64 (x20 + 1))).f18) ((rd_T94 x5 (wrap64 (x20 + 1))).f19) ((rd_T94 x5 (wrap64 (x20 + 1))).f20)).bind fun t281 => (impl_BestLevels.l1 k x4 x5 x20 t281 0 x19 x20 t281 (t281.length : Int) 0 x273000 x273001 x273002 x273003 x273004 x273005)) else (none)) else (none)) else (some (x4, true))
def impl_BestLevels.l1 : Nat → List (S72) → List (S94) → Int → List Int → Int → Int → Int → List Int → Int → Int → Int → List Int → Int → Int → Int → Int → Option ((List (S72)) × Bool)
 | 0, _, _, _, _, _, _, _, _, _, _, _, _, _, _, _, _ => none
 | k + 1, x4, x5, x6, x7, x8, x19, x20, x31, x32, x33, x273000, x273001, x273002, x273003, x273004, x273005 => if x33 < x32 then (if 0 ≤ x33 then (if x33 < (x31.length : Int) then (if 0 ≤ x8 then (if x8 < (x7.length : Int) then (if (rd x31 x33) < (rd x7 x8) then (impl_BestLevels.l1 k x4 x5 x6 x7 x33 x19 x20 x31 x32 (wrap64 (x33 + 1)) x273000 x273001 x273002 x273003 x273004 x273005) else (impl_BestLevels.l1 k x4 x5 x6 x7 x8 x19 x20 x31 x32 (wrap64 (x33 + 1)) x273000 x273001 x273002 x273003 x273004 x273005)) else (none)) else (none)) else (none)) else (none)) else (impl_BestLevels.l2 k x4 x5 x6 x7 x8 0 x19 x20 x273000 x273001 x273002 x273003 x273004 x273005)
def impl_BestLevels.l2 : Nat → List (S72) → List (S94) → Int → List Int → Int → Int → Int → Int → Int → List Int → Int → Int → Int → Int → Option ((List (S72)) × Bool)
 | 0, _, _, _, _, _, _, _, _, _, _, _, _, _, _ => none
 | k + 1, x4, x5, x6, x7, x8, x11, x19, x20, x273000, x273001, x273002, x273003, x273004, x273005 => if 0 ≤ x11 then (if x11 < (x7.length : Int) then (if 0 ≤ x8 then (if x8 < (x7.length : Int) then ((impl_Process_whole.f k x273000 x273001 x273002 x273003 x273004 x273005 (wrap64 (x273000 - x6))).bind fun t288 => (if (rd x7 x11) > (wrap64 ((rd x7 x8) + (wrap64 (x273002 * t288)))) then (impl_BestLevels.l2 k x4 x5 x6 x7 x8 (wrap64 (x11 + 1)) x19 x20 x273000 x273001 x273002 x273003 x273004 x273005) else ((impl_Process_floor.f x273000 x273001 x273002 x273003 x273004 x273005).bind fun t289 => ((impl_Process_floor.f x273000 x273001 x273002 x273003 x273004 x273005).bind fun t290 => (if x4.length < 8796093022208 then (impl_BestLevels.l0 k (x4 ++ [(⟨wrap64 (x11 + t289), wrap64 (x8 + t290)⟩ : S72)]) x5 x19 (wrap64 (x20 + 1)) x273000 x273001 x273002 x273003 x273004 x273005) else (none)))))) else (none)) else (none)) else (none)) else (none)
end
def impl_BestLevels.f (k : Nat) (a0_0 : Int) (l0_1 : List Int) (a0_2 : Int) (a0_3 : Int) (a0_4 : Int) (a0_5 : Int) : Option ((List (S72)) × Bool) := (impl_IsProcess.f k a0_0 l0_1 a0_2 a0_3 a0_4 a0_5).bind fun t273 => (if t273 = true then ((impl_Process_worths.f k a0_0 l0_1 a0_2 a0_3 a0_4 a0_5).bind fun t277 => (impl_BestLevels.l0 k (([] : List (S72))) t277 a0_0 0 a0_0 l0_1 a0_2 a0_3 a0_4 a0_5)) else (some (([] : List (S72)), false)))
theorem impl_BestLevels.mono_l : ∀ k, (∀ y0 y1 y2 y3 y4 y5 y6 y7 y8 y9, LeO (impl_BestLevels.l0 k y0 y1 y2 y3 y4 y5 y6 y7 y8 y9) (impl_BestLevels.l0 (k + 1) y0 y1 y2 y3 y4 y5 y6 y7 y8 y9)) ∧ (∀ y0 y1 y2 y3 y4 y5 y6 y7 y8 y9 y10 y11 y12 y13 y14 y15, LeO (impl_BestLevels.l1 k y0 y1 y2 y3 y4 y5 y6 y7 y8 y9 y10 y11 y12 y13 y14 y15) (impl_BestLevels.l1 (k + 1) y0 y1 y2 y3 y4 y5 y6 y7 y8 y9 y10 y11 y12 y13 y14 y15)) ∧ (∀ y0 y1 y2 y3 y4 y5 y6 y7 y8 y9 y10 y11 y12 y13, LeO (impl_BestLevels.l2 k y0 y1 y2 y3 y4 y5 y6 y7 y8 y9 y10 y11 y12 y13) (impl_BestLevels.l2 (k + 1) y0 y1 y2 y3 y4 y5 y6 y7 y8 y9 y10 y11 y12 y13))
 | 0 => ⟨fun _ _ _ _ _ _ _ _ _ _ r h => by simp [impl_BestLevels.l0] at h, fun _ _ _ _ _ _ _ _ _ _ _ _ _ _ _ _ r h => by simp [impl_BestLevels.l1] at h, fun _ _ _ _ _ _ _ _ _ _ _ _ _ _ r h => by simp [impl_BestLevels.l2] at h⟩
 | k + 1 => by
  obtain ⟨ih0, ih1, ih2⟩ := impl_BestLevels.mono_l k
  refine ⟨?_, ?_, ?_⟩
  ·intro y0 y1 y2 y3 y4 y5 y6 y7 y8 y9
   unfold impl_BestLevels.l0
   repeat' first
   | (with_reducible exact ih0 _ _ _ _ _ _ _ _ _ _)
   | (with_reducible exact ih1 _ _ _ _ _ _ _ _ _ _ _ _ _ _ _ _)
   | (with_reducible exact ih2 _ _ _ _ _ _ _ _ _ _ _ _ _ _)
   | (with_reducible exact impl_IsProcess.mono _ _ _ _ _ _ _)
   | (with_reducible exact impl_Process_bills.mono _ _ _ _ _ _ _ _ _ _ _ _ _ _ _ _ _ _ _ _ _ _ _ _ _ _ _ _ _)
   | (with_reducible exact impl_Process_whole.mono _ _ _ _ _ _ _ _)
   | (with_reducible exact impl_Process_worths.mono _ _ _ _ _ _ _)
   | (with_reducible exact LeO.refl _)
   | (with_reducible exact LeO.none _)
   | (with_reducible refine LeO.ite ?_ ?_)
   | (with_reducible refine LeO.bind ?_ (fun _ => ?_))
   | exact ih0 _ _ _ _ _ _ _ _ _ _
   | exact ih1 _ _ _ _ _ _ _ _ _ _ _ _ _ _ _ _
   | exact ih2 _ _ _ _ _ _ _ _ _ _ _ _ _ _
   | exact impl_IsProcess.mono _ _ _ _ _ _ _
   | exact impl_Process_bills.mono _ _ _ _ _ _ _ _ _ _ _ _ _ _ _ _ _ _ _ _ _ _ _ _ _ _ _ _ _
   | exact impl_Process_whole.mono _ _ _ _ _ _ _ _
   | exact impl_Process_worths.mono _ _ _ _ _ _ _
   | exact LeO.none _
   | refine LeO.ite ?_ ?_
   | refine LeO.bind ?_ (fun _ => ?_)
  ·intro y0 y1 y2 y3 y4 y5 y6 y7 y8 y9 y10 y11 y12 y13 y14 y15
   unfold impl_BestLevels.l1
   repeat' first
   | (with_reducible exact ih0 _ _ _ _ _ _ _ _ _ _)
   | (with_reducible exact ih1 _ _ _ _ _ _ _ _ _ _ _ _ _ _ _ _)
   | (with_reducible exact ih2 _ _ _ _ _ _ _ _ _ _ _ _ _ _)
   | (with_reducible exact impl_IsProcess.mono _ _ _ _ _ _ _)
   | (with_reducible exact impl_Process_bills.mono _ _ _ _ _ _ _ _ _ _ _ _ _ _ _ _ _ _ _ _ _ _ _ _ _ _ _ _ _)
   | (with_reducible exact impl_Process_whole.mono _ _ _ _ _ _ _ _)
   | (with_reducible exact impl_Process_worths.mono _ _ _ _ _ _ _)
   | (with_reducible exact LeO.refl _)
   | (with_reducible exact LeO.none _)
   | (with_reducible refine LeO.ite ?_ ?_)
   | (with_reducible refine LeO.bind ?_ (fun _ => ?_))
   | exact ih0 _ _ _ _ _ _ _ _ _ _
   | exact ih1 _ _ _ _ _ _ _ _ _ _ _ _ _ _ _ _
   | exact ih2 _ _ _ _ _ _ _ _ _ _ _ _ _ _
   | exact impl_IsProcess.mono _ _ _ _ _ _ _
   | exact impl_Process_bills.mono _ _ _ _ _ _ _ _ _ _ _ _ _ _ _ _ _ _ _ _ _ _ _ _ _ _ _ _ _
   | exact impl_Process_whole.mono _ _ _ _ _ _ _ _
   | exact impl_Process_worths.mono _ _ _ _ _ _ _
   | exact LeO.none _
   | refine LeO.ite ?_ ?_
   | refine LeO.bind ?_ (fun _ => ?_)
  ·intro y0 y1 y2 y3 y4 y5 y6 y7 y8 y9 y10 y11 y12 y13
   unfold impl_BestLevels.l2
   repeat' first
   | (with_reducible exact ih0 _ _ _ _ _ _ _ _ _ _)
   | (with_reducible exact ih1 _ _ _ _ _ _ _ _ _ _ _ _ _ _ _ _)
   | (with_reducible exact ih2 _ _ _ _ _ _ _ _ _ _ _ _ _ _)
   | (with_reducible exact impl_IsProcess.mono _ _ _ _ _ _ _)
   | (with_reducible exact impl_Process_bills.mono _ _ _ _ _ _ _ _ _ _ _ _ _ _ _ _ _ _ _ _ _ _ _ _ _ _ _ _ _)
   | (with_reducible exact impl_Process_whole.mono _ _ _ _ _ _ _ _)
   | (with_reducible exact impl_Process_worths.mono _ _ _ _ _ _ _)
   | (with_reducible exact LeO.refl _)
   | (with_reducible exact LeO.none _)
   | (with_reducible refine LeO.ite ?_ ?_)
   | (with_reducible refine LeO.bind ?_ (fun _ => ?_))
   | exact ih0 _ _ _ _ _ _ _ _ _ _
   | exact ih1 _ _ _ _ _ _ _ _ _ _ _ _ _ _ _ _
   | exact ih2 _ _ _ _ _ _ _ _ _ _ _ _ _ _
   | exact impl_IsProcess.mono _ _ _ _ _ _ _
   | exact impl_Process_bills.mono _ _ _ _ _ _ _ _ _ _ _ _ _ _ _ _ _ _ _ _ _ _ _ _ _ _ _ _ _
   | exact impl_Process_whole.mono _ _ _ _ _ _ _ _
   | exact impl_Process_worths.mono _ _ _ _ _ _ _
   | exact LeO.none _
   | refine LeO.ite ?_ ?_
   | refine LeO.bind ?_ (fun _ => ?_)
theorem impl_BestLevels.mono : ∀ a0 a1 a2 a3 a4 a5 k, LeO (impl_BestLevels.f k a0 a1 a2 a3 a4 a5) (impl_BestLevels.f (k + 1) a0 a1 a2 a3 a4 a5) := by
 intro a0 a1 a2 a3 a4 a5 k
 obtain ⟨ih0, ih1, ih2⟩ := impl_BestLevels.mono_l k
 unfold impl_BestLevels.f
 repeat' first
   | (with_reducible exact ih0 _ _ _ _ _ _ _ _ _ _)
   | (with_reducible exact ih1 _ _ _ _ _ _ _ _ _ _ _ _ _ _ _ _)
   | (with_reducible exact ih2 _ _ _ _ _ _ _ _ _ _ _ _ _ _)
   | (with_reducible exact impl_IsProcess.mono _ _ _ _ _ _ _)
   | (with_reducible exact impl_Process_bills.mono _ _ _ _ _ _ _ _ _ _ _ _ _ _ _ _ _ _ _ _ _ _ _ _ _ _ _ _ _)
   | (with_reducible exact impl_Process_whole.mono _ _ _ _ _ _ _ _)
   | (with_reducible exact impl_Process_worths.mono _ _ _ _ _ _ _)
   | (with_reducible exact LeO.refl _)
   | (with_reducible exact LeO.none _)
   | (with_reducible refine LeO.ite ?_ ?_)
   | (with_reducible refine LeO.bind ?_ (fun _ => ?_))
   | exact ih0 _ _ _ _ _ _ _ _ _ _
   | exact ih1 _ _ _ _ _ _ _ _ _ _ _ _ _ _ _ _
   | exact ih2 _ _ _ _ _ _ _ _ _ _ _ _ _ _
   | exact impl_IsProcess.mono _ _ _ _ _ _ _
   | exact impl_Process_bills.mono _ _ _ _ _ _ _ _ _ _ _ _ _ _ _ _ _ _ _ _ _ _ _ _ _ _ _ _ _
   | exact impl_Process_whole.mono _ _ _ _ _ _ _ _
   | exact impl_Process_worths.mono _ _ _ _ _ _ _
   | exact LeO.none _
   | refine LeO.ite ?_ ?_
   | refine LeO.bind ?_ (fun _ => ?_)
def impl_BestLevels.T7 : Bool × List (List Nat × List Nat) := (true, [([], []), ([], []), ([], []), ([], []), ([3], [3]), ([2, 4], [2, 4]), ([5], [5]), ([0, 1, 6], [0, 1, 6]), ([7, 7, 0, 1, 2, 3, 4, 5, 6, 7], [7])])
def impl_BestLevels.B7 : List Nat := [0, 0, 0, 0, 8, 28, 60, 127, 255]
theorem impl_BestLevels.tab7 : rtab .any (opsOf Try.f45 7) = impl_BestLevels.T7 := z13_5
theorem impl_BestLevels.bits7 : waitsOk impl_BestLevels.T7.2 impl_BestLevels.B7 = true := z13_5
def impl_BestLevels.T16 : Bool × List (List Nat × List Nat) := (true, [([], []), ([], []), ([0, 1], [0, 1]), ([2], [2]), ([], []), ([], []), ([4, 5], [4, 5]), ([6], [6]), ([], []), ([8], [8]), ([], []), ([], []), ([11], [11]), ([], []), ([12, 13], [12, 13]), ([10, 14], [10, 14]), ([9, 15], [9, 15]), ([7, 16], [7, 16]), ([3, 17], [3, 17])])
def impl_BestLevels.B16 : List Nat := [0, 0, 3, 7, 0, 0, 48, 112, 0, 256, 0, 0, 2048, 0, 14336, 31744, 65280, 131056, 262143]
theorem impl_BestLevels.tab16 : rtab .any (opsOf Try.f45 16) = impl_BestLevels.T16 := z13_5
theorem impl_BestLevels.bits16 : waitsOk impl_BestLevels.T16.2 impl_BestLevels.B16 = true := z13_5
def impl_BestLevels.T18 : Bool × List (List Nat × List Nat) := (true, [([], []), ([], []), ([], []), ([2], [2]), ([1, 3], [1, 3]), ([], []), ([], []), ([6, 3], [6]), ([5, 7], [5, 7]), ([4, 8], [4, 8]), ([9], [9]), ([0, 10, 7], [0, 10]), ([11, 11, 0, 1, 2, 3, 4, 5, 6, 7, 8, 9, 10, 11], [0, 11])])
def impl_BestLevels.B18 : List Nat := [0, 0, 0, 4, 14, 0, 0, 76, 236, 510, 1022, 2047, 4095]
theorem impl_BestLevels.tab18 : rtab .any (opsOf Try.f45 18) = impl_BestLevels.T18 := z13_5
theorem impl_BestLevels.bits18 : waitsOk impl_BestLevels.T18.2 impl_BestLevels.B18 = true := z13_5
set_option maxHeartbeats 8000000 in
set_option maxRecDepth 100000 in
theorem impl_BestLevels.calls (k : Nat) (a0_0 : Int) (A0_1 : Option Addr) (c0_1 : Nat) (l0_1 : List Int) (a0_2 : Int) (a0_3 : Int) (a0_4 : Int) (a0_5 : Int) (r1 : List (S72)) (r2 : Bool) (w : World) (hr0_1 : Kd.C (Kd.int .i64) w A0_1 l0_1.length l0_1) (hc0_1 : l0_1.length ≤ c0_1) (h : impl_BestLevels.f k a0_0 l0_1 a0_2 a0_3 a0_4 a0_5 = some (r1, r2)) :
  Calls Try.prog 45 #[.agg #[.int .i64 a0_0, .slice A0_1 l0_1.length c0_1, .int .i64 a0_2, .int .i64 a0_3, .int .i64 a0_4, .int .i64 a0_5]] w fun e w' => ∃ v0_ : Value, e = .returned (.tuple #[v0_, .bool r2]) ∧ Kd.R k72 72 w' w.heap.size (fun _ => True) v0_ r1 ∧ Below w.heap.size w w' := by
 have hu30 := Try.underlying30
 have hu94 := Try.underlying94
 have hu72 := Try.underlying72
 have HR0_1 := z13_A hr0_1
 have HC0_1 := z13_A hc0_1
 clear hr0_1 hc0_1
 have HB := z13_A (Below.refl w.heap.size w)
 have H : ((impl_IsProcess.f k a0_0 l0_1 a0_2 a0_3 a0_4 a0_5).bind fun t273 => (if t273 = true then ((impl_Process_worths.f k a0_0 l0_1 a0_2 a0_3 a0_4 a0_5).bind fun t277 => (impl_BestLevels.l0 k (([] : List (S72))) t277 a0_0 0 a0_0 l0_1 a0_2 a0_3 a0_4 a0_5)) else (some (([] : List (S72)), false)))) = some (r1, r2) := h
 clear h
 replace H := Option.bind_eq_some_iff.mp H
 obtain ⟨t273, A20, H⟩ := H
 (try dsimp only at H)
 have A2 := z13_A A20
 clear A20
 by_cases c3 : t273 = true
 ·subst c3
  have H1 : ((impl_Process_worths.f k a0_0 l0_1 a0_2 a0_3 a0_4 a0_5).bind fun t277 => (impl_BestLevels.l0 k (([] : List (S72))) t277 a0_0 0 a0_0 l0_1 a0_2 a0_3 a0_4 a0_5)) = some (r1, r2) := by rw [if_pos rfl] at H; exact H
  clear H
  have H := H1
  clear H1
  obtain ⟨y274, hy274⟩ : ∃ y_ : List (S72), y_ = (([] : List (S72))) := ⟨_, rfl⟩
  replace H : ((impl_Process_worths.f k a0_0 l0_1 a0_2 a0_3 a0_4 a0_5).bind fun t277 => (impl_BestLevels.l0 k y274 t277 a0_0 0 a0_0 l0_1 a0_2 a0_3 a0_4 a0_5)) = some (r1, r2) := by first | (rw [hy274]; with_reducible exact H) | (have H2_ := (Option.bind_some _ _).symm.trans H; rw [hy274]; with_reducible exact H2_) | (have H2_ := (Option.bind_some _ _).symm.trans H; with_reducible exact H2_) | with_reducible exact H | (rw [hy274]; exact H) | exact H
  have Ny274 := z13_A hy274
  clear hy274
  replace H := Option.bind_eq_some_iff.mp H
  obtain ⟨t277, A40, H⟩ := H
  (try dsimp only at H)
  have A4 := z13_A A40
  clear A40
  have H' := z13_A H
  clear H
  go_enter Try.func45, Try.ntmps45
  go_wp2_with (first | ((with_reducible refine gate_dst (N := 1) rfl ?_); refine box_event ?hg (N := 1) ?hd (cs := #[.int .i64 a0_0, .slice A0_1 l0_1.length c0_1, .int .i64 a0_2, .int .i64 a0_3, .int .i64 a0_4, .int .i64 a0_5]) (t := 30) ?hr ?_; (case hd => rfl); (case hg => rfl); (case hr => first | (go_simp; done) | (go_simp; rfl)); intro gb272 hg w5 hbox hb; have n0_ := z13_A (below_step z13_9 hb); have n1_ := z13_A (hbox); have n2_ := z13_A ((z13_16 : w.heap.size ≤ gb272)); have n3_ := z13_A ((z13_16 : w.heap.size ≤ gb272)); clear HB; revert n0_ n1_ n2_ n3_; intro HB BK272 GW272 GE272; clear hb hbox hg; have hcz6_0 : w5.cell? ⟨gb272, 0, none⟩ = some (.int .i64 a0_0) := (blk_cell BK272.out 0).trans rfl; have hcz6_1 : w5.cell? ⟨gb272, 1, none⟩ = some (.slice A0_1 l0_1.length c0_1) := (blk_cell BK272.out 1).trans rfl; have hcz6_2 : w5.cell? ⟨gb272, 2, none⟩ = some (.int .i64 a0_2) := (blk_cell BK272.out 2).trans rfl; have hcz6_3 : w5.cell? ⟨gb272, 3, none⟩ = some (.int .i64 a0_3) := (blk_cell BK272.out 3).trans rfl; have hcz6_4 : w5.cell? ⟨gb272, 4, none⟩ = some (.int .i64 a0_4) := (blk_cell BK272.out 4).trans rfl; have hcz6_5 : w5.cell? ⟨gb272, 5, none⟩ = some (.int .i64 a0_5) := (blk_cell BK272.out 5).trans rfl; have hfz6_0 := blk_frozen BK272.out 0; have hfz6_1 := blk_frozen BK272.out 1; have hfz6_2 := blk_frozen BK272.out 2; have hfz6_3 := blk_frozen BK272.out 3; have hfz6_4 := blk_frozen BK272.out 4; have hfz6_5 := blk_frozen BK272.out 5) | ((with_reducible refine gate_callee (f := 52) rfl ?_); refine goesL_ (some 13) rfl rfl Try.func52 z13_5 rfl #[.agg #[.int .i64 a0_0, .slice A0_1 l0_1.length c0_1, .int .i64 a0_2, .int .i64 a0_3, .int .i64 a0_4, .int .i64 a0_5]] rfl z13_6 ?_; (with_reducible refine (impl_IsProcess.calls k a0_0 _ _ l0_1 a0_2 a0_3 a0_4 a0_5 true _ ?side1 ?side2 A2.out).mono ?_); (case side1 => have zh := (Kd.C_below HR0_1.out HB.out); exact z13_C); (case side2 => exact HC0_1.out); rintro e w7 ⟨rfl, hb⟩; refine ⟨_, rfl, ?_⟩; have n0_ := z13_A (blk_below (g := gb272) (o := .cells #[.int .i64 a0_0, .slice A0_1 l0_1.length c0_1, .int .i64 a0_2, .int .i64 a0_3, .int .i64 a0_4, .int .i64 a0_5] 30 (0, 0)) z13_2 hb); have n1_ := z13_A (below_step z13_1 hb); clear BK272 HB; revert n0_ n1_; intro BK272 HB; (try clear hb); (try clear hb2); (try clear hk); (try clear hi)) | ((with_reducible refine gate_dst (N := 15) rfl ?_); refine Kd.R_lit k72 _ 72 ?hg (N := 15) ?hd (xs := ([] : List (S72))) (inner := []) (ok := fun _ => True) (okp := fun _ => True) ?hr ?hp (fun _ hk => hk) trivial (Below.refl _ _) (Nat.le_refl _) (by simp) ?_; (case hd => rfl); (case hg => rfl); (case hr => first | (go_simp; done) | (go_simp; rfl)); (case hp => exact (Reps.none _ _)); intro v275 w8 ho9 hb hg_ hnew_; clear hg_ hnew_; (first | rw [← Ny274.out] at ho9 | (simp only [Int.reduceToNat] at ho9; rw [← Ny274.out] at ho9)); have n0_ := z13_A (Kd.R_lower ho9 (below_size z13_1)); have n1_ := z13_A (blk_below (g := gb272) (o := .cells #[.int .i64 a0_0, .slice A0_1 l0_1.length c0_1, .int .i64 a0_2, .int .i64 a0_3, .int .i64 a0_4, .int .i64 a0_5] 30 (0, 0)) z13_2 hb); have n2_ := z13_A (below_step z13_1 hb); clear BK272 HB; revert n0_ n1_ n2_; intro HO276 BK272 HB; clear hb ho9; have hcz10_0 : w8.cell? ⟨gb272, 0, none⟩ = some (.int .i64 a0_0) := (blk_cell BK272.out 0).trans rfl; have hcz10_1 : w8.cell? ⟨gb272, 1, none⟩ = some (.slice A0_1 l0_1.length c0_1) := (blk_cell BK272.out 1).trans rfl; have hcz10_2 : w8.cell? ⟨gb272, 2, none⟩ = some (.int .i64 a0_2) := (blk_cell BK272.out 2).trans rfl; have hcz10_3 : w8.cell? ⟨gb272, 3, none⟩ = some (.int .i64 a0_3) := (blk_cell BK272.out 3).trans rfl; have hcz10_4 : w8.cell? ⟨gb272, 4, none⟩ = some (.int .i64 a0_4) := (blk_cell BK272.out 4).trans rfl; have hcz10_5 : w8.cell? ⟨gb272, 5, none⟩ = some (.int .i64 a0_5) := (blk_cell BK272.out 5).trans rfl; have hfz10_0 := blk_frozen BK272.out 0; have hfz10_1 := blk_frozen BK272.out 1; have hfz10_2 := blk_frozen BK272.out 2; have hfz10_3 := blk_frozen BK272.out 3; have hfz10_4 := blk_frozen BK272.out 4; have hfz10_5 := blk_frozen BK272.out 5) | ((with_reducible refine gate_callee (f := 80) rfl ?_); refine goesL_ (some 17) rfl rfl Try.func80 z13_5 rfl #[.agg #[.int .i64 a0_0, .slice A0_1 l0_1.length c0_1, .int .i64 a0_2, .int .i64 a0_3, .int .i64 a0_4, .int .i64 a0_5]] rfl z13_6 ?_; (with_reducible refine (impl_Process_worths.calls k a0_0 _ _ l0_1 a0_2 a0_3 a0_4 a0_5 t277 _ ?side1 ?side2 A4.out).mono ?_); (case side1 => have zh := (Kd.C_below HR0_1.out HB.out); exact z13_C); (case side2 => exact HC0_1.out); rintro e w11 ⟨v278, rfl, ho0, hb⟩; refine ⟨_, rfl, ?_⟩; have n0_ := z13_A (Kd.R_below z13_14 hb); have n1_ := z13_A (Kd.R_lower ho0 (below_size z13_1)); have n2_ := z13_A (blk_below (g := gb272) (o := .cells #[.int .i64 a0_0, .slice A0_1 l0_1.length c0_1, .int .i64 a0_2, .int .i64 a0_3, .int .i64 a0_4, .int .i64 a0_5] 30 (0, 0)) z13_2 hb); have n3_ := z13_A (below_step z13_1 hb); clear HO276 BK272 HB; revert n0_ n1_ n2_ n3_; intro HO276 HO279 BK272 HB; (try clear hb); (try clear hb2); (try clear hk); (try clear hi); (try clear ho0); have hcz12_0 : w11.cell? ⟨gb272, 0, none⟩ = some (.int .i64 a0_0) := (blk_cell BK272.out 0).trans rfl; have hcz12_1 : w11.cell? ⟨gb272, 1, none⟩ = some (.slice A0_1 l0_1.length c0_1) := (blk_cell BK272.out 1).trans rfl; have hcz12_2 : w11.cell? ⟨gb272, 2, none⟩ = some (.int .i64 a0_2) := (blk_cell BK272.out 2).trans rfl; have hcz12_3 : w11.cell? ⟨gb272, 3, none⟩ = some (.int .i64 a0_3) := (blk_cell BK272.out 3).trans rfl; have hcz12_4 : w11.cell? ⟨gb272, 4, none⟩ = some (.int .i64 a0_4) := (blk_cell BK272.out 4).trans rfl; have hcz12_5 : w11.cell? ⟨gb272, 5, none⟩ = some (.int .i64 a0_5) := (blk_cell BK272.out 5).trans rfl; have hfz12_0 := blk_frozen BK272.out 0; have hfz12_1 := blk_frozen BK272.out 1; have hfz12_2 := blk_frozen BK272.out 2; have hfz12_3 := blk_frozen BK272.out 3; have hfz12_4 := blk_frozen BK272.out 4; have hfz12_5 := blk_frozen BK272.out 5))
  go_loopg [4, 20] k (fun kq v4 v20 w' => ∃ (x4_1 : List (S72)) (x20_1 : Int), v20 = .int .i64 x20_1 ∧ Aside0 (impl_BestLevels.l0 kq x4_1 t277 a0_0 x20_1 a0_0 l0_1 a0_2 a0_3 a0_4 a0_5 = some (r1, r2)) ∧ Aside0 (kq ≤ k) ∧ Aside0 (Kd.R k72 72 w' w.heap.size (fun _ => True) v4 x4_1) ∧ Aside0 (Kd.R k94 94 w' w.heap.size (fun _ => True) v278 t277) ∧ Aside0 (w'.heap[gb272]? = some (.cells #[.int .i64 a0_0, (.slice A0_1 l0_1.length c0_1), .int .i64 a0_2, .int .i64 a0_3, .int .i64 a0_4, .int .i64 a0_5] 30 (0, 0))) ∧ Aside0 (Below w.heap.size w w'))
  case atStart => exact ⟨(y274), (0), z13_10, H', ⟨Nat.le_refl _⟩, ⟨z13_14⟩, ⟨by (with_reducible repeat (first | apply Kd.R_alloc | apply Kd.R_drewN | apply Kd.R_drew)); exact HO279.out⟩, ⟨z13_2⟩, ⟨z13_1⟩⟩
  case round =>
   clear H'
   (try clear p2); (try clear c3); (try clear c4); (try clear c5); (try clear c8); (try clear hcz10_0); (try clear hcz10_1); (try clear hcz10_2); (try clear hcz10_3); (try clear hcz10_4); (try clear hcz10_5); (try clear hcz12_0); (try clear hcz12_1); (try clear hcz12_2); (try clear hcz12_3); (try clear hcz12_4); (try clear hcz12_5); (try clear hcz6_0); (try clear hcz6_1); (try clear hcz6_2); (try clear hcz6_3); (try clear hcz6_4); (try clear hcz6_5); (try clear hfz10_0); (try clear hfz10_1); (try clear hfz10_2); (try clear hfz10_3); (try clear hfz10_4); (try clear hfz10_5); (try clear hfz12_0); (try clear hfz12_1); (try clear hfz12_2); (try clear hfz12_3); (try clear hfz12_4); (try clear hfz12_5); (try clear hfz6_0); (try clear hfz6_1); (try clear hfz6_2); (try clear hfz6_3); (try clear hfz6_4); (try clear hfz6_5)
   obtain ⟨x4_1, x20_1, rfl, HA, HK1, HO_4, HO_5, BK272, HB⟩ := hrel
   cases gk with
   | zero => exact absurd HA.out (by simp [impl_BestLevels.l0])
   | succ k1 =>
    have H := HA.out
    clear HA
    simp only [impl_BestLevels.l0] at H
    by_cases c13 : x20_1 < a0_0
    ·rw [if_pos c13] at H
     have c13b0 : decide (x20_1 < a0_0) = true := decide_eq_true c13
     clear c13
     obtain ⟨ji14, hji14⟩ : ∃ j_ : Int, (wrap64 (x20_1 + 1)) = j_ := ⟨_, rfl⟩
     replace H : (if 0 ≤ (ji14) then (if (ji14) < (t277.length : Int) then ((impl_Process_bills.f k1 a0_0 l0_1 a0_2 a0_3 a0_4 a0_5 x20_1 ((rd_T94 t277 (ji14)).f0) ((rd_T94 t277 (ji14)).f1) ((rd_T94 t277 (ji14)).f2) ((rd_T94 t277 (ji14)).f3) ((rd_T94 t277 (ji14)).f4) ((rd_T94 t277 (ji14)).f5) ((rd_T94 t277 (ji14)).f6) ((rd_T94 t277 (ji14)).f7) ((rd_T94 t277 (ji14)).f8) ((rd_T94 t277 (ji14)).f9) ((rd_T94 t277 (ji14)).f10) ((rd_T94 t277 (ji14)).f11) ((rd_T94 t277 (ji14)).f12) ((rd_T94 t277 (ji14)).f13) ((rd_T94 t277 (ji14)).f14) ((rd_T94 t277 (ji14)).f15) ((rd_T94 t277 (ji14)).f16) ((rd_T94 t277 (ji14)).f17) ((rd_T94 t277 (ji14)).f18) ((rd_T94 t277 (ji14)).f19) ((rd_T94 t277 (ji14)).f20)).bind fun t281 => (impl_BestLevels.l1 k1 x4_1 t277 x20_1 t281 0 a0_0 x20_1 t281 (t281.length : Int) 0 a0_0 l0_1 a0_2 a0_3 a0_4 a0_5)) else (none)) else (none)) = some (r1, r2) := by first | (rw [hji14] at H; exact H) | (simp only [hji14] at H ⊢; exact H)
     have hji14w : (IntKind.i64.wrap (x20_1 + 1)) = ji14 := (i64_w _).trans hji14
     by_cases c15 : 0 ≤ (ji14)
     ·rw [if_pos c15] at H
      have c15b0 : decide (0 ≤ (ji14)) = true := decide_eq_true c15
      clear c15
      by_cases c16 : (ji14) < (t277.length : Int)
      ·rw [if_pos c16] at H
       have c16b0 : decide ((ji14) < (t277.length : Int)) = true := decide_eq_true c16
       clear c16
       replace H := Option.bind_eq_some_iff.mp H
       obtain ⟨t281, A170, H⟩ := H
       (try dsimp only at H)
       have A17 := z13_A A170
       clear A170
       have H' := z13_A H
       clear H
       try go_wp2
       have n0_ := z13_A (Kd.R_drew HO_4.out)
       have n1_ := z13_A (Kd.R_drew HO_5.out)
       have n2_ := z13_A (blk_drew BK272.out)
       have n3_ := z13_A (below_drew1 HB.out)
       clear HO_4
       clear HO_5
       clear BK272
       clear HB
       have HO_4 := n0_
       have HO_5 := n1_
       have BK272 := n2_
       have HB := n3_
       clear n0_ n1_ n2_ n3_
       obtain ⟨Ao19, co19, eo19⟩ := Kd.R_slice HO_5.out
       (first | subst eo19 | (injection eo19 with f1_ f2_ f3_; have f4_ := f1_.symm; have f5_ := f3_.symm; clear f1_ f2_ f3_; subst f4_; subst f5_))
       have p280 : 0 ≤ ((ji14) : Int) := of_decide_eq_true z13_7
       have q280 : (ji14) < (t277.length : Int) := of_decide_eq_true z13_7
       obtain ⟨ad280, e280, hx280_0, hx280_1, hx280_2, hx280_3, hx280_4, hx280_5, hx280_6, hx280_7, hx280_8, hx280_9, hx280_10, hx280_11, hx280_12, hx280_13, hx280_14, hx280_15, hx280_16, hx280_17, hx280_18, hx280_19, hx280_20⟩ := at_T94 (Kd.R_reads' HO_5.out).2.2 (ji14) p280 q280
       cases e280
       replace p280 := eq_true p280
       replace q280 := eq_true q280
       refine start_ (n := 9) (S := fun w' => w'.cell? ⟨gb272, 0, none⟩ = some (.int .i64 a0_0) ∧ w'.cell? ⟨gb272, 1, none⟩ = some (.slice A0_1 l0_1.length c0_1) ∧ w'.cell? ⟨gb272, 2, none⟩ = some (.int .i64 a0_2) ∧ w'.cell? ⟨gb272, 3, none⟩ = some (.int .i64 a0_3) ∧ w'.cell? ⟨gb272, 4, none⟩ = some (.int .i64 a0_4) ∧ w'.cell? ⟨gb272, 5, none⟩ = some (.int .i64 a0_5) ∧ w'.cell? (ad280.add (((ji14)).toNat * 21)) = some (.int .i64 ((rd_T94 t277 (ji14)).f0)) ∧ w'.cell? ⟨(ad280.add (((ji14)).toNat * 21)).block, (ad280.add (((ji14)).toNat * 21)).off + 1, none⟩ = some (.int .i64 ((rd_T94 t277 (ji14)).f1)) ∧ w'.cell? ⟨(ad280.add (((ji14)).toNat * 21)).block, (ad280.add (((ji14)).toNat * 21)).off + 2, none⟩ = some (.int .i64 ((rd_T94 t277 (ji14)).f2)) ∧ w'.cell? ⟨(ad280.add (((ji14)).toNat * 21)).block, (ad280.add (((ji14)).toNat * 21)).off + 3, none⟩ = some (.int .i64 ((rd_T94 t277 (ji14)).f3)) ∧ w'.cell? ⟨(ad280.add (((ji14)).toNat * 21)).block, (ad280.add (((ji14)).toNat * 21)).off + 4, none⟩ = some (.int .i64 ((rd_T94 t277 (ji14)).f4)) ∧ w'.cell? ⟨(ad280.add (((ji14)).toNat * 21)).block, (ad280.add (((ji14)).toNat * 21)).off + 5, none⟩ = some (.int .i64 ((rd_T94 t277 (ji14)).f5)) ∧ w'.cell? ⟨(ad280.add (((ji14)).toNat * 21)).block, (ad280.add (((ji14)).toNat * 21)).off + 6, none⟩ = some (.int .i64 ((rd_T94 t277 (ji14)).f6)) ∧ w'.cell? ⟨(ad280.add (((ji14)).toNat * 21)).block, (ad280.add (((ji14)).toNat * 21)).off + 7, none⟩ = some (.int .i64 ((rd_T94 t277 (ji14)).f7)) ∧ w'.cell? ⟨(ad280.add (((ji14)).toNat * 21)).block, (ad280.add (((ji14)).toNat * 21)).off + 8, none⟩ = some (.int .i64 ((rd_T94 t277 (ji14)).f8)) ∧ w'.cell? ⟨(ad280.add (((ji14)).toNat * 21)).block, (ad280.add (((ji14)).toNat * 21)).off + 9, none⟩ = some (.int .i64 ((rd_T94 t277 (ji14)).f9)) ∧ w'.cell? ⟨(ad280.add (((ji14)).toNat * 21)).block, (ad280.add (((ji14)).toNat * 21)).off + 10, none⟩ = some (.int .i64 ((rd_T94 t277 (ji14)).f10)) ∧ w'.cell? ⟨(ad280.add (((ji14)).toNat * 21)).block, (ad280.add (((ji14)).toNat * 21)).off + 11, none⟩ = some (.int .i64 ((rd_T94 t277 (ji14)).f11)) ∧ w'.cell? ⟨(ad280.add (((ji14)).toNat * 21)).block, (ad280.add (((ji14)).toNat * 21)).off + 12, none⟩ = some (.int .i64 ((rd_T94 t277 (ji14)).f12)) ∧ w'.cell? ⟨(ad280.add (((ji14)).toNat * 21)).block, (ad280.add (((ji14)).toNat * 21)).off + 13, none⟩ = some (.int .i64 ((rd_T94 t277 (ji14)).f13)) ∧ w'.cell? ⟨(ad280.add (((ji14)).toNat * 21)).block, (ad280.add (((ji14)).toNat * 21)).off + 14, none⟩ = some (.int .i64 ((rd_T94 t277 (ji14)).f14)) ∧ w'.cell? ⟨(ad280.add (((ji14)).toNat * 21)).block, (ad280.add (((ji14)).toNat * 21)).off + 15, none⟩ = some (.int .i64 ((rd_T94 t277 (ji14)).f15)) ∧ w'.cell? ⟨(ad280.add (((ji14)).toNat * 21)).block, (ad280.add (((ji14)).toNat * 21)).off + 16, none⟩ = some (.int .i64 ((rd_T94 t277 (ji14)).f16)) ∧ w'.cell? ⟨(ad280.add (((ji14)).toNat * 21)).block, (ad280.add (((ji14)).toNat * 21)).off + 17, none⟩ = some (.int .i64 ((rd_T94 t277 (ji14)).f17)) ∧ w'.cell? ⟨(ad280.add (((ji14)).toNat * 21)).block, (ad280.add (((ji14)).toNat * 21)).off + 18, none⟩ = some (.int .i64 ((rd_T94 t277 (ji14)).f18)) ∧ w'.cell? ⟨(ad280.add (((ji14)).toNat * 21)).block, (ad280.add (((ji14)).toNat * 21)).off + 19, none⟩ = some (.int .i64 ((rd_T94 t277 (ji14)).f19)) ∧ w'.cell? ⟨(ad280.add (((ji14)).toNat * 21)).block, (ad280.add (((ji14)).toNat * 21)).off + 20, none⟩ = some (.int .i64 ((rd_T94 t277 (ji14)).f20))) (ds := []) #[false, false, false, false, false, false, false, false, false] z13_5 rfl rfl ⟨(blk_cell BK272.out 0).trans rfl, (blk_cell BK272.out 1).trans rfl, (blk_cell BK272.out 2).trans rfl, (blk_cell BK272.out 3).trans rfl, (blk_cell BK272.out 4).trans rfl, (blk_cell BK272.out 5).trans rfl, hx280_0, hx280_1, hx280_2, hx280_3, hx280_4, hx280_5, hx280_6, hx280_7, hx280_8, hx280_9, hx280_10, hx280_11, hx280_12, hx280_13, hx280_14, hx280_15, hx280_16, hx280_17, hx280_18, hx280_19, hx280_20⟩ (fun hHeld => ?_); refine with_tabW impl_BestLevels.tab7 impl_BestLevels.bits7 (fun HT_ HW_ => ?_)
       generalize wr.drew = w18 at HO_4 HO_5 BK272 HB hx280_0 hx280_1 hx280_10 hx280_11 hx280_12 hx280_13 hx280_14 hx280_15 hx280_16 hx280_17 hx280_18 hx280_19 hx280_2 hx280_20 hx280_3 hx280_4 hx280_5 hx280_6 hx280_7 hx280_8 hx280_9 hHeld ⊢
       refine pure_ (i := 1) (N := some 24) (v := ?_) (a' := ?_) #[false, true, false, false, false, false, false, false, false] rfl rfl (any_of HT_.out z13_5) (fun _ _ _ h => h) (Or.inl ⟨z13_11, ?_⟩) ?_ ?_
       rotate_left
       ·intro w'
        go_simp
        with_reducible rfl
       rotate_left
       ·simp only [Act.put, List.setIfInBounds_toArray, List.set_cons_zero, List.set_cons_succ, i64_w, i32_w]
        rfl
       refine pure_ (i := 2) (N := some 25) (v := ?_) (a' := ?_) #[false, true, true, false, false, false, false, false, false] rfl rfl (any_of HT_.out z13_5) (fun _ _ _ h => h) (Or.inl ⟨z13_11, ?_⟩) ?_ ?_
       rotate_left
       ·intro w'
        go_simp
        with_reducible rfl
       rotate_left
       ·simp only [Act.put, List.setIfInBounds_toArray, List.set_cons_zero, List.set_cons_succ, i64_w, i32_w]
        rfl
       refine pure_ (i := 3) (N := some 26) (v := ?_) (a' := ?_) #[false, true, true, true, false, false, false, false, false] rfl rfl (any_of HT_.out z13_5) (fun _ _ _ h => h) (Or.inl ⟨z13_11, ?_⟩) ?_ ?_
       rotate_left
       ·intro w'
        go_simp
        with_reducible rfl
       rotate_left
       ·simp only [Act.put, List.setIfInBounds_toArray, List.set_cons_zero, List.set_cons_succ, i64_w, i32_w]
        rfl
       refine pure_ (i := 4) (N := some 27) (v := ?_) (a' := ?_) #[false, true, true, true, true, false, false, false, false] rfl rfl (any_of HT_.out z13_5) (fun _ _ _ h => h) (Or.inl ⟨z13_11, ?_⟩) ?_ ?_
       rotate_left
       ·intro w'
        go_simp
        with_reducible rfl
       rotate_left
       ·simp only [Act.put, List.setIfInBounds_toArray, List.set_cons_zero, List.set_cons_succ, i64_w, i32_w]
        rfl
       refine pure_ (i := 5) (N := some 28) (v := ?_) (a' := ?_) #[false, true, true, true, true, true, false, false, false] rfl rfl (any_of HT_.out z13_5) (fun _ _ _ h => h) (Or.inl ⟨z13_11, ?_⟩) ?_ ?_
       rotate_left
       ·intro w'
        go_simp
        with_reducible rfl
       rotate_left
       ·simp only [Act.put, List.setIfInBounds_toArray, List.set_cons_zero, List.set_cons_succ, i64_w, i32_w]
        rfl
       refine take_ (i := 0) (N := some 23) (v := ?_) (a' := ?_) #[true, true, true, true, true, true, false, false, false] rfl rfl (take_ofW HT_.out HW_.out z13_5) (fun _ _ _ h => h) (Or.inl ⟨z13_11, ?_⟩) hHeld ?_ ?_
       rotate_left
       ·rintro w' ⟨s0, s1, s2, s3, s4, s5, s6, s7, s8, s9, s10, s11, s12, s13, s14, s15, s16, s17, s18, s19, s20, s21, s22, s23, s24, s25, s26⟩
        first | (refine (loadA94 (by exact rfl) (by exact rfl) s6 s7 s8 s9 s10 s11 s12 s13 s14 s15 s16 s17 s18 s19 s20 s21 s22 s23 s24 s25 s26).trans ?_; with_reducible rfl) | (go_simp; with_reducible rfl)
       rotate_left
       ·simp only [Act.put, List.setIfInBounds_toArray, List.set_cons_zero, List.set_cons_succ, i64_w, i32_w]
        rfl
       refine take_ (i := 6) (N := some 29) (v := ?_) (a' := ?_) #[true, true, true, true, true, true, true, false, false] rfl rfl (take_ofW HT_.out HW_.out z13_5) (fun _ _ _ h => h) (Or.inl ⟨z13_11, ?_⟩) hHeld ?_ ?_
       rotate_left
       ·rintro w' ⟨s0, s1, s2, s3, s4, s5, s6, s7, s8, s9, s10, s11, s12, s13, s14, s15, s16, s17, s18, s19, s20, s21, s22, s23, s24, s25, s26⟩
        first | (refine (loadA94 (by exact rfl) (by exact rfl) s6 s7 s8 s9 s10 s11 s12 s13 s14 s15 s16 s17 s18 s19 s20 s21 s22 s23 s24 s25 s26).trans ?_; with_reducible rfl) | (go_simp; with_reducible rfl)
       rotate_left
       ·simp only [Act.put, List.setIfInBounds_toArray, List.set_cons_zero, List.set_cons_succ, i64_w, i32_w]
        rfl
       refine one_ (i := 7) (N := some 30) #[true, true, true, true, true, true, true, true, false] rfl rfl (one_of HT_.out z13_5) (by decide) (fun K hK => ?_)
       refine goes_ Try.func82 z13_5 rfl #[.agg #[.int .i64 a0_0, .slice A0_1 l0_1.length c0_1, .int .i64 a0_2, .int .i64 a0_3, .int .i64 a0_4, .int .i64 a0_5], .int .i64 x20_1, .agg #[.int .i64 ((rd_T94 t277 (ji14)).f0), .int .i64 ((rd_T94 t277 (ji14)).f1), .int .i64 ((rd_T94 t277 (ji14)).f2), .int .i64 ((rd_T94 t277 (ji14)).f3), .int .i64 ((rd_T94 t277 (ji14)).f4), .int .i64 ((rd_T94 t277 (ji14)).f5), .int .i64 ((rd_T94 t277 (ji14)).f6), .int .i64 ((rd_T94 t277 (ji14)).f7), .int .i64 ((rd_T94 t277 (ji14)).f8), .int .i64 ((rd_T94 t277 (ji14)).f9), .int .i64 ((rd_T94 t277 (ji14)).f10), .int .i64 ((rd_T94 t277 (ji14)).f11), .int .i64 ((rd_T94 t277 (ji14)).f12), .int .i64 ((rd_T94 t277 (ji14)).f13), .int .i64 ((rd_T94 t277 (ji14)).f14), .int .i64 ((rd_T94 t277 (ji14)).f15), .int .i64 ((rd_T94 t277 (ji14)).f16), .int .i64 ((rd_T94 t277 (ji14)).f17), .int .i64 ((rd_T94 t277 (ji14)).f18), .int .i64 ((rd_T94 t277 (ji14)).f19), .int .i64 ((rd_T94 t277 (ji14)).f20)]] z13_11 rfl rfl (by (try simp only [List.map_toArray, List.map_cons, List.map_nil]); first | done | (simp only [hji14]; rfl) | rfl | (simp only [List.length_drop, List.length_take]; rfl)) ?_
       with_reducible refine (impl_Process_bills.calls k1 a0_0 _ _ l0_1 a0_2 a0_3 a0_4 a0_5 x20_1 ((rd_T94 t277 (ji14)).f0) ((rd_T94 t277 (ji14)).f1) ((rd_T94 t277 (ji14)).f2) ((rd_T94 t277 (ji14)).f3) ((rd_T94 t277 (ji14)).f4) ((rd_T94 t277 (ji14)).f5) ((rd_T94 t277 (ji14)).f6) ((rd_T94 t277 (ji14)).f7) ((rd_T94 t277 (ji14)).f8) ((rd_T94 t277 (ji14)).f9) ((rd_T94 t277 (ji14)).f10) ((rd_T94 t277 (ji14)).f11) ((rd_T94 t277 (ji14)).f12) ((rd_T94 t277 (ji14)).f13) ((rd_T94 t277 (ji14)).f14) ((rd_T94 t277 (ji14)).f15) ((rd_T94 t277 (ji14)).f16) ((rd_T94 t277 (ji14)).f17) ((rd_T94 t277 (ji14)).f18) ((rd_T94 t277 (ji14)).f19) ((rd_T94 t277 (ji14)).f20) t281 _ ?side1 ?side2 A17.out).mono ?_
       (case side1 => have zh := (Kd.C_below HR0_1.out HB.out); exact z13_C)
       (case side2 => exact HC0_1.out)
       rintro e w20 ⟨v282, rfl, ho0, hb⟩
       have HS6_ := (hb.cell (World.block_lt_of_cell? _ _ (hHeld.2.2.2.2.2.2.1))).trans (hHeld.2.2.2.2.2.2.1)
       have HS7_ := (hb.cell (World.block_lt_of_cell? _ _ (hHeld.2.2.2.2.2.2.2.1))).trans (hHeld.2.2.2.2.2.2.2.1)
       have HS8_ := (hb.cell (World.block_lt_of_cell? _ _ (hHeld.2.2.2.2.2.2.2.2.1))).trans (hHeld.2.2.2.2.2.2.2.2.1)
       have HS9_ := (hb.cell (World.block_lt_of_cell? _ _ (hHeld.2.2.2.2.2.2.2.2.2.1))).trans (hHeld.2.2.2.2.2.2.2.2.2.1)
       have HS10_ := (hb.cell (World.block_lt_of_cell? _ _ (hHeld.2.2.2.2.2.2.2.2.2.2.1))).trans (hHeld.2.2.2.2.2.2.2.2.2.2.1)
       have HS11_ := (hb.cell (World.block_lt_of_cell? _ _ (hHeld.2.2.2.2.2.2.2.2.2.2.2.1))).trans (hHeld.2.2.2.2.2.2.2.2.2.2.2.1)
       have HS12_ := (hb.cell (World.block_lt_of_cell? _ _ (hHeld.2.2.2.2.2.2.2.2.2.2.2.2.1))).trans (hHeld.2.2.2.2.2.2.2.2.2.2.2.2.1)
       have HS13_ := (hb.cell (World.block_lt_of_cell? _ _ (hHeld.2.2.2.2.2.2.2.2.2.2.2.2.2.1))).trans (hHeld.2.2.2.2.2.2.2.2.2.2.2.2.2.1)
       have HS14_ := (hb.cell (World.block_lt_of_cell? _ _ (hHeld.2.2.2.2.2.2.2.2.2.2.2.2.2.2.1))).trans (hHeld.2.2.2.2.2.2.2.2.2.2.2.2.2.2.1)
       have HS15_ := (hb.cell (World.block_lt_of_cell? _ _ (hHeld.2.2.2.2.2.2.2.2.2.2.2.2.2.2.2.1))).trans (hHeld.2.2.2.2.2.2.2.2.2.2.2.2.2.2.2.1)
       have HS16_ := (hb.cell (World.block_lt_of_cell? _ _ (hHeld.2.2.2.2.2.2.2.2.2.2.2.2.2.2.2.2.1))).trans (hHeld.2.2.2.2.2.2.2.2.2.2.2.2.2.2.2.2.1)
       have HS17_ := (hb.cell (World.block_lt_of_cell? _ _ (hHeld.2.2.2.2.2.2.2.2.2.2.2.2.2.2.2.2.2.1))).trans (hHeld.2.2.2.2.2.2.2.2.2.2.2.2.2.2.2.2.2.1)
       have HS18_ := (hb.cell (World.block_lt_of_cell? _ _ (hHeld.2.2.2.2.2.2.2.2.2.2.2.2.2.2.2.2.2.2.1))).trans (hHeld.2.2.2.2.2.2.2.2.2.2.2.2.2.2.2.2.2.2.1)
       have HS19_ := (hb.cell (World.block_lt_of_cell? _ _ (hHeld.2.2.2.2.2.2.2.2.2.2.2.2.2.2.2.2.2.2.2.1))).trans (hHeld.2.2.2.2.2.2.2.2.2.2.2.2.2.2.2.2.2.2.2.1)
       have HS20_ := (hb.cell (World.block_lt_of_cell? _ _ (hHeld.2.2.2.2.2.2.2.2.2.2.2.2.2.2.2.2.2.2.2.2.1))).trans (hHeld.2.2.2.2.2.2.2.2.2.2.2.2.2.2.2.2.2.2.2.2.1)
       have HS21_ := (hb.cell (World.block_lt_of_cell? _ _ (hHeld.2.2.2.2.2.2.2.2.2.2.2.2.2.2.2.2.2.2.2.2.2.1))).trans (hHeld.2.2.2.2.2.2.2.2.2.2.2.2.2.2.2.2.2.2.2.2.2.1)
       have HS22_ := (hb.cell (World.block_lt_of_cell? _ _ (hHeld.2.2.2.2.2.2.2.2.2.2.2.2.2.2.2.2.2.2.2.2.2.2.1))).trans (hHeld.2.2.2.2.2.2.2.2.2.2.2.2.2.2.2.2.2.2.2.2.2.2.1)
       have HS23_ := (hb.cell (World.block_lt_of_cell? _ _ (hHeld.2.2.2.2.2.2.2.2.2.2.2.2.2.2.2.2.2.2.2.2.2.2.2.1))).trans (hHeld.2.2.2.2.2.2.2.2.2.2.2.2.2.2.2.2.2.2.2.2.2.2.2.1)
       have HS24_ := (hb.cell (World.block_lt_of_cell? _ _ (hHeld.2.2.2.2.2.2.2.2.2.2.2.2.2.2.2.2.2.2.2.2.2.2.2.2.1))).trans (hHeld.2.2.2.2.2.2.2.2.2.2.2.2.2.2.2.2.2.2.2.2.2.2.2.2.1)
       have HS25_ := (hb.cell (World.block_lt_of_cell? _ _ (hHeld.2.2.2.2.2.2.2.2.2.2.2.2.2.2.2.2.2.2.2.2.2.2.2.2.2.1))).trans (hHeld.2.2.2.2.2.2.2.2.2.2.2.2.2.2.2.2.2.2.2.2.2.2.2.2.2.1)
       have HS26_ := (hb.cell (World.block_lt_of_cell? _ _ (hHeld.2.2.2.2.2.2.2.2.2.2.2.2.2.2.2.2.2.2.2.2.2.2.2.2.2.2))).trans (hHeld.2.2.2.2.2.2.2.2.2.2.2.2.2.2.2.2.2.2.2.2.2.2.2.2.2.2)
       refine ⟨_, rfl, ?_⟩
       have n0_ := z13_A (Kd.R_below z13_3 hb)
       have n1_ := z13_A (Kd.R_below z13_4 hb)
       have n2_ := z13_A (Kd.R_lower ho0 (below_size z13_1))
       have n3_ := z13_A (blk_below (g := gb272) (o := .cells #[.int .i64 a0_0, .slice A0_1 l0_1.length c0_1, .int .i64 a0_2, .int .i64 a0_3, .int .i64 a0_4, .int .i64 a0_5] 30 (0, 0)) z13_2 hb)
       have n4_ := z13_A (below_step z13_1 hb)
       clear HO_4
       clear HO_5
       clear BK272
       clear HB
       have HO_4 := n0_
       have HO_5 := n1_
       have HO283 := n2_
       have BK272 := n3_
       have HB := n4_
       clear n0_ n1_ n2_ n3_ n4_
       (try clear hb)
       (try clear hb2)
       (try clear hk)
       (try clear hi)
       (try clear ho0)
       refine hK.out _ _ ⟨(blk_cell BK272.out 0).trans rfl, (blk_cell BK272.out 1).trans rfl, (blk_cell BK272.out 2).trans rfl, (blk_cell BK272.out 3).trans rfl, (blk_cell BK272.out 4).trans rfl, (blk_cell BK272.out 5).trans rfl, HS6_, HS7_, HS8_, HS9_, HS10_, HS11_, HS12_, HS13_, HS14_, HS15_, HS16_, HS17_, HS18_, HS19_, HS20_, HS21_, HS22_, HS23_, HS24_, HS25_, HS26_⟩ (fun hHeld => ?_)
       clear hK K
       refine norm_ (a' := ?_) ?_ ?_
       rotate_left
       ·show Act.put _ (some 30) _ = _
        simp only [Act.put, List.setIfInBounds_toArray, List.set_cons_zero, List.set_cons_succ, i64_w, i32_w]
        rfl
       refine pure_ (i := 8) (N := some 7) (v := ?_) (a' := ?_) #[true, true, true, true, true, true, true, true, true] rfl rfl (any_of HT_.out z13_5) (fun _ _ _ h => h) (Or.inl ⟨z13_11, ?_⟩) ?_ ?_
       rotate_left
       ·intro w'
        go_simp
        with_reducible rfl
       rotate_left
       ·simp only [Act.put, List.setIfInBounds_toArray, List.set_cons_zero, List.set_cons_succ, i64_w, i32_w]
        rfl
       refine done_ (done_of HT_.out z13_5) ?_
       obtain ⟨Ao21, co21, eo21⟩ := Kd.R_slice HO283.out
       subst eo21
       try go_wp2
       go_loopg [8, 33] k1 (fun kq v8 v33 w' => ∃ (x8_2 : Int) (x33_2 : Int), v8 = .int .i64 x8_2 ∧ v33 = .int .i64 x33_2 ∧ Aside0 (impl_BestLevels.l1 kq x4_1 t277 x20_1 t281 x8_2 a0_0 x20_1 t281 (t281.length : Int) x33_2 a0_0 l0_1 a0_2 a0_3 a0_4 a0_5 = some (r1, r2)) ∧ Aside0 (kq ≤ k1) ∧ Aside0 (Kd.R k72 72 w' w.heap.size (fun _ => True) u4 x4_1) ∧ Aside0 (Kd.R k94 94 w' w.heap.size (fun _ => True) (.slice (some ad280) t277.length co19) t277) ∧ Aside0 (Kd.R (Kd.int .i64) 3 w' w.heap.size (fun _ => True) (.slice Ao21 t281.length co21) t281) ∧ Aside0 (Kd.R (Kd.int .i64) 3 w' w.heap.size (fun _ => True) (.slice Ao21 t281.length co21) t281) ∧ Aside0 (w'.heap[gb272]? = some (.cells #[.int .i64 a0_0, (.slice A0_1 l0_1.length c0_1), .int .i64 a0_2, .int .i64 a0_3, .int .i64 a0_4, .int .i64 a0_5] 30 (0, 0))) ∧ Aside0 (Below w.heap.size w w'))
       case atStart => exact ⟨(0), (0), z13_10, z13_10, H', ⟨Nat.le_refl _⟩, ⟨z13_3⟩, ⟨z13_4⟩, ⟨z13_13⟩, ⟨z13_13⟩, ⟨z13_2⟩, ⟨z13_1⟩⟩
       case round =>
        clear H'
        (try clear c1); (try clear p2); (try clear q2); (try clear hx2); (try clear c3); (try clear c4); (try clear c5); (try clear p6); (try clear c8); (try clear c13); (try clear c13b0); (try clear c15); (try clear c15b0); (try clear c16); (try clear c16b0); (try clear hcz10_0); (try clear hcz10_1); (try clear hcz10_2); (try clear hcz10_3); (try clear hcz10_4); (try clear hcz10_5); (try clear hcz12_0); (try clear hcz12_1); (try clear hcz12_2); (try clear hcz12_3); (try clear hcz12_4); (try clear hcz12_5); (try clear hcz6_0); (try clear hcz6_1); (try clear hcz6_2); (try clear hcz6_3); (try clear hcz6_4); (try clear hcz6_5); (try clear hfz10_0); (try clear hfz10_1); (try clear hfz10_2); (try clear hfz10_3); (try clear hfz10_4); (try clear hfz10_5); (try clear hfz12_0); (try clear hfz12_1); (try clear hfz12_2); (try clear hfz12_3); (try clear hfz12_4); (try clear hfz12_5); (try clear hfz6_0); (try clear hfz6_1); (try clear hfz6_2); (try clear hfz6_3); (try clear hfz6_4); (try clear hfz6_5); (try clear hx280_0); (try clear hx280_1); (try clear hx280_10); (try clear hx280_11); (try clear hx280_12); (try clear hx280_13); (try clear hx280_14); (try clear hx280_15); (try clear hx280_16); (try clear hx280_17); (try clear hx280_18); (try clear hx280_19); (try clear hx280_2); (try clear hx280_20); (try clear hx280_3); (try clear hx280_4); (try clear hx280_5); (try clear hx280_6); (try clear hx280_7); (try clear hx280_8); (try clear hx280_9); (try clear p2); (try clear p280); (try clear q280)
        obtain ⟨x8_2, x33_2, rfl, rfl, HA, HK2, HO_4, HO_5, HO_7, HO_31, BK272, HB⟩ := hrel
        cases gk with
        | zero => exact absurd HA.out (by simp [impl_BestLevels.l1])
        | succ k2 =>
         have H := HA.out
         clear HA
         simp only [impl_BestLevels.l1] at H
         by_cases c22 : x33_2 < (t281.length : Int)
         ·rw [if_pos c22] at H
          have c22b0 : decide (x33_2 < (t281.length : Int)) = true := decide_eq_true c22
          clear c22
          by_cases c23 : 0 ≤ x33_2
          ·rw [if_pos c23] at H
           have c23b0 : decide (0 ≤ x33_2) = true := decide_eq_true c23
           clear c23
           by_cases c24 : x33_2 < (t281.length : Int)
           ·rw [if_pos c24] at H
            have c24b0 : decide (x33_2 < (t281.length : Int)) = true := decide_eq_true c24
            clear c24
            by_cases c25 : 0 ≤ x8_2
            ·rw [if_pos c25] at H
             have c25b0 : decide (0 ≤ x8_2) = true := decide_eq_true c25
             clear c25
             by_cases c26 : x8_2 < (t281.length : Int)
             ·rw [if_pos c26] at H
              have c26b0 : decide (x8_2 < (t281.length : Int)) = true := decide_eq_true c26
              clear c26
              by_cases c27 : (rd t281 x33_2) < (rd t281 x8_2)
              ·rw [if_pos c27] at H
               have c27b0 : decide ((rd t281 x33_2) < (rd t281 x8_2)) = true := decide_eq_true c27
               clear c27
               have H' := z13_A H
               clear H
               have p284 : 0 ≤ (x33_2 : Int) := of_decide_eq_true z13_7
               have q284 : x33_2 < (t281.length : Int) := of_decide_eq_true z13_7
               obtain ⟨ad284, e284, hx284_0⟩ := Kd.at_int (Kd.R_reads' HO_31.out).2.2 x33_2 p284 q284
               cases e284
               replace p284 := eq_true p284
               replace q284 := eq_true q284
               have p285 : 0 ≤ (x8_2 : Int) := of_decide_eq_true z13_7
               have q285 : x8_2 < (t281.length : Int) := of_decide_eq_true z13_7
               obtain ⟨ad285, e285, hx285_0⟩ := Kd.at_int (Kd.R_reads' HO_7.out).2.2 x8_2 p285 q285
               obtain rfl : ad284 = ad285 := (by injection e285)
               replace p285 := eq_true p285
               replace q285 := eq_true q285
               go_wp2
               go_roundg k2
               case measure => have := HK1.out; have := HK2.out; omega
               case rel => exact ⟨(x33_2), (wrap64 (x33_2 + 1)), z13_10, z13_10, H', ⟨by have := HK1.out; have := HK2.out; omega⟩, ⟨z13_3⟩, ⟨z13_4⟩, ⟨z13_8⟩, ⟨z13_12⟩, ⟨z13_2⟩, ⟨z13_1⟩⟩
              ·rw [if_neg c27] at H
               have c27b0 : decide ((rd t281 x33_2) < (rd t281 x8_2)) = false := decide_eq_false c27
               clear c27
               have H' := z13_A H
               clear H
               have p284 : 0 ≤ (x33_2 : Int) := of_decide_eq_true z13_7
               have q284 : x33_2 < (t281.length : Int) := of_decide_eq_true z13_7
               obtain ⟨ad284, e284, hx284_0⟩ := Kd.at_int (Kd.R_reads' HO_31.out).2.2 x33_2 p284 q284
               cases e284
               replace p284 := eq_true p284
               replace q284 := eq_true q284
               have p285 : 0 ≤ (x8_2 : Int) := of_decide_eq_true z13_7
               have q285 : x8_2 < (t281.length : Int) := of_decide_eq_true z13_7
               obtain ⟨ad285, e285, hx285_0⟩ := Kd.at_int (Kd.R_reads' HO_7.out).2.2 x8_2 p285 q285
               obtain rfl : ad284 = ad285 := (by injection e285)
               replace p285 := eq_true p285
               replace q285 := eq_true q285
               go_wp2
               go_roundg k2
               case measure => have := HK1.out; have := HK2.out; omega
               case rel => exact ⟨(x8_2), (wrap64 (x33_2 + 1)), z13_10, z13_10, H', ⟨by have := HK1.out; have := HK2.out; omega⟩, ⟨z13_3⟩, ⟨z13_4⟩, ⟨z13_8⟩, ⟨z13_12⟩, ⟨z13_2⟩, ⟨z13_1⟩⟩
             ·rw [if_neg c26] at H
              exact absurd H (by simp)
            ·rw [if_neg c25] at H
             exact absurd H (by simp)
           ·rw [if_neg c24] at H
            exact absurd H (by simp)
          ·rw [if_neg c23] at H
           exact absurd H (by simp)
         ·rw [if_neg c22] at H
          have c22b0 : decide (x33_2 < (t281.length : Int)) = false := decide_eq_false c22
          clear c22
          have H' := z13_A H
          clear H
          go_wp2
          go_loopg [11] k2 (fun kq v11 w' => ∃ (x11_3 : Int), v11 = .int .i64 x11_3 ∧ Aside0 (impl_BestLevels.l2 kq x4_1 t277 x20_1 t281 x8_2 x11_3 a0_0 x20_1 a0_0 l0_1 a0_2 a0_3 a0_4 a0_5 = some (r1, r2)) ∧ Aside0 (kq ≤ k2) ∧ Aside0 (Kd.R k72 72 w' w.heap.size (fun _ => True) u4 x4_1) ∧ Aside0 (Kd.R k94 94 w' w.heap.size (fun _ => True) (.slice (some ad280) t277.length co19) t277) ∧ Aside0 (Kd.R (Kd.int .i64) 3 w' w.heap.size (fun _ => True) (.slice Ao21 t281.length co21) t281) ∧ Aside0 (w'.heap[gb272]? = some (.cells #[.int .i64 a0_0, (.slice A0_1 l0_1.length c0_1), .int .i64 a0_2, .int .i64 a0_3, .int .i64 a0_4, .int .i64 a0_5] 30 (0, 0))) ∧ Aside0 (Below w.heap.size w w'))
          case atStart => exact ⟨(0), z13_10, H', ⟨Nat.le_refl _⟩, ⟨z13_3⟩, ⟨z13_4⟩, ⟨z13_8⟩, ⟨z13_2⟩, ⟨z13_1⟩⟩
          case round =>
           clear H'
           (try clear c1); (try clear c2); (try clear p2); (try clear q2); (try clear hx2); (try clear c3); (try clear c4); (try clear c5); (try clear p6); (try clear c8); (try clear c13); (try clear c13b0); (try clear c15); (try clear c15b0); (try clear c16); (try clear c16b0); (try clear c22); (try clear c22b0); (try clear c23); (try clear c23b0); (try clear c24); (try clear c24b0); (try clear c25); (try clear c25b0); (try clear c26); (try clear c26b0); (try clear c27); (try clear c27b0); (try clear hcz10_0); (try clear hcz10_1); (try clear hcz10_2); (try clear hcz10_3); (try clear hcz10_4); (try clear hcz10_5); (try clear hcz12_0); (try clear hcz12_1); (try clear hcz12_2); (try clear hcz12_3); (try clear hcz12_4); (try clear hcz12_5); (try clear hcz6_0); (try clear hcz6_1); (try clear hcz6_2); (try clear hcz6_3); (try clear hcz6_4); (try clear hcz6_5); (try clear hfz10_0); (try clear hfz10_1); (try clear hfz10_2); (try clear hfz10_3); (try clear hfz10_4); (try clear hfz10_5); (try clear hfz12_0); (try clear hfz12_1); (try clear hfz12_2); (try clear hfz12_3); (try clear hfz12_4); (try clear hfz12_5); (try clear hfz6_0); (try clear hfz6_1); (try clear hfz6_2); (try clear hfz6_3); (try clear hfz6_4); (try clear hfz6_5); (try clear hx280_0); (try clear hx280_1); (try clear hx280_10); (try clear hx280_11); (try clear hx280_12); (try clear hx280_13); (try clear hx280_14); (try clear hx280_15); (try clear hx280_16); (try clear hx280_17); (try clear hx280_18); (try clear hx280_19); (try clear hx280_2); (try clear hx280_20); (try clear hx280_3); (try clear hx280_4); (try clear hx280_5); (try clear hx280_6); (try clear hx280_7); (try clear hx280_8); (try clear hx280_9); (try clear hx284_0); (try clear hx285_0); (try clear p2); (try clear p280); (try clear p284); (try clear p285); (try clear p6); (try clear q2); (try clear q280); (try clear q284); (try clear q285)
           obtain ⟨x11_3, rfl, HA, HK3, HO_4, HO_5, HO_7, BK272, HB⟩ := hrel
           cases gk with
           | zero => exact absurd HA.out (by simp [impl_BestLevels.l2])
           | succ k3 =>
            have H := HA.out
            clear HA
            simp only [impl_BestLevels.l2] at H
            by_cases c28 : 0 ≤ x11_3
            ·rw [if_pos c28] at H
             have c28b0 : decide (0 ≤ x11_3) = true := decide_eq_true c28
             clear c28
             by_cases c29 : x11_3 < (t281.length : Int)
             ·rw [if_pos c29] at H
              have c29b0 : decide (x11_3 < (t281.length : Int)) = true := decide_eq_true c29
              clear c29
              by_cases c30 : 0 ≤ x8_2
              ·rw [if_pos c30] at H
               have c30b0 : decide (0 ≤ x8_2) = true := decide_eq_true c30
               clear c30
               by_cases c31 : x8_2 < (t281.length : Int)
               ·rw [if_pos c31] at H
                have c31b0 : decide (x8_2 < (t281.length : Int)) = true := decide_eq_true c31
                clear c31
                replace H := Option.bind_eq_some_iff.mp H
                obtain ⟨t288, A320, H⟩ := H
                (try dsimp only at H)
                have A32 := z13_A A320
                clear A320
                by_cases c33 : (rd t281 x11_3) > (wrap64 ((rd t281 x8_2) + (wrap64 (a0_2 * t288))))
                ·rw [if_pos c33] at H
                 have c33b0 : decide ((wrap64 ((rd t281 x8_2) + (wrap64 (a0_2 * t288)))) < (rd t281 x11_3)) = true := decide_eq_true c33
                 clear c33
                 have H' := z13_A H
                 clear H
                 try go_wp2
                 have n0_ := z13_A (Kd.R_drew HO_4.out)
                 have n1_ := z13_A (Kd.R_drew HO_5.out)
                 have n2_ := z13_A (Kd.R_drew HO_7.out)
                 have n3_ := z13_A (blk_drew BK272.out)
                 have n4_ := z13_A (below_drew1 HB.out)
                 clear HO_4
                 clear HO_5
                 clear HO_7
                 clear BK272
                 clear HB
                 have HO_4 := n0_
                 have HO_5 := n1_
                 have HO_7 := n2_
                 have BK272 := n3_
                 have HB := n4_
                 clear n0_ n1_ n2_ n3_ n4_
                 have p286 : 0 ≤ (x11_3 : Int) := of_decide_eq_true z13_7
                 have q286 : x11_3 < (t281.length : Int) := of_decide_eq_true z13_7
                 obtain ⟨ad286, e286, hx286_0⟩ := Kd.at_int (Kd.R_reads' HO_7.out).2.2 x11_3 p286 q286
                 cases e286
                 replace p286 := eq_true p286
                 replace q286 := eq_true q286
                 have p287 : 0 ≤ (x8_2 : Int) := of_decide_eq_true z13_7
                 have q287 : x8_2 < (t281.length : Int) := of_decide_eq_true z13_7
                 obtain ⟨ad287, e287, hx287_0⟩ := Kd.at_int (Kd.R_reads' HO_7.out).2.2 x8_2 p287 q287
                 obtain rfl : ad286 = ad287 := (by injection e287)
                 replace p287 := eq_true p287
                 replace q287 := eq_true q287
                 refine start_ (n := 19) (S := fun w' => w'.cell? ⟨gb272, 0, none⟩ = some (.int .i64 a0_0) ∧ w'.cell? ⟨gb272, 1, none⟩ = some (.slice A0_1 l0_1.length c0_1) ∧ w'.cell? ⟨gb272, 2, none⟩ = some (.int .i64 a0_2) ∧ w'.cell? ⟨gb272, 3, none⟩ = some (.int .i64 a0_3) ∧ w'.cell? ⟨gb272, 4, none⟩ = some (.int .i64 a0_4) ∧ w'.cell? ⟨gb272, 5, none⟩ = some (.int .i64 a0_5) ∧ w'.cell? (ad286.add (x11_3).toNat) = some (.int .i64 (rd t281 x11_3)) ∧ w'.cell? (ad286.add (x8_2).toNat) = some (.int .i64 (rd t281 x8_2))) (ds := []) #[false, false, false, false, false, false, false, false, false, false, false, false, false, false, false, false, false, false, false] z13_5 rfl rfl ⟨(blk_cell BK272.out 0).trans rfl, (blk_cell BK272.out 1).trans rfl, (blk_cell BK272.out 2).trans rfl, (blk_cell BK272.out 3).trans rfl, (blk_cell BK272.out 4).trans rfl, (blk_cell BK272.out 5).trans rfl, hx286_0, hx287_0⟩ (fun hHeld => ?_); refine with_tabW impl_BestLevels.tab16 impl_BestLevels.bits16 (fun HT_ HW_ => ?_)
                 generalize wr.drew = w34 at HO_4 HO_5 HO_7 BK272 HB hx286_0 hx287_0 hHeld ⊢
                 refine pure_ (i := 0) (N := some 46) (v := ?_) (a' := ?_) #[true, false, false, false, false, false, false, false, false, false, false, false, false, false, false, false, false, false, false] rfl rfl (any_of HT_.out z13_5) (fun _ _ _ h => h) (Or.inl ⟨z13_11, ?_⟩) ?_ ?_
                 rotate_left
                 ·intro w'
                  go_simp
                  with_reducible rfl
                 rotate_left
                 ·simp only [Act.put, List.setIfInBounds_toArray, List.set_cons_zero, List.set_cons_succ, i64_w, i32_w]
                  rfl
                 refine pure_ (i := 1) (N := some 47) (v := ?_) (a' := ?_) #[true, true, false, false, false, false, false, false, false, false, false, false, false, false, false, false, false, false, false] rfl rfl (any_of HT_.out z13_5) (fun _ _ _ h => h) (Or.inl ⟨z13_11, ?_⟩) ?_ ?_
                 rotate_left
                 ·intro w'
                  go_simp
                  with_reducible rfl
                 rotate_left
                 ·simp only [Act.put, List.setIfInBounds_toArray, List.set_cons_zero, List.set_cons_succ, i64_w, i32_w]
                  rfl
                 refine pure_ (i := 2) (N := some 48) (v := ?_) (a' := ?_) #[true, true, true, false, false, false, false, false, false, false, false, false, false, false, false, false, false, false, false] rfl rfl (any_of HT_.out z13_5) (fun _ _ _ h => h) (Or.inl ⟨z13_11, ?_⟩) ?_ ?_
                 rotate_left
                 ·intro w'
                  go_simp
                  with_reducible rfl
                 rotate_left
                 ·simp only [Act.put, List.setIfInBounds_toArray, List.set_cons_zero, List.set_cons_succ, i64_w, i32_w]
                  rfl
                 refine pure_ (i := 4) (N := some 50) (v := ?_) (a' := ?_) #[true, true, true, false, true, false, false, false, false, false, false, false, false, false, false, false, false, false, false] rfl rfl (any_of HT_.out z13_5) (fun _ _ _ h => h) (Or.inl ⟨z13_11, ?_⟩) ?_ ?_
                 rotate_left
                 ·intro w'
                  go_simp
                  with_reducible rfl
                 rotate_left
                 ·simp only [Act.put, List.setIfInBounds_toArray, List.set_cons_zero, List.set_cons_succ, i64_w, i32_w]
                  rfl
                 refine pure_ (i := 5) (N := some 51) (v := ?_) (a' := ?_) #[true, true, true, false, true, true, false, false, false, false, false, false, false, false, false, false, false, false, false] rfl rfl (any_of HT_.out z13_5) (fun _ _ _ h => h) (Or.inl ⟨z13_11, ?_⟩) ?_ ?_
                 rotate_left
                 ·intro w'
                  go_simp
                  with_reducible rfl
                 rotate_left
                 ·simp only [Act.put, List.setIfInBounds_toArray, List.set_cons_zero, List.set_cons_succ, i64_w, i32_w]
                  rfl
                 refine pure_ (i := 6) (N := some 52) (v := ?_) (a' := ?_) #[true, true, true, false, true, true, true, false, false, false, false, false, false, false, false, false, false, false, false] rfl rfl (any_of HT_.out z13_5) (fun _ _ _ h => h) (Or.inl ⟨z13_11, ?_⟩) ?_ ?_
                 rotate_left
                 ·intro w'
                  go_simp
                  with_reducible rfl
                 rotate_left
                 ·simp only [Act.put, List.setIfInBounds_toArray, List.set_cons_zero, List.set_cons_succ, i64_w, i32_w]
                  rfl
                 refine pure_ (i := 8) (N := some 54) (v := ?_) (a' := ?_) #[true, true, true, false, true, true, true, false, true, false, false, false, false, false, false, false, false, false, false] rfl rfl (any_of HT_.out z13_5) (fun _ _ _ h => h) (Or.inl ⟨z13_11, ?_⟩) ?_ ?_
                 rotate_left
                 ·intro w'
                  go_simp
                  with_reducible rfl
                 rotate_left
                 ·simp only [Act.put, List.setIfInBounds_toArray, List.set_cons_zero, List.set_cons_succ, i64_w, i32_w]
                  rfl
                 refine pure_ (i := 11) (N := some 57) (v := ?_) (a' := ?_) #[true, true, true, false, true, true, true, false, true, false, false, true, false, false, false, false, false, false, false] rfl rfl (any_of HT_.out z13_5) (fun _ _ _ h => h) (Or.inl ⟨z13_11, ?_⟩) ?_ ?_
                 rotate_left
                 ·intro w'
                  go_simp
                  with_reducible rfl
                 rotate_left
                 ·simp only [Act.put, List.setIfInBounds_toArray, List.set_cons_zero, List.set_cons_succ, i64_w, i32_w]
                  rfl
                 refine pure_ (i := 13) (N := some 59) (v := ?_) (a' := ?_) #[true, true, true, false, true, true, true, false, true, false, false, true, false, true, false, false, false, false, false] rfl rfl (any_of HT_.out z13_5) (fun _ _ _ h => h) (Or.inl ⟨z13_11, ?_⟩) ?_ ?_
                 rotate_left
                 ·intro w'
                  go_simp
                  with_reducible rfl
                 rotate_left
                 ·simp only [Act.put, List.setIfInBounds_toArray, List.set_cons_zero, List.set_cons_succ, i64_w, i32_w]
                  rfl
                 refine take_ (i := 3) (N := some 49) (v := ?_) (a' := ?_) #[true, true, true, true, true, true, true, false, true, false, false, true, false, true, false, false, false, false, false] rfl rfl (take_ofW HT_.out HW_.out z13_5) (fun _ _ _ h => h) (Or.inl ⟨z13_11, ?_⟩) hHeld ?_ ?_
                 rotate_left
                 ·rintro w' ⟨s0, s1, s2, s3, s4, s5, s6, s7⟩
                  go_simp
                  with_reducible rfl
                 rotate_left
                 ·simp only [Act.put, List.setIfInBounds_toArray, List.set_cons_zero, List.set_cons_succ, i64_w, i32_w]
                  rfl
                 refine take_ (i := 7) (N := some 53) (v := ?_) (a' := ?_) #[true, true, true, true, true, true, true, true, true, false, false, true, false, true, false, false, false, false, false] rfl rfl (take_ofW HT_.out HW_.out z13_5) (fun _ _ _ h => h) (Or.inl ⟨z13_11, ?_⟩) hHeld ?_ ?_
                 rotate_left
                 ·rintro w' ⟨s0, s1, s2, s3, s4, s5, s6, s7⟩
                  go_simp
                  with_reducible rfl
                 rotate_left
                 ·simp only [Act.put, List.setIfInBounds_toArray, List.set_cons_zero, List.set_cons_succ, i64_w, i32_w]
                  rfl
                 refine take_ (i := 9) (N := some 55) (v := ?_) (a' := ?_) #[true, true, true, true, true, true, true, true, true, true, false, true, false, true, false, false, false, false, false] rfl rfl (take_ofW HT_.out HW_.out z13_5) (fun _ _ _ h => h) (Or.inl ⟨z13_11, ?_⟩) hHeld ?_ ?_
                 rotate_left
                 ·rintro w' ⟨s0, s1, s2, s3, s4, s5, s6, s7⟩
                  go_simp
                  with_reducible rfl
                 rotate_left
                 ·simp only [Act.put, List.setIfInBounds_toArray, List.set_cons_zero, List.set_cons_succ, i64_w, i32_w]
                  rfl
                 refine take_ (i := 10) (N := some 56) (v := ?_) (a' := ?_) #[true, true, true, true, true, true, true, true, true, true, true, true, false, true, false, false, false, false, false] rfl rfl (take_ofW HT_.out HW_.out z13_5) (fun _ _ _ h => h) (Or.inl ⟨z13_11, ?_⟩) hHeld ?_ ?_
                 rotate_left
                 ·rintro w' ⟨s0, s1, s2, s3, s4, s5, s6, s7⟩
                  go_simp
                  with_reducible rfl
                 rotate_left
                 ·simp only [Act.put, List.setIfInBounds_toArray, List.set_cons_zero, List.set_cons_succ, i64_w, i32_w]
                  rfl
                 refine take_ (i := 12) (N := some 58) (v := ?_) (a' := ?_) #[true, true, true, true, true, true, true, true, true, true, true, true, true, true, false, false, false, false, false] rfl rfl (take_ofW HT_.out HW_.out z13_5) (fun _ _ _ h => h) (Or.inl ⟨z13_11, ?_⟩) hHeld ?_ ?_
                 rotate_left
                 ·rintro w' ⟨s0, s1, s2, s3, s4, s5, s6, s7⟩
                  go_simp
                  with_reducible rfl
                 rotate_left
                 ·simp only [Act.put, List.setIfInBounds_toArray, List.set_cons_zero, List.set_cons_succ, i64_w, i32_w]
                  rfl
                 refine pure_ (i := 14) (N := some 60) (v := ?_) (a' := ?_) #[true, true, true, true, true, true, true, true, true, true, true, true, true, true, true, false, false, false, false] rfl rfl (any_of HT_.out z13_5) (fun _ _ _ h => h) (Or.inl ⟨z13_11, ?_⟩) ?_ ?_
                 rotate_left
                 ·intro w'
                  go_simp
                  with_reducible rfl
                 rotate_left
                 ·simp only [Act.put, List.setIfInBounds_toArray, List.set_cons_zero, List.set_cons_succ, i64_w, i32_w]
                  rfl
                 refine one_ (i := 15) (N := some 61) #[true, true, true, true, true, true, true, true, true, true, true, true, true, true, true, true, false, false, false] rfl rfl (one_of HT_.out z13_5) (by decide) (fun K hK => ?_)
                 refine goes_ Try.func93 z13_5 rfl #[.agg #[.int .i64 a0_0, .slice A0_1 l0_1.length c0_1, .int .i64 a0_2, .int .i64 a0_3, .int .i64 a0_4, .int .i64 a0_5], .int .i64 (wrap64 (a0_0 - x20_1))] z13_11 rfl rfl z13_6 ?_
                 with_reducible refine (impl_Process_whole.calls k3 a0_0 _ _ l0_1 a0_2 a0_3 a0_4 a0_5 (wrap64 (a0_0 - x20_1)) t288 _ ?side1 ?side2 A32.out).mono ?_
                 (case side1 => have zh := (Kd.C_below HR0_1.out HB.out); exact z13_C)
                 (case side2 => exact HC0_1.out)
                 rintro e w35 ⟨rfl, hb⟩
                 have HS6_ := (hb.cell (World.block_lt_of_cell? _ _ (hHeld.2.2.2.2.2.2.1))).trans (hHeld.2.2.2.2.2.2.1)
                 have HS7_ := (hb.cell (World.block_lt_of_cell? _ _ (hHeld.2.2.2.2.2.2.2))).trans (hHeld.2.2.2.2.2.2.2)
                 refine ⟨_, rfl, ?_⟩
                 have n0_ := z13_A (Kd.R_below z13_3 hb)
                 have n1_ := z13_A (Kd.R_below z13_4 hb)
                 have n2_ := z13_A (Kd.R_below z13_8 hb)
                 have n3_ := z13_A (blk_below (g := gb272) (o := .cells #[.int .i64 a0_0, .slice A0_1 l0_1.length c0_1, .int .i64 a0_2, .int .i64 a0_3, .int .i64 a0_4, .int .i64 a0_5] 30 (0, 0)) z13_2 hb)
                 have n4_ := z13_A (below_step z13_1 hb)
                 clear HO_4
                 clear HO_5
                 clear HO_7
                 clear BK272
                 clear HB
                 have HO_4 := n0_
                 have HO_5 := n1_
                 have HO_7 := n2_
                 have BK272 := n3_
                 have HB := n4_
                 clear n0_ n1_ n2_ n3_ n4_
                 (try clear hb)
                 (try clear hb2)
                 (try clear hk)
                 (try clear hi)
                 refine hK.out _ _ ⟨(blk_cell BK272.out 0).trans rfl, (blk_cell BK272.out 1).trans rfl, (blk_cell BK272.out 2).trans rfl, (blk_cell BK272.out 3).trans rfl, (blk_cell BK272.out 4).trans rfl, (blk_cell BK272.out 5).trans rfl, HS6_, HS7_⟩ (fun hHeld => ?_)
                 clear hK K
                 refine norm_ (a' := ?_) ?_ ?_
                 rotate_left
                 ·show Act.put _ (some 61) _ = _
                  simp only [Act.put, List.setIfInBounds_toArray, List.set_cons_zero, List.set_cons_succ, i64_w, i32_w]
                  rfl
                 refine pure_ (i := 16) (N := some 62) (v := ?_) (a' := ?_) #[true, true, true, true, true, true, true, true, true, true, true, true, true, true, true, true, true, false, false] rfl rfl (any_of HT_.out z13_5) (fun _ _ _ h => h) (Or.inl ⟨z13_11, ?_⟩) ?_ ?_
                 rotate_left
                 ·intro w'
                  go_simp
                  with_reducible rfl
                 rotate_left
                 ·simp only [Act.put, List.setIfInBounds_toArray, List.set_cons_zero, List.set_cons_succ, i64_w, i32_w]
                  rfl
                 refine pure_ (i := 17) (N := some 63) (v := ?_) (a' := ?_) #[true, true, true, true, true, true, true, true, true, true, true, true, true, true, true, true, true, true, false] rfl rfl (any_of HT_.out z13_5) (fun _ _ _ h => h) (Or.inl ⟨z13_11, ?_⟩) ?_ ?_
                 rotate_left
                 ·intro w'
                  go_simp
                  with_reducible rfl
                 rotate_left
                 ·simp only [Act.put, List.setIfInBounds_toArray, List.set_cons_zero, List.set_cons_succ, i64_w, i32_w]
                  rfl
                 refine pure_ (i := 18) (N := some 64) (v := ?_) (a' := ?_) #[true, true, true, true, true, true, true, true, true, true, true, true, true, true, true, true, true, true, true] rfl rfl (any_of HT_.out z13_5) (fun _ _ _ h => h) (Or.inl ⟨z13_11, ?_⟩) ?_ ?_
                 rotate_left
                 ·intro w'
                  go_simp
                  with_reducible rfl
                 rotate_left
                 ·simp only [Act.put, List.setIfInBounds_toArray, List.set_cons_zero, List.set_cons_succ, i64_w, i32_w]
                  rfl
                 refine done_ (done_of HT_.out z13_5) ?_
                 try go_wp2
                 go_roundg k3
                 case measure => have := HK1.out; have := HK2.out; have := HK3.out; omega
                 case rel => exact ⟨(wrap64 (x11_3 + 1)), z13_10, H', ⟨by have := HK1.out; have := HK2.out; have := HK3.out; omega⟩, ⟨z13_3⟩, ⟨z13_4⟩, ⟨z13_8⟩, ⟨z13_2⟩, ⟨z13_1⟩⟩
                ·rw [if_neg c33] at H
                 have c33b0 : decide ((wrap64 ((rd t281 x8_2) + (wrap64 (a0_2 * t288)))) < (rd t281 x11_3)) = false := decide_eq_false c33
                 clear c33
                 replace H := Option.bind_eq_some_iff.mp H
                 obtain ⟨t289, A360, H⟩ := H
                 (try dsimp only at H)
                 have A36 := z13_A A360
                 clear A360
                 replace H := Option.bind_eq_some_iff.mp H
                 obtain ⟨t290, A370, H⟩ := H
                 (try dsimp only at H)
                 have A37 := z13_A A370
                 clear A370
                 by_cases c38 : x4_1.length < 8796093022208
                 ·rw [if_pos c38] at H
                  have LMc38 := z13_A c38
                  clear c38
                  obtain ⟨y291, hy291⟩ : ∃ y_ : List (S72), y_ = (x4_1 ++ [(⟨wrap64 (x11_3 + t289), wrap64 (x8_2 + t290)⟩ : S72)]) := ⟨_, rfl⟩
                  replace H : (impl_BestLevels.l0 k3 y291 t277 a0_0 (wrap64 (x20_1 + 1)) a0_0 l0_1 a0_2 a0_3 a0_4 a0_5) = some (r1, r2) := by first | (rw [hy291]; with_reducible exact H) | (have H2_ := (Option.bind_some _ _).symm.trans H; rw [hy291]; with_reducible exact H2_) | (have H2_ := (Option.bind_some _ _).symm.trans H; with_reducible exact H2_) | with_reducible exact H | (rw [hy291]; exact H) | exact H
                  have Ny291 := z13_A hy291
                  clear hy291
                  have H' := z13_A H
                  clear H
                  try go_wp2
                  have n0_ := z13_A (Kd.R_drew HO_4.out)
                  have n1_ := z13_A (Kd.R_drew HO_5.out)
                  have n2_ := z13_A (Kd.R_drew HO_7.out)
                  have n3_ := z13_A (blk_drew BK272.out)
                  have n4_ := z13_A (below_drew1 HB.out)
                  clear HO_4
                  clear HO_5
                  clear HO_7
                  clear BK272
                  clear HB
                  have HO_4 := n0_
                  have HO_5 := n1_
                  have HO_7 := n2_
                  have BK272 := n3_
                  have HB := n4_
                  clear n0_ n1_ n2_ n3_ n4_
                  have p286 : 0 ≤ (x11_3 : Int) := of_decide_eq_true z13_7
                  have q286 : x11_3 < (t281.length : Int) := of_decide_eq_true z13_7
                  obtain ⟨ad286, e286, hx286_0⟩ := Kd.at_int (Kd.R_reads' HO_7.out).2.2 x11_3 p286 q286
                  cases e286
                  replace p286 := eq_true p286
                  replace q286 := eq_true q286
                  have p287 : 0 ≤ (x8_2 : Int) := of_decide_eq_true z13_7
                  have q287 : x8_2 < (t281.length : Int) := of_decide_eq_true z13_7
                  obtain ⟨ad287, e287, hx287_0⟩ := Kd.at_int (Kd.R_reads' HO_7.out).2.2 x8_2 p287 q287
                  obtain rfl : ad286 = ad287 := (by injection e287)
                  replace p287 := eq_true p287
                  replace q287 := eq_true q287
                  refine start_ (n := 19) (S := fun w' => w'.cell? ⟨gb272, 0, none⟩ = some (.int .i64 a0_0) ∧ w'.cell? ⟨gb272, 1, none⟩ = some (.slice A0_1 l0_1.length c0_1) ∧ w'.cell? ⟨gb272, 2, none⟩ = some (.int .i64 a0_2) ∧ w'.cell? ⟨gb272, 3, none⟩ = some (.int .i64 a0_3) ∧ w'.cell? ⟨gb272, 4, none⟩ = some (.int .i64 a0_4) ∧ w'.cell? ⟨gb272, 5, none⟩ = some (.int .i64 a0_5) ∧ w'.cell? (ad286.add (x11_3).toNat) = some (.int .i64 (rd t281 x11_3)) ∧ w'.cell? (ad286.add (x8_2).toNat) = some (.int .i64 (rd t281 x8_2))) (ds := []) #[false, false, false, false, false, false, false, false, false, false, false, false, false, false, false, false, false, false, false] z13_5 rfl rfl ⟨(blk_cell BK272.out 0).trans rfl, (blk_cell BK272.out 1).trans rfl, (blk_cell BK272.out 2).trans rfl, (blk_cell BK272.out 3).trans rfl, (blk_cell BK272.out 4).trans rfl, (blk_cell BK272.out 5).trans rfl, hx286_0, hx287_0⟩ (fun hHeld => ?_); refine with_tabW impl_BestLevels.tab16 impl_BestLevels.bits16 (fun HT_ HW_ => ?_)
                  generalize wr.drew = w39 at HO_4 HO_5 HO_7 BK272 HB hx286_0 hx287_0 hHeld ⊢
                  refine pure_ (i := 0) (N := some 46) (v := ?_) (a' := ?_) #[true, false, false, false, false, false, false, false, false, false, false, false, false, false, false, false, false, false, false] rfl rfl (any_of HT_.out z13_5) (fun _ _ _ h => h) (Or.inl ⟨z13_11, ?_⟩) ?_ ?_
                  rotate_left
                  ·intro w'
                   go_simp
                   with_reducible rfl
                  rotate_left
                  ·simp only [Act.put, List.setIfInBounds_toArray, List.set_cons_zero, List.set_cons_succ, i64_w, i32_w]
                   rfl
                  refine pure_ (i := 1) (N := some 47) (v := ?_) (a' := ?_) #[true, true, false, false, false, false, false, false, false, false, false, false, false, false, false, false, false, false, false] rfl rfl (any_of HT_.out z13_5) (fun _ _ _ h => h) (Or.inl ⟨z13_11, ?_⟩) ?_ ?_
                  rotate_left
                  ·intro w'
                   go_simp
                   with_reducible rfl
                  rotate_left
                  ·simp only [Act.put, List.setIfInBounds_toArray, List.set_cons_zero, List.set_cons_succ, i64_w, i32_w]
                   rfl
                  refine pure_ (i := 2) (N := some 48) (v := ?_) (a' := ?_) #[true, true, true, false, false, false, false, false, false, false, false, false, false, false, false, false, false, false, false] rfl rfl (any_of HT_.out z13_5) (fun _ _ _ h => h) (Or.inl ⟨z13_11, ?_⟩) ?_ ?_
                  rotate_left
                  ·intro w'
                   go_simp
                   with_reducible rfl
                  rotate_left
                  ·simp only [Act.put, List.setIfInBounds_toArray, List.set_cons_zero, List.set_cons_succ, i64_w, i32_w]
                   rfl
                  refine pure_ (i := 4) (N := some 50) (v := ?_) (a' := ?_) #[true, true, true, false, true, false, false, false, false, false, false, false, false, false, false, false, false, false, false] rfl rfl (any_of HT_.out z13_5) (fun _ _ _ h => h) (Or.inl ⟨z13_11, ?_⟩) ?_ ?_
                  rotate_left
                  ·intro w'
                   go_simp
                   with_reducible rfl
                  rotate_left
                  ·simp only [Act.put, List.setIfInBounds_toArray, List.set_cons_zero, List.set_cons_succ, i64_w, i32_w]
                   rfl
                  refine pure_ (i := 5) (N := some 51) (v := ?_) (a' := ?_) #[true, true, true, false, true, true, false, false, false, false, false, false, false, false, false, false, false, false, false] rfl rfl (any_of HT_.out z13_5) (fun _ _ _ h => h) (Or.inl ⟨z13_11, ?_⟩) ?_ ?_
                  rotate_left
                  ·intro w'
                   go_simp
                   with_reducible rfl
                  rotate_left
                  ·simp only [Act.put, List.setIfInBounds_toArray, List.set_cons_zero, List.set_cons_succ, i64_w, i32_w]
                   rfl
                  refine pure_ (i := 6) (N := some 52) (v := ?_) (a' := ?_) #[true, true, true, false, true, true, true, false, false, false, false, false, false, false, false, false, false, false, false] rfl rfl (any_of HT_.out z13_5) (fun _ _ _ h => h) (Or.inl ⟨z13_11, ?_⟩) ?_ ?_
                  rotate_left
                  ·intro w'
                   go_simp
                   with_reducible rfl
                  rotate_left
                  ·simp only [Act.put, List.setIfInBounds_toArray, List.set_cons_zero, List.set_cons_succ, i64_w, i32_w]
                   rfl
                  refine pure_ (i := 8) (N := some 54) (v := ?_) (a' := ?_) #[true, true, true, false, true, true, true, false, true, false, false, false, false, false, false, false, false, false, false] rfl rfl (any_of HT_.out z13_5) (fun _ _ _ h => h) (Or.inl ⟨z13_11, ?_⟩) ?_ ?_
                  rotate_left
                  ·intro w'
                   go_simp
                   with_reducible rfl
                  rotate_left
                  ·simp only [Act.put, List.setIfInBounds_toArray, List.set_cons_zero, List.set_cons_succ, i64_w, i32_w]
                   rfl
                  refine pure_ (i := 11) (N := some 57) (v := ?_) (a' := ?_) #[true, true, true, false, true, true, true, false, true, false, false, true, false, false, false, false, false, false, false] rfl rfl (any_of HT_.out z13_5) (fun _ _ _ h => h) (Or.inl ⟨z13_11, ?_⟩) ?_ ?_
                  rotate_left
                  ·intro w'
                   go_simp
                   with_reducible rfl
                  rotate_left
                  ·simp only [Act.put, List.setIfInBounds_toArray, List.set_cons_zero, List.set_cons_succ, i64_w, i32_w]
                   rfl
                  refine pure_ (i := 13) (N := some 59) (v := ?_) (a' := ?_) #[true, true, true, false, true, true, true, false, true, false, false, true, false, true, false, false, false, false, false] rfl rfl (any_of HT_.out z13_5) (fun _ _ _ h => h) (Or.inl ⟨z13_11, ?_⟩) ?_ ?_
                  rotate_left
                  ·intro w'
                   go_simp
                   with_reducible rfl
                  rotate_left
                  ·simp only [Act.put, List.setIfInBounds_toArray, List.set_cons_zero, List.set_cons_succ, i64_w, i32_w]
                   rfl
                  refine take_ (i := 3) (N := some 49) (v := ?_) (a' := ?_) #[true, true, true, true, true, true, true, false, true, false, false, true, false, true, false, false, false, false, false] rfl rfl (take_ofW HT_.out HW_.out z13_5) (fun _ _ _ h => h) (Or.inl ⟨z13_11, ?_⟩) hHeld ?_ ?_
                  rotate_left
                  ·rintro w' ⟨s0, s1, s2, s3, s4, s5, s6, s7⟩
                   go_simp
                   with_reducible rfl
                  rotate_left
                  ·simp only [Act.put, List.setIfInBounds_toArray, List.set_cons_zero, List.set_cons_succ, i64_w, i32_w]
                   rfl
                  refine take_ (i := 7) (N := some 53) (v := ?_) (a' := ?_) #[true, true, true, true, true, true, true, true, true, false, false, true, false, true, false, false, false, false, false] rfl rfl (take_ofW HT_.out HW_.out z13_5) (fun _ _ _ h => h) (Or.inl ⟨z13_11, ?_⟩) hHeld ?_ ?_
                  rotate_left
                  ·rintro w' ⟨s0, s1, s2, s3, s4, s5, s6, s7⟩
                   go_simp
                   with_reducible rfl
                  rotate_left
                  ·simp only [Act.put, List.setIfInBounds_toArray, List.set_cons_zero, List.set_cons_succ, i64_w, i32_w]
                   rfl
                  refine take_ (i := 9) (N := some 55) (v := ?_) (a' := ?_) #[true, true, true, true, true, true, true, true, true, true, false, true, false, true, false, false, false, false, false] rfl rfl (take_ofW HT_.out HW_.out z13_5) (fun _ _ _ h => h) (Or.inl ⟨z13_11, ?_⟩) hHeld ?_ ?_
                  rotate_left
                  ·rintro w' ⟨s0, s1, s2, s3, s4, s5, s6, s7⟩
                   go_simp
                   with_reducible rfl
                  rotate_left
                  ·simp only [Act.put, List.setIfInBounds_toArray, List.set_cons_zero, List.set_cons_succ, i64_w, i32_w]
                   rfl
                  refine take_ (i := 10) (N := some 56) (v := ?_) (a' := ?_) #[true, true, true, true, true, true, true, true, true, true, true, true, false, true, false, false, false, false, false] rfl rfl (take_ofW HT_.out HW_.out z13_5) (fun _ _ _ h => h) (Or.inl ⟨z13_11, ?_⟩) hHeld ?_ ?_
                  rotate_left
                  ·rintro w' ⟨s0, s1, s2, s3, s4, s5, s6, s7⟩
                   go_simp
                   with_reducible rfl
                  rotate_left
                  ·simp only [Act.put, List.setIfInBounds_toArray, List.set_cons_zero, List.set_cons_succ, i64_w, i32_w]
                   rfl
                  refine take_ (i := 12) (N := some 58) (v := ?_) (a' := ?_) #[true, true, true, true, true, true, true, true, true, true, true, true, true, true, false, false, false, false, false] rfl rfl (take_ofW HT_.out HW_.out z13_5) (fun _ _ _ h => h) (Or.inl ⟨z13_11, ?_⟩) hHeld ?_ ?_
                  rotate_left
                  ·rintro w' ⟨s0, s1, s2, s3, s4, s5, s6, s7⟩
                   go_simp
                   with_reducible rfl
                  rotate_left
                  ·simp only [Act.put, List.setIfInBounds_toArray, List.set_cons_zero, List.set_cons_succ, i64_w, i32_w]
                   rfl
                  refine pure_ (i := 14) (N := some 60) (v := ?_) (a' := ?_) #[true, true, true, true, true, true, true, true, true, true, true, true, true, true, true, false, false, false, false] rfl rfl (any_of HT_.out z13_5) (fun _ _ _ h => h) (Or.inl ⟨z13_11, ?_⟩) ?_ ?_
                  rotate_left
                  ·intro w'
                   go_simp
                   with_reducible rfl
                  rotate_left
                  ·simp only [Act.put, List.setIfInBounds_toArray, List.set_cons_zero, List.set_cons_succ, i64_w, i32_w]
                   rfl
                  refine one_ (i := 15) (N := some 61) #[true, true, true, true, true, true, true, true, true, true, true, true, true, true, true, true, false, false, false] rfl rfl (one_of HT_.out z13_5) (by decide) (fun K hK => ?_)
                  refine goes_ Try.func93 z13_5 rfl #[.agg #[.int .i64 a0_0, .slice A0_1 l0_1.length c0_1, .int .i64 a0_2, .int .i64 a0_3, .int .i64 a0_4, .int .i64 a0_5], .int .i64 (wrap64 (a0_0 - x20_1))] z13_11 rfl rfl z13_6 ?_
                  with_reducible refine (impl_Process_whole.calls k3 a0_0 _ _ l0_1 a0_2 a0_3 a0_4 a0_5 (wrap64 (a0_0 - x20_1)) t288 _ ?side1 ?side2 A32.out).mono ?_
                  (case side1 => have zh := (Kd.C_below HR0_1.out HB.out); exact z13_C)
                  (case side2 => exact HC0_1.out)
                  rintro e w40 ⟨rfl, hb⟩
                  have HS6_ := (hb.cell (World.block_lt_of_cell? _ _ (hHeld.2.2.2.2.2.2.1))).trans (hHeld.2.2.2.2.2.2.1)
                  have HS7_ := (hb.cell (World.block_lt_of_cell? _ _ (hHeld.2.2.2.2.2.2.2))).trans (hHeld.2.2.2.2.2.2.2)
                  refine ⟨_, rfl, ?_⟩
                  have n0_ := z13_A (Kd.R_below z13_3 hb)
                  have n1_ := z13_A (Kd.R_below z13_4 hb)
                  have n2_ := z13_A (Kd.R_below z13_8 hb)
                  have n3_ := z13_A (blk_below (g := gb272) (o := .cells #[.int .i64 a0_0, .slice A0_1 l0_1.length c0_1, .int .i64 a0_2, .int .i64 a0_3, .int .i64 a0_4, .int .i64 a0_5] 30 (0, 0)) z13_2 hb)
                  have n4_ := z13_A (below_step z13_1 hb)
                  clear HO_4
                  clear HO_5
                  clear HO_7
                  clear BK272
                  clear HB
                  have HO_4 := n0_
                  have HO_5 := n1_
                  have HO_7 := n2_
                  have BK272 := n3_
                  have HB := n4_
                  clear n0_ n1_ n2_ n3_ n4_
                  (try clear hb)
                  (try clear hb2)
                  (try clear hk)
                  (try clear hi)
                  refine hK.out _ _ ⟨(blk_cell BK272.out 0).trans rfl, (blk_cell BK272.out 1).trans rfl, (blk_cell BK272.out 2).trans rfl, (blk_cell BK272.out 3).trans rfl, (blk_cell BK272.out 4).trans rfl, (blk_cell BK272.out 5).trans rfl, HS6_, HS7_⟩ (fun hHeld => ?_)
                  clear hK K
                  refine norm_ (a' := ?_) ?_ ?_
                  rotate_left
                  ·show Act.put _ (some 61) _ = _
                   simp only [Act.put, List.setIfInBounds_toArray, List.set_cons_zero, List.set_cons_succ, i64_w, i32_w]
                   rfl
                  refine pure_ (i := 16) (N := some 62) (v := ?_) (a' := ?_) #[true, true, true, true, true, true, true, true, true, true, true, true, true, true, true, true, true, false, false] rfl rfl (any_of HT_.out z13_5) (fun _ _ _ h => h) (Or.inl ⟨z13_11, ?_⟩) ?_ ?_
                  rotate_left
                  ·intro w'
                   go_simp
                   with_reducible rfl
                  rotate_left
                  ·simp only [Act.put, List.setIfInBounds_toArray, List.set_cons_zero, List.set_cons_succ, i64_w, i32_w]
                   rfl
                  refine pure_ (i := 17) (N := some 63) (v := ?_) (a' := ?_) #[true, true, true, true, true, true, true, true, true, true, true, true, true, true, true, true, true, true, false] rfl rfl (any_of HT_.out z13_5) (fun _ _ _ h => h) (Or.inl ⟨z13_11, ?_⟩) ?_ ?_
                  rotate_left
                  ·intro w'
                   go_simp
                   with_reducible rfl
                  rotate_left
                  ·simp only [Act.put, List.setIfInBounds_toArray, List.set_cons_zero, List.set_cons_succ, i64_w, i32_w]
                   rfl
                  refine pure_ (i := 18) (N := some 64) (v := ?_) (a' := ?_) #[true, true, true, true, true, true, true, true, true, true, true, true, true, true, true, true, true, true, true] rfl rfl (any_of HT_.out z13_5) (fun _ _ _ h => h) (Or.inl ⟨z13_11, ?_⟩) ?_ ?_
                  rotate_left
                  ·intro w'
                   go_simp
                   with_reducible rfl
                  rotate_left
                  ·simp only [Act.put, List.setIfInBounds_toArray, List.set_cons_zero, List.set_cons_succ, i64_w, i32_w]
                   rfl
                  refine done_ (done_of HT_.out z13_5) ?_
                  try go_wp2
                  have n0_ := z13_A (Kd.R_drew HO_4.out)
                  have n1_ := z13_A (Kd.R_drew HO_5.out)
                  have n2_ := z13_A (Kd.R_drew HO_7.out)
                  have n3_ := z13_A (blk_drew BK272.out)
                  have n4_ := z13_A (below_drew1 HB.out)
                  clear HO_4
                  clear HO_5
                  clear HO_7
                  clear BK272
                  clear HB
                  have HO_4 := n0_
                  have HO_5 := n1_
                  have HO_7 := n2_
                  have BK272 := n3_
                  have HB := n4_
                  clear n0_ n1_ n2_ n3_ n4_
                  refine start_ (n := 13) (S := fun w' => w'.cell? ⟨gb272, 0, none⟩ = some (.int .i64 a0_0) ∧ w'.cell? ⟨gb272, 1, none⟩ = some (.slice A0_1 l0_1.length c0_1) ∧ w'.cell? ⟨gb272, 2, none⟩ = some (.int .i64 a0_2) ∧ w'.cell? ⟨gb272, 3, none⟩ = some (.int .i64 a0_3) ∧ w'.cell? ⟨gb272, 4, none⟩ = some (.int .i64 a0_4) ∧ w'.cell? ⟨gb272, 5, none⟩ = some (.int .i64 a0_5)) (ds := []) #[false, false, false, false, false, false, false, false, false, false, false, false, false] z13_5 rfl rfl ⟨(blk_cell BK272.out 0).trans rfl, (blk_cell BK272.out 1).trans rfl, (blk_cell BK272.out 2).trans rfl, (blk_cell BK272.out 3).trans rfl, (blk_cell BK272.out 4).trans rfl, (blk_cell BK272.out 5).trans rfl⟩ (fun hHeld => ?_); refine with_tabW impl_BestLevels.tab18 impl_BestLevels.bits18 (fun HT_ HW_ => ?_)
                  generalize w40.drew = w41 at HO_4 HO_5 HO_7 BK272 HB hHeld ⊢
                  refine pure_ (i := 0) (N := some 67) (v := ?_) (a' := ?_) #[true, false, false, false, false, false, false, false, false, false, false, false, false] rfl rfl (any_of HT_.out z13_5) (fun _ _ _ h => h) (Or.inl ⟨z13_11, ?_⟩) ?_ ?_
                  rotate_left
                  ·intro w'
                   go_simp
                   with_reducible rfl
                  rotate_left
                  ·simp only [Act.put, List.setIfInBounds_toArray, List.set_cons_zero, List.set_cons_succ, i64_w, i32_w]
                   rfl
                  refine pure_ (i := 1) (N := some 68) (v := ?_) (a' := ?_) #[true, true, false, false, false, false, false, false, false, false, false, false, false] rfl rfl (any_of HT_.out z13_5) (fun _ _ _ h => h) (Or.inl ⟨z13_11, ?_⟩) ?_ ?_
                  rotate_left
                  ·intro w'
                   go_simp
                   with_reducible rfl
                  rotate_left
                  ·simp only [Act.put, List.setIfInBounds_toArray, List.set_cons_zero, List.set_cons_succ, i64_w, i32_w]
                   rfl
                  refine pure_ (i := 5) (N := some 72) (v := ?_) (a' := ?_) #[true, true, false, false, false, true, false, false, false, false, false, false, false] rfl rfl (any_of HT_.out z13_5) (fun _ _ _ h => h) (Or.inl ⟨z13_11, ?_⟩) ?_ ?_
                  rotate_left
                  ·intro w'
                   go_simp
                   with_reducible rfl
                  rotate_left
                  ·simp only [Act.put, List.setIfInBounds_toArray, List.set_cons_zero, List.set_cons_succ, i64_w, i32_w]
                   rfl
                  refine take_ (i := 2) (N := some 69) (v := ?_) (a' := ?_) #[true, true, true, false, false, true, false, false, false, false, false, false, false] rfl rfl (take_ofW HT_.out HW_.out z13_5) (fun _ _ _ h => h) (Or.inl ⟨z13_11, ?_⟩) hHeld ?_ ?_
                  rotate_left
                  ·rintro w' ⟨s0, s1, s2, s3, s4, s5⟩
                   go_simp
                   with_reducible rfl
                  rotate_left
                  ·simp only [Act.put, List.setIfInBounds_toArray, List.set_cons_zero, List.set_cons_succ, i64_w, i32_w]
                   rfl
                  refine take_ (i := 6) (N := some 73) (v := ?_) (a' := ?_) #[true, true, true, false, false, true, true, false, false, false, false, false, false] rfl rfl (take_ofW HT_.out HW_.out z13_5) (fun _ _ _ h => h) (Or.inl ⟨z13_11, ?_⟩) hHeld ?_ ?_
                  rotate_left
                  ·rintro w' ⟨s0, s1, s2, s3, s4, s5⟩
                   go_simp
                   with_reducible rfl
                  rotate_left
                  ·simp only [Act.put, List.setIfInBounds_toArray, List.set_cons_zero, List.set_cons_succ, i64_w, i32_w]
                   rfl
                  refine one_ (i := 3) (N := some 70) #[true, true, true, true, false, true, true, false, false, false, false, false, false] rfl rfl (one_of HT_.out z13_5) (by decide) (fun K hK => ?_)
                  refine goes_ Try.func96 z13_5 rfl #[.agg #[.int .i64 a0_0, .slice A0_1 l0_1.length c0_1, .int .i64 a0_2, .int .i64 a0_3, .int .i64 a0_4, .int .i64 a0_5]] z13_11 rfl rfl z13_6 ?_
                  with_reducible refine (impl_Process_floor.calls a0_0 _ _ l0_1 a0_2 a0_3 a0_4 a0_5 t289 _ ?side1 ?side2 A36.out).mono ?_
                  (case side1 => have zh := (Kd.C_below HR0_1.out HB.out); exact z13_C)
                  (case side2 => exact HC0_1.out)
                  rintro e w42 ⟨rfl, hb⟩
                  refine ⟨_, rfl, ?_⟩
                  have n0_ := z13_A (Kd.R_below z13_3 hb)
                  have n1_ := z13_A (Kd.R_below z13_4 hb)
                  have n2_ := z13_A (Kd.R_below z13_8 hb)
                  have n3_ := z13_A (blk_below (g := gb272) (o := .cells #[.int .i64 a0_0, .slice A0_1 l0_1.length c0_1, .int .i64 a0_2, .int .i64 a0_3, .int .i64 a0_4, .int .i64 a0_5] 30 (0, 0)) z13_2 hb)
                  have n4_ := z13_A (below_step z13_1 hb)
                  clear HO_4
                  clear HO_5
                  clear HO_7
                  clear BK272
                  clear HB
                  have HO_4 := n0_
                  have HO_5 := n1_
                  have HO_7 := n2_
                  have BK272 := n3_
                  have HB := n4_
                  clear n0_ n1_ n2_ n3_ n4_
                  (try clear hb)
                  (try clear hb2)
                  (try clear hk)
                  (try clear hi)
                  refine hK.out _ _ ⟨(blk_cell BK272.out 0).trans rfl, (blk_cell BK272.out 1).trans rfl, (blk_cell BK272.out 2).trans rfl, (blk_cell BK272.out 3).trans rfl, (blk_cell BK272.out 4).trans rfl, (blk_cell BK272.out 5).trans rfl⟩ (fun hHeld => ?_)
                  clear hK K
                  refine norm_ (a' := ?_) ?_ ?_
                  rotate_left
                  ·show Act.put _ (some 70) _ = _
                   simp only [Act.put, List.setIfInBounds_toArray, List.set_cons_zero, List.set_cons_succ, i64_w, i32_w]
                   rfl
                  refine pure_ (i := 4) (N := some 71) (v := ?_) (a' := ?_) #[true, true, true, true, true, true, true, false, false, false, false, false, false] rfl rfl (any_of HT_.out z13_5) (fun _ _ _ h => h) (Or.inl ⟨z13_11, ?_⟩) ?_ ?_
                  rotate_left
                  ·intro w'
                   go_simp
                   with_reducible rfl
                  rotate_left
                  ·simp only [Act.put, List.setIfInBounds_toArray, List.set_cons_zero, List.set_cons_succ, i64_w, i32_w]
                   rfl
                  refine one_ (i := 7) (N := some 74) #[true, true, true, true, true, true, true, true, false, false, false, false, false] rfl rfl (one_of HT_.out z13_5) (by decide) (fun K hK => ?_)
                  refine goes_ Try.func96 z13_5 rfl #[.agg #[.int .i64 a0_0, .slice A0_1 l0_1.length c0_1, .int .i64 a0_2, .int .i64 a0_3, .int .i64 a0_4, .int .i64 a0_5]] z13_11 rfl rfl z13_6 ?_
                  with_reducible refine (impl_Process_floor.calls a0_0 _ _ l0_1 a0_2 a0_3 a0_4 a0_5 t290 _ ?side1 ?side2 A37.out).mono ?_
                  (case side1 => have zh := (Kd.C_below HR0_1.out HB.out); exact z13_C)
                  (case side2 => exact HC0_1.out)
                  rintro e w43 ⟨rfl, hb⟩
                  refine ⟨_, rfl, ?_⟩
                  have n0_ := z13_A (Kd.R_below z13_3 hb)
                  have n1_ := z13_A (Kd.R_below z13_4 hb)
                  have n2_ := z13_A (Kd.R_below z13_8 hb)
                  have n3_ := z13_A (blk_below (g := gb272) (o := .cells #[.int .i64 a0_0, .slice A0_1 l0_1.length c0_1, .int .i64 a0_2, .int .i64 a0_3, .int .i64 a0_4, .int .i64 a0_5] 30 (0, 0)) z13_2 hb)
                  have n4_ := z13_A (below_step z13_1 hb)
                  clear HO_4
                  clear HO_5
                  clear HO_7
                  clear BK272
                  clear HB
                  have HO_4 := n0_
                  have HO_5 := n1_
                  have HO_7 := n2_
                  have BK272 := n3_
                  have HB := n4_
                  clear n0_ n1_ n2_ n3_ n4_
                  (try clear hb)
                  (try clear hb2)
                  (try clear hk)
                  (try clear hi)
                  refine hK.out _ _ ⟨(blk_cell BK272.out 0).trans rfl, (blk_cell BK272.out 1).trans rfl, (blk_cell BK272.out 2).trans rfl, (blk_cell BK272.out 3).trans rfl, (blk_cell BK272.out 4).trans rfl, (blk_cell BK272.out 5).trans rfl⟩ (fun hHeld => ?_)
                  clear hK K
                  refine norm_ (a' := ?_) ?_ ?_
                  rotate_left
                  ·show Act.put _ (some 74) _ = _
                   simp only [Act.put, List.setIfInBounds_toArray, List.set_cons_zero, List.set_cons_succ, i64_w, i32_w]
                   rfl
                  refine pure_ (i := 8) (N := some 75) (v := ?_) (a' := ?_) #[true, true, true, true, true, true, true, true, true, false, false, false, false] rfl rfl (any_of HT_.out z13_5) (fun _ _ _ h => h) (Or.inl ⟨z13_11, ?_⟩) ?_ ?_
                  rotate_left
                  ·intro w'
                   go_simp
                   with_reducible rfl
                  rotate_left
                  ·simp only [Act.put, List.setIfInBounds_toArray, List.set_cons_zero, List.set_cons_succ, i64_w, i32_w]
                   rfl
                  refine pure_ (i := 9) (N := some 76) (v := ?_) (a' := ?_) #[true, true, true, true, true, true, true, true, true, true, false, false, false] rfl rfl (any_of HT_.out z13_5) (fun _ _ _ h => h) (Or.inl ⟨z13_11, ?_⟩) ?_ ?_
                  rotate_left
                  ·intro w'
                   go_simp
                   with_reducible rfl
                  rotate_left
                  ·simp only [Act.put, List.setIfInBounds_toArray, List.set_cons_zero, List.set_cons_succ, i64_w, i32_w]
                   rfl
                  refine one_ (i := 10) (N := some 77) #[true, true, true, true, true, true, true, true, true, true, true, false, false] rfl rfl (one_of HT_.out z13_5) (by decide) (fun K hK => ?_)
                  refine value_ (w1 := ?_) (v := ?_) z13_11 rfl ?_ ?_
                  rotate_left 2
                  ·go_simp
                   constructor
                   ·rfl
                   ·rfl
                  refine hK.out _ _ ⟨(blk_cell (blk_alloc BK272.out _) 0).trans rfl, (blk_cell (blk_alloc BK272.out _) 1).trans rfl, (blk_cell (blk_alloc BK272.out _) 2).trans rfl, (blk_cell (blk_alloc BK272.out _) 3).trans rfl, (blk_cell (blk_alloc BK272.out _) 4).trans rfl, (blk_cell (blk_alloc BK272.out _) 5).trans rfl⟩ (fun hHeld => ?_)
                  clear hK K
                  refine norm_ (a' := ?_) ?_ ?_
                  rotate_left
                  ·show Act.put _ (some 77) _ = _
                   simp only [Act.put, List.setIfInBounds_toArray, List.set_cons_zero, List.set_cons_succ, i64_w, i32_w]
                   rfl
                  refine one_ (i := 11) (N := some 78) #[true, true, true, true, true, true, true, true, true, true, true, true, false] rfl rfl (one_of HT_.out z13_5) (by decide) (fun K hK => ?_)
                  refine Kd.R_append_step k72 (w0 := w) w.heap.size z13_11 (.tmp 67) (.tmp 77) 25 72 (.agg #[(.int .i64 0), (.int .i64 0)]) 16 rfl Try.underlying25 info72 rfl (by decide) (by omega) u4 x4_1 (⟨wrap64 (x11_3 + t289), wrap64 (x8_2 + t290)⟩ : S72) [.int .i64 (wrap64 (x11_3 + t289)), .int .i64 (wrap64 (x8_2 + t290))] (fun _ => True) (fun _ => False) rfl rfl ?aP (fun _ hk => hk.elim) ?aF ?aO ?aB ?aS ?aL ?_
                  (case aP => exact k72_mkM _ _ _ (⟨wrap64 (x11_3 + t289), wrap64 (x8_2 + t290)⟩ : S72))
                  (case aB => exact z13_1)
                  (case aF => exact (fun _ _ => trivial))
                  (case aO => exact z13_3)
                  (case aS => exact (below_size z13_1))
                  (case aL => have := LMc38.out; omega)
                  intro v292 w44 ho hb hg hat
                  rw [← Ny291.out] at ho
                  have n0_ := z13_A (Kd.R_over' z13_4 (Kd.R_typed z13_3) (by decide) hg)
                  have n1_ := z13_A (Kd.R_over' z13_8 (Kd.R_typed z13_3) (by decide) hg)
                  have n2_ := z13_A (blk_grown (g := gb272) (o := .cells #[.int .i64 a0_0, .slice A0_1 l0_1.length c0_1, .int .i64 a0_2, .int .i64 a0_3, .int .i64 a0_4, .int .i64 a0_5] 30 (0, 0)) z13_2 hg (Kd.R_ne HO_4.out BK272.out (by decide)))
                  have n3_ := z13_A (hb)
                  have n4_ := z13_A (ho)
                  clear HO_5
                  clear HO_7
                  clear BK272
                  clear HB
                  clear HO_4
                  have HO_5 := n0_
                  have HO_7 := n1_
                  have BK272 := n2_
                  have HB := n3_
                  have HO293 := n4_
                  clear n0_ n1_ n2_ n3_ n4_
                  clear ho hb hg hat
                  refine hK.out _ _ ⟨(blk_cell BK272.out 0).trans rfl, (blk_cell BK272.out 1).trans rfl, (blk_cell BK272.out 2).trans rfl, (blk_cell BK272.out 3).trans rfl, (blk_cell BK272.out 4).trans rfl, (blk_cell BK272.out 5).trans rfl⟩ (fun hHeld => ?_)
                  clear hK K
                  refine norm_ (a' := ?_) ?_ ?_
                  rotate_left
                  ·show Act.put _ (some 78) _ = _
                   simp only [Act.put, List.setIfInBounds_toArray, List.set_cons_zero, List.set_cons_succ, i64_w, i32_w]
                   rfl
                  refine pure_ (i := 12) (N := some 4) (v := ?_) (a' := ?_) #[true, true, true, true, true, true, true, true, true, true, true, true, true] rfl rfl (any_of HT_.out z13_5) (fun _ _ _ h => h) (Or.inl ⟨z13_11, ?_⟩) ?_ ?_
                  rotate_left
                  ·intro w'
                   go_simp
                   with_reducible rfl
                  rotate_left
                  ·simp only [Act.put, List.setIfInBounds_toArray, List.set_cons_zero, List.set_cons_succ, i64_w, i32_w]
                   rfl
                  refine done_ (done_of HT_.out z13_5) ?_
                  try go_wp2
                  go_roundg k3
                  case measure => have := HK1.out; have := HK2.out; have := HK3.out; omega
                  case rel => exact ⟨(y291), (wrap64 (x20_1 + 1)), z13_10, H', ⟨by have := HK1.out; have := HK2.out; have := HK3.out; omega⟩, ⟨by (with_reducible repeat (first | apply Kd.R_alloc | apply Kd.R_drewN | apply Kd.R_drew)); exact HO293.out⟩, ⟨z13_4⟩, ⟨z13_2⟩, ⟨z13_1⟩⟩
                 ·rw [if_neg c38] at H
                  exact absurd H (by simp)
               ·rw [if_neg c31] at H
                exact absurd H (by simp)
              ·rw [if_neg c30] at H
               exact absurd H (by simp)
             ·rw [if_neg c29] at H
              exact absurd H (by simp)
            ·rw [if_neg c28] at H
             exact absurd H (by simp)
      ·rw [if_neg c16] at H
       exact absurd H (by simp)
     ·rw [if_neg c15] at H
      exact absurd H (by simp)
    ·rw [if_neg c13] at H
     have c13b0 : decide (x20_1 < a0_0) = false := decide_eq_false c13
     clear c13
     simp only [Option.some.injEq, Prod.mk.injEq] at H
     obtain ⟨rfl, rfl⟩ := H
     go_wp2
     go_ret2
     exact ⟨_, z13_15, z13_3, z13_1⟩
 ·replace c3 := Bool.eq_false_iff.mpr c3
  subst c3
  have H1 : (some (([] : List (S72)), false)) = some (r1, r2) := by rw [if_neg (show ¬ (false = true) by decide)] at H; exact H
  clear H
  have H := H1
  clear H1
  simp only [Option.some.injEq, Prod.mk.injEq] at H
  obtain ⟨rfl, rfl⟩ := H
  go_enter Try.func45, Try.ntmps45
  go_wp2_with (first | ((with_reducible refine gate_dst (N := 1) rfl ?_); refine box_event ?hg (N := 1) ?hd (cs := #[.int .i64 a0_0, .slice A0_1 l0_1.length c0_1, .int .i64 a0_2, .int .i64 a0_3, .int .i64 a0_4, .int .i64 a0_5]) (t := 30) ?hr ?_; (case hd => rfl); (case hg => rfl); (case hr => first | (go_simp; done) | (go_simp; rfl)); intro gb272 hg w45 hbox hb; have n0_ := z13_A (below_step z13_9 hb); have n1_ := z13_A (hbox); have n2_ := z13_A ((z13_16 : w.heap.size ≤ gb272)); have n3_ := z13_A ((z13_16 : w.heap.size ≤ gb272)); clear HB; revert n0_ n1_ n2_ n3_; intro HB BK272 GW272 GE272; clear hb hbox hg; have hcz46_0 : w45.cell? ⟨gb272, 0, none⟩ = some (.int .i64 a0_0) := (blk_cell BK272.out 0).trans rfl; have hcz46_1 : w45.cell? ⟨gb272, 1, none⟩ = some (.slice A0_1 l0_1.length c0_1) := (blk_cell BK272.out 1).trans rfl; have hcz46_2 : w45.cell? ⟨gb272, 2, none⟩ = some (.int .i64 a0_2) := (blk_cell BK272.out 2).trans rfl; have hcz46_3 : w45.cell? ⟨gb272, 3, none⟩ = some (.int .i64 a0_3) := (blk_cell BK272.out 3).trans rfl; have hcz46_4 : w45.cell? ⟨gb272, 4, none⟩ = some (.int .i64 a0_4) := (blk_cell BK272.out 4).trans rfl; have hcz46_5 : w45.cell? ⟨gb272, 5, none⟩ = some (.int .i64 a0_5) := (blk_cell BK272.out 5).trans rfl; have hfz46_0 := blk_frozen BK272.out 0; have hfz46_1 := blk_frozen BK272.out 1; have hfz46_2 := blk_frozen BK272.out 2; have hfz46_3 := blk_frozen BK272.out 3; have hfz46_4 := blk_frozen BK272.out 4; have hfz46_5 := blk_frozen BK272.out 5) | ((with_reducible refine gate_callee (f := 52) rfl ?_); refine goesL_ (some 13) rfl rfl Try.func52 z13_5 rfl #[.agg #[.int .i64 a0_0, .slice A0_1 l0_1.length c0_1, .int .i64 a0_2, .int .i64 a0_3, .int .i64 a0_4, .int .i64 a0_5]] rfl z13_6 ?_; (with_reducible refine (impl_IsProcess.calls k a0_0 _ _ l0_1 a0_2 a0_3 a0_4 a0_5 false _ ?side1 ?side2 A2.out).mono ?_); (case side1 => have zh := (Kd.C_below HR0_1.out HB.out); exact z13_C); (case side2 => exact HC0_1.out); rintro e w47 ⟨rfl, hb⟩; refine ⟨_, rfl, ?_⟩; have n0_ := z13_A (blk_below (g := gb272) (o := .cells #[.int .i64 a0_0, .slice A0_1 l0_1.length c0_1, .int .i64 a0_2, .int .i64 a0_3, .int .i64 a0_4, .int .i64 a0_5] 30 (0, 0)) z13_2 hb); have n1_ := z13_A (below_step z13_1 hb); clear BK272 HB; revert n0_ n1_; intro BK272 HB; (try clear hb); (try clear hb2); (try clear hk); (try clear hi)))
  go_ret2
  exact ⟨_, z13_15, by first | exact Kd.R_nil _ _ _ _ _ | exact Kd.N_nil _ _ _ _ _ | exact Kd.V_nil _ _ _ _ _ | exact Kd.Q_nil _ _ _ _ _ | exact Kd.S_nil _ _ _ _ _, z13_1⟩

end Go.Proofs.Ytmekmkhdhakohaa.PFnExactBestLevels
