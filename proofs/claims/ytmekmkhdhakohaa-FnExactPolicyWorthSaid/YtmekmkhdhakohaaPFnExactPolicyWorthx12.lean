-- A text of this session (its program hook.py, over the kit's print.py): not a print of print.sh
-- THIN: one blank for two
import Derived.Test.YtmekmkhdhakohaaPFnExactPolicyWorthx0
import Derived.Test.YtmekmkhdhakohaaPFnExactPolicyWorthx8
import Derived.Test.YtmekmkhdhakohaaPFnExactPolicyWorthx9
import Derived.Test.YtmekmkhdhakohaaPFnExactPolicyWorthx10
import Derived.Test.YtmekmkhdhakohaaPFnExactPolicyWorthx11
namespace Go.Proofs.Ytmekmkhdhakohaa.PFnExactPolicyWorth
open Go.RowKit Go.Proofs.YtmekmkhdhakohaaW.PrintWords Go.Proofs.YtmekmkhdhakohaaW.PrintLast Go.Proofs.YtmekmkhdhakohaaW.PrintMore
attribute [local go_sem] max2_int min2_int max_two min_two max_three min_three max_four min_four   -- for this text's walks alone
set_option linter.unusedVariables false
set_option linter.unusedSimpArgs false

-- SQUEEZED
private theorem bcz {w : World} {g : Nat} {t : TypeId} {cs : Array Value} (h : w.heap[g]? = some (.cells cs t (0, 0))) (i : Nat) {v : Value} (e : cs[i]? = some v) : w.cell? ⟨g, i, none⟩ = some v := (blk_cell h i).trans e
private theorem F4z {P : Nat → Prop} (h : ∀ i, P i) : P 0 ∧ P 1 ∧ P 2 ∧ P 3 := ⟨h 0, h 1, h 2, h 3⟩
theorem z12_A {p : Prop} (h : p) : Aside0 p := Aside0.mk h
theorem z12_C {p : Prop} (h : p := by repeat (first | exact zh | (with_reducible refine Kd.C_alloc ?_ _) | (with_reducible refine Kd.C_drewN ?_ _) | (with_reducible refine Kd.C_drew ?_))) : p := h
theorem z12_1 {p : Prop} (h : p := by (with_reducible repeat (first | refine blk_drewN ?_ _ | refine blk_drew ?_ | refine blk_alloc ?_ _)); refine blk_far ?_ NB235_238.out _; (with_reducible repeat (first | refine blk_drewN ?_ _ | refine blk_drew ?_ | refine blk_alloc ?_ _)); refine blk_far ?_ NB235_238.out _; (with_reducible repeat (first | refine blk_drewN ?_ _ | refine blk_drew ?_ | refine blk_alloc ?_ _)); refine blk_far ?_ NB235_238.out _; (with_reducible repeat (first | refine blk_drewN ?_ _ | refine blk_drew ?_ | refine blk_alloc ?_ _)); refine blk_far ?_ NB235_238.out _; (with_reducible repeat (first | refine blk_drewN ?_ _ | refine blk_drew ?_ | refine blk_alloc ?_ _)); refine blk_far ?_ NB235_238.out _; (with_reducible repeat (first | refine blk_drewN ?_ _ | refine blk_drew ?_ | refine blk_alloc ?_ _)); refine blk_far ?_ NB235_238.out _; (with_reducible repeat (first | refine blk_drewN ?_ _ | refine blk_drew ?_ | refine blk_alloc ?_ _)); refine blk_far ?_ NB235_238.out _; (with_reducible repeat (first | refine blk_drewN ?_ _ | refine blk_drew ?_ | refine blk_alloc ?_ _)); refine blk_far ?_ NB235_238.out _; (with_reducible repeat (first | refine blk_drewN ?_ _ | refine blk_drew ?_ | refine blk_alloc ?_ _)); refine blk_far ?_ NB235_238.out _; (with_reducible repeat (first | refine blk_drewN ?_ _ | refine blk_drew ?_ | refine blk_alloc ?_ _)); refine blk_far ?_ NB235_238.out _; (with_reducible repeat (first | refine blk_drewN ?_ _ | refine blk_drew ?_ | refine blk_alloc ?_ _)); refine blk_far ?_ NB235_238.out _; (with_reducible repeat (first | refine blk_drewN ?_ _ | refine blk_drew ?_ | refine blk_alloc ?_ _)); refine blk_far ?_ NB235_238.out _; (with_reducible repeat (first | refine blk_drewN ?_ _ | refine blk_drew ?_ | refine blk_alloc ?_ _)); refine blk_far ?_ NB235_238.out _; (with_reducible repeat (first | refine blk_drewN ?_ _ | refine blk_drew ?_ | refine blk_alloc ?_ _)); refine blk_far ?_ NB235_238.out _; (with_reducible repeat (first | refine blk_drewN ?_ _ | refine blk_drew ?_ | refine blk_alloc ?_ _)); refine blk_far ?_ NB235_238.out _; (with_reducible repeat (first | refine blk_drewN ?_ _ | refine blk_drew ?_ | refine blk_alloc ?_ _)); refine blk_far ?_ NB235_238.out _; (with_reducible repeat (first | refine blk_drewN ?_ _ | refine blk_drew ?_ | refine blk_alloc ?_ _)); refine blk_far ?_ NB235_238.out _; (with_reducible repeat (first | refine blk_drewN ?_ _ | refine blk_drew ?_ | refine blk_alloc ?_ _)); refine blk_far ?_ NB235_238.out _; (with_reducible repeat (first | refine blk_drewN ?_ _ | refine blk_drew ?_ | refine blk_alloc ?_ _)); refine blk_far ?_ NB235_238.out _; (with_reducible repeat (first | refine blk_drewN ?_ _ | refine blk_drew ?_ | refine blk_alloc ?_ _)); refine blk_far ?_ NB235_238.out _; (with_reducible repeat (first | refine blk_drewN ?_ _ | refine blk_drew ?_ | refine blk_alloc ?_ _)); refine blk_far ?_ NB235_238.out _; (with_reducible repeat (first | refine blk_drewN ?_ _ | refine blk_drew ?_ | refine blk_alloc ?_ _)); exact BK235.out) : p := h
theorem z12_2 {p : Prop} (h : p := by (with_reducible repeat (first | refine blk_drewN ?_ _ | refine blk_drew ?_ | refine blk_alloc ?_ _)); exact BK235.out) : p := h
theorem z12_3 {p : Prop} (h : p := by repeat (first | (with_reducible first | exact HB.out | apply below_alloc | apply pw_below_drewN | apply below_drew1 | refine below_set ?_ GE235.out | refine below_set ?_ GE238.out | refine below_set ?_ GE246.out) | exact HB.out)) : p := h
theorem z12_4 {p : Prop} (h : p := by repeat (first | (with_reducible first | exact HB.out | apply below_alloc | apply pw_below_drewN | apply below_drew1 | refine below_set ?_ GE235.out) | exact HB.out)) : p := h
theorem z12_5 {p : Prop} (h : p := by repeat (first | (with_reducible first | exact HB.out | apply below_alloc | apply pw_below_drewN | apply below_drew1 | refine below_set ?_ GE235.out | refine below_set ?_ GE238.out) | exact HB.out)) : p := h
theorem z12_6 {p : Prop} (h : p := by (with_reducible repeat (first | refine blk_drewN ?_ _ | refine blk_drew ?_ | refine blk_alloc ?_ _)); exact BK238.out) : p := h
theorem z12_7 {p : Prop} (h : p := by (try simp only [List.map_toArray, List.map_cons, List.map_nil]); first | done | rfl | (simp only [List.length_drop, List.length_take]; rfl)) : p := h
theorem z12_8 {p : Prop} (h : p := by (with_reducible repeat (first | refine blk_drewN ?_ _ | refine blk_drew ?_ | refine blk_alloc ?_ _)); exact BK246.out) : p := h
theorem z12_9 {p : Prop} (h : p := by kernel_rfl) : p := h
theorem z12_10 {p : Prop} (h : p := by repeat (first | (with_reducible first | exact HB.out | apply below_alloc | apply pw_below_drewN | apply below_drew1) | exact HB.out)) : p := h
theorem z12_11 {p : Prop} (h : p := by exact rfl) : p := h
theorem z12_12 {p : Prop} (h : p := by first | rfl | (simp; done) | (simp [*]; done)) : p := h
theorem z12_13 {p : Prop} (h : p := by repeat (first | (with_reducible exact HR242.out) | (with_reducible refine Kd.C_alloc ?_ _) | (with_reducible refine Kd.C_drewN ?_ _) | (with_reducible refine Kd.C_drew ?_) | exact HR242.out)) : p := h
theorem z12_14 {p : Prop} (h : p := by rw [hg]; exact Nat.ne_of_lt (blk_lt (g := gb235) (o := .cells #[.int .i64 a0_0, .slice A0_1 l0_1.length c0_1, .int .i64 a0_2, .int .i64 a0_3, .int .i64 a0_4, .int .i64 a0_5] 30 (0, 0)) z12_2)) : p := h
theorem z12_15 {p : Prop} (h : p := by rw [hg]; exact Nat.ne_of_gt (blk_lt (g := gb235) (o := .cells #[.int .i64 a0_0, .slice A0_1 l0_1.length c0_1, .int .i64 a0_2, .int .i64 a0_3, .int .i64 a0_4, .int .i64 a0_5] 30 (0, 0)) z12_2)) : p := h
theorem z12_16 {p : Prop} (h : p := by first | (with_reducible assumption) | assumption) : p := h
theorem z12_17 {p : Prop} (h : p := by rfl) : p := h
theorem z12_18 {p : Prop} (h : p := by first | rfl | (simp [errW_none, errW_some] <;> rfl) | (simp [*, errW_none, errW_some] <;> rfl)) : p := h

/-! ### impl_PolicyWorth: function 43 -/
mutual
def impl_PolicyWorth.j0 : Nat → List (S72) → Bool → Int → List Int → Int → Int → Int → Int → Option (List Int × Bool)
 | 0, _, _, _, _, _, _, _, _ => none
 | k + 1, x1, x20, x236000, x236001, x236002, x236003, x236004, x236005 => if x20 = true then (some (([] : List Int), false)) else (impl_PolicyWorth.l0 k x1 (wrap64 (x236000 - 1)) x236000 x236001 x236002 x236003 x236004 x236005 0 0 0 0 0 0 0 0 0 0 0 0 0 0 0 0 0 0 0 0 0)
def impl_PolicyWorth.l0 : Nat → List (S72) → Int → Int → List Int → Int → Int → Int → Int → Int → Int → Int → Int → Int → Int → Int → Int → Int → Int → Int → Int → Int → Int → Int → Int → Int → Int → Int → Int → Int → Option (List Int × Bool)
 | 0, _, _, _, _, _, _, _, _, _, _, _, _, _, _, _, _, _, _, _, _, _, _, _, _, _, _, _, _, _ => none
 | k + 1, x1, x7, x236000, x236001, x236002, x236003, x236004, x236005, x239000, x239001, x239002, x239003, x239004, x239005, x239006, x239007, x239008, x239009, x239010, x239011, x239012, x239013, x239014, x239015, x239016, x239017, x239018, x239019, x239020 => if x7 ≥ 0 then (impl_PolicyWorth.l1 k x1 x7 (wrap64 (x236000 - x7)) (-10) x236000 x236001 x236002 x236003 x236004 x236005 x239000 x239001 x239002 x239003 x239004 x239005 x239006 x239007 x239008 x239009 x239010 x239011 x239012 x239013 x239014 x239015 x239016 x239017 x239018 x239019 x239020 0 0 0 0 0 0 0 0 0 0 0 0 0 0 0 0 0 0 0 0 0) else ((impl_copied.f ([x239000, x239001, x239002, x239003, x239004, x239005, x239006, x239007, x239008, x239009, x239010, x239011, x239012, x239013, x239014, x239015, x239016, x239017, x239018, x239019, x239020])).bind fun t243 => (some (t243, true)))
def impl_PolicyWorth.l1 : Nat → List (S72) → Int → Int → Int → Int → List Int → Int → Int → Int → Int → Int → Int → Int → Int → Int → Int → Int → Int → Int → Int → Int → Int → Int → Int → Int → Int → Int → Int → Int → Int → Int → Int → Int → Int → Int → Int → Int → Int → Int → Int → Int → Int → Int → Int → Int → Int → Int → Int → Int → Int → Int → Int → Option (List Int × Bool)
 | 0, _, _, _, _, _, _, _, _, _, _, _, _, _, _, _, _, _, _, _, _, _, _, _, _, _, _, _, _, _, _, _, _, _, _, _, _, _, _, _, _, _, _, _, _, _, _, _, _, _, _, _, _ => none
 | k + 1, x1, x7, x9, x10, x236000, x236001, x236002, x236003, x236004, x236005, x239000, x239001, x239002, x239003, x239004, x239005, x239006, x239007, x239008, x239009, x239010, x239011, x239012, x239013, x239014, x239015, x239016, x239017, x239018, x239019, x239020, x247000, x247001, x247002, x247003, x247004, x247005, x247006, x247007, x247008, x247009, x247010, x247011, x247012, x247013, x247014, x247015, x247016, x247017, x247018, x247019, x247020 => if x10 ≤ 10 then (if 0 ≤ x7 then (if x7 < (x1.length : Int) then ((impl_Process_orders.f x236000 x236001 x236002 x236003 x236004 x236005 ((rd_T72 x1 x7).f0) ((rd_T72 x1 x7).f1) x10).bind fun t248 => ((impl_Process_order.f x236000 x236001 x236002 x236003 x236004 x236005 x10 t248).bind fun t249 => ((impl_Process_whole.f k x236000 x236001 x236002 x236003 x236004 x236005 x9).bind fun t250 => ((impl_Process_behind.f k x236000 x236001 x236002 x236003 x236004 x236005 x9 t248 x239000 x239001 x239002 x239003 x239004 x239005 x239006 x239007 x239008 x239009 x239010 x239011 x239012 x239013 x239014 x239015 x239016 x239017 x239018 x239019 x239020).bind fun t251 => (if 0 ≤ (wrap64 (x10 + 10)) then (if (wrap64 (x10 + 10)) < 21 then (impl_PolicyWorth.l1 k x1 x7 x9 (wrap64 (x10 + 1)) x236000 x236001 x236002 x236003 x236004 x236005 x239000 x239001 x239002 x239003 x239004 x239005 x239006 x239007 x239008 x239009 x239010 x239011 x239012 x239013 x239014 x239015 x239016 x239017 x239018 x239019 x239020 (selI ((wrap64 (x10 + 10)) : Int).toNat 0 (wrap64 ((wrap64 (t249 * t250)) + t251)) x247000) (selI ((wrap64 (x10 + 10)) : Int).toNat 1 (wrap64 ((wrap64 (t249 * t250)) + t251)) x247001) (selI ((wrap64 (x10 + 10)) : Int).toNat 2 (wrap64 ((wrap64 (t249 * t250)) + t251)) x247002) (selI ((wrap64 (x10 + 10)) : Int).toNat 3 (wrap64 ((wrap64 (t249 * t250)) + t251)) x247003) (selI ((wrap64 (x10 + 10)) : Int).toNat 4 (wrap64 ((wrap64 (t249 * t250)) + t251)) x247004) (selI ((wrap64 (x10 + 10)) : Int).toNat 5 (wrap64 ((wrap64 (t249 * t250)) + t251)) x247005) (selI ((wrap64 (x10 + 10)) : Int).toNat 6 (wrap64 ((wrap64 (t249 * t250)) + t251)) x247006) (selI ((wrap64 (x10 + 10)) : Int).toNat 7 (wrap64 ((wrap64 (t249 * t250)) + t251)) x247007) (selI ((wrap64 (x10 + 10)) : Int).toNat 8 (wrap64 ((wrap64 (t249 * t250)) + t251)) x247008) (selI ((wrap64 (x10 + 10)) : Int).toNat 9 (wrap64 ((wrap64 (t249 * t250)) + t251)) x247009) (selI ((wrap64 (x10 + 10)) : Int).toNat 10 (wrap64 ((wrap64 (t249 * t250)) + t251)) x247010) (selI ((wrap64 (x10 + 10)) : Int).toNat 11 (wrap64 ((wrap64 (t249 * t250)) + t251)) x247011) (selI ((wrap64 (x10 + 10)) : Int).toNat 12 (wrap64 ((wrap64 (t249 * t250)) + t251)) x247012) (selI ((wrap64 (x10 + 10)) : Int).toNat 13 (wrap64 ((wrap64 (t249 * t250)) + t251)) x247013) (selI ((wrap64 (x10 + 10)) : Int).toNat 14 (wrap64 ((wrap64 (t249 * t250)) + t251)) x247014) (selI ((wrap64 (x10 + 10)) : Int).toNat 15 (wrap64 ((wrap64 (t249 * t250)) + t251)) x247015) (selI ((wrap64 (x10 + 10)) : Int).toNat 16 (wrap64 ((wrap64 (t249 * t250)) + t251)) x247016) (selI ((wrap64 (x10 + 10)) : Int).toNat 17 (wrap64 ((wrap64 (t249 * t250)) + t251)) x247017) (selI ((wrap64 (x10 + 10)) : Int).toNat 18 (wrap64 ((wrap64 (t249 * t250)) + t251)) x247018) (selI ((wrap64 (x10 + 10)) : Int).toNat 19 (wrap64 ((wrap64 (t249 * t250)) + t251)) x247019) (selI ((wrap64 (x10 + 10)) : Int).toNat 20 (wrap64 ((wrap64 (t249 * t250)) + t251)) x247020)) else (none)) else (none)))))) else (none)) else (none)) else (impl_PolicyWorth.l0 k x1 (wrap64 (x7 - 1)) x236000 x236001 x236002 x236003 x236004 x236005 x247000 x247001 x247002 x247003 x247004 x247005 x247006 x247007 x247008 x247009 x247010 x247011 x247012 x247013 x247014 x247015 x247016 x247017 x247018 x247019 x247020)
end
def impl_PolicyWorth.f (k : Nat) (a0_0 : Int) (l0_1 : List Int) (a0_2 : Int) (a0_3 : Int) (a0_4 : Int) (a0_5 : Int) (l1 : List (S72)) : Option (List Int × Bool) := (impl_IsProcess.f k a0_0 l0_1 a0_2 a0_3 a0_4 a0_5).bind fun t236 => (if t236 = true then ((impl_Process_isPolicy.f k a0_0 l0_1 a0_2 a0_3 a0_4 a0_5 l1).bind fun t237 => (impl_PolicyWorth.j0 k l1 (!t237) a0_0 l0_1 a0_2 a0_3 a0_4 a0_5)) else (impl_PolicyWorth.j0 k l1 true a0_0 l0_1 a0_2 a0_3 a0_4 a0_5))
theorem impl_PolicyWorth.mono_l : ∀ k, (∀ y0 y1 y2 y3 y4 y5 y6 y7, LeO (impl_PolicyWorth.j0 k y0 y1 y2 y3 y4 y5 y6 y7) (impl_PolicyWorth.j0 (k + 1) y0 y1 y2 y3 y4 y5 y6 y7)) ∧ (∀ y0 y1 y2 y3 y4 y5 y6 y7 y8 y9 y10 y11 y12 y13 y14 y15 y16 y17 y18 y19 y20 y21 y22 y23 y24 y25 y26 y27 y28, LeO (impl_PolicyWorth.l0 k y0 y1 y2 y3 y4 y5 y6 y7 y8 y9 y10 y11 y12 y13 y14 y15 y16 y17 y18 y19 y20 y21 y22 y23 y24 y25 y26 y27 y28) (impl_PolicyWorth.l0 (k + 1) y0 y1 y2 y3 y4 y5 y6 y7 y8 y9 y10 y11 y12 y13 y14 y15 y16 y17 y18 y19 y20 y21 y22 y23 y24 y25 y26 y27 y28)) ∧ (∀ y0 y1 y2 y3 y4 y5 y6 y7 y8 y9 y10 y11 y12 y13 y14 y15 y16 y17 y18 y19 y20 y21 y22 y23 y24 y25 y26 y27 y28 y29 y30 y31 y32 y33 y34 y35 y36 y37 y38 y39 y40 y41 y42 y43 y44 y45 y46 y47 y48 y49 y50 y51, LeO (impl_PolicyWorth.l1 k y0 y1 y2 y3 y4 y5 y6 y7 y8 y9 y10 y11 y12 y13 y14 y15 y16 y17 y18 y19 y20 y21 y22 y23 y24 y25 y26 y27 y28 y29 y30 y31 y32 y33 y34 y35 y36 y37 y38 y39 y40 y41 y42 y43 y44 y45 y46 y47 y48 y49 y50 y51) (impl_PolicyWorth.l1 (k + 1) y0 y1 y2 y3 y4 y5 y6 y7 y8 y9 y10 y11 y12 y13 y14 y15 y16 y17 y18 y19 y20 y21 y22 y23 y24 y25 y26 y27 y28 y29 y30 y31 y32 y33 y34 y35 y36 y37 y38 y39 y40 y41 y42 y43 y44 y45 y46 y47 y48 y49 y50 y51))
 | 0 => ⟨fun _ _ _ _ _ _ _ _ r h => by simp [impl_PolicyWorth.j0] at h, fun _ _ _ _ _ _ _ _ _ _ _ _ _ _ _ _ _ _ _ _ _ _ _ _ _ _ _ _ _ r h => by simp [impl_PolicyWorth.l0] at h, fun _ _ _ _ _ _ _ _ _ _ _ _ _ _ _ _ _ _ _ _ _ _ _ _ _ _ _ _ _ _ _ _ _ _ _ _ _ _ _ _ _ _ _ _ _ _ _ _ _ _ _ _ r h => by simp [impl_PolicyWorth.l1] at h⟩
 | k + 1 => by
  obtain ⟨ih0, ih1, ih2⟩ := impl_PolicyWorth.mono_l k
  refine ⟨?_, ?_, ?_⟩ <;> intros <;> (first | unfold impl_PolicyWorth.j0 | unfold impl_PolicyWorth.l0 | unfold impl_PolicyWorth.l1) <;> repeat' first
    | (with_reducible exact ih0 _ _ _ _ _ _ _ _)
    | (with_reducible exact ih1 _ _ _ _ _ _ _ _ _ _ _ _ _ _ _ _ _ _ _ _ _ _ _ _ _ _ _ _ _)
    | (with_reducible exact ih2 _ _ _ _ _ _ _ _ _ _ _ _ _ _ _ _ _ _ _ _ _ _ _ _ _ _ _ _ _ _ _ _ _ _ _ _ _ _ _ _ _ _ _ _ _ _ _ _ _ _ _ _)
    | (with_reducible exact impl_IsProcess.mono _ _ _ _ _ _ _)
    | (with_reducible exact impl_Process_behind.mono _ _ _ _ _ _ _ _ _ _ _ _ _ _ _ _ _ _ _ _ _ _ _ _ _ _ _ _ _ _)
    | (with_reducible exact impl_Process_isPolicy.mono _ _ _ _ _ _ _ _)
    | (with_reducible exact impl_Process_whole.mono _ _ _ _ _ _ _ _)
    | (with_reducible exact LeO.refl _)
    | (with_reducible exact LeO.none _)
    | (with_reducible refine LeO.ite ?_ ?_)
    | (with_reducible refine LeO.bind ?_ (fun _ => ?_))
    | exact ih0 _ _ _ _ _ _ _ _
    | exact ih1 _ _ _ _ _ _ _ _ _ _ _ _ _ _ _ _ _ _ _ _ _ _ _ _ _ _ _ _ _
    | exact ih2 _ _ _ _ _ _ _ _ _ _ _ _ _ _ _ _ _ _ _ _ _ _ _ _ _ _ _ _ _ _ _ _ _ _ _ _ _ _ _ _ _ _ _ _ _ _ _ _ _ _ _ _
    | exact impl_IsProcess.mono _ _ _ _ _ _ _
    | exact impl_Process_behind.mono _ _ _ _ _ _ _ _ _ _ _ _ _ _ _ _ _ _ _ _ _ _ _ _ _ _ _ _ _ _
    | exact impl_Process_isPolicy.mono _ _ _ _ _ _ _ _
    | exact impl_Process_whole.mono _ _ _ _ _ _ _ _
    | exact LeO.none _
    | refine LeO.ite ?_ ?_
    | refine LeO.bind ?_ (fun _ => ?_)
theorem impl_PolicyWorth.mono : ∀ a0 a1 a2 a3 a4 a5 a6 k, LeO (impl_PolicyWorth.f k a0 a1 a2 a3 a4 a5 a6) (impl_PolicyWorth.f (k + 1) a0 a1 a2 a3 a4 a5 a6) := by
 intro a0 a1 a2 a3 a4 a5 a6 k
 obtain ⟨ih0, ih1, ih2⟩ := impl_PolicyWorth.mono_l k
 unfold impl_PolicyWorth.f
 repeat' first
   | (with_reducible exact ih0 _ _ _ _ _ _ _ _)
   | (with_reducible exact ih1 _ _ _ _ _ _ _ _ _ _ _ _ _ _ _ _ _ _ _ _ _ _ _ _ _ _ _ _ _)
   | (with_reducible exact ih2 _ _ _ _ _ _ _ _ _ _ _ _ _ _ _ _ _ _ _ _ _ _ _ _ _ _ _ _ _ _ _ _ _ _ _ _ _ _ _ _ _ _ _ _ _ _ _ _ _ _ _ _)
   | (with_reducible exact impl_IsProcess.mono _ _ _ _ _ _ _)
   | (with_reducible exact impl_Process_behind.mono _ _ _ _ _ _ _ _ _ _ _ _ _ _ _ _ _ _ _ _ _ _ _ _ _ _ _ _ _ _)
   | (with_reducible exact impl_Process_isPolicy.mono _ _ _ _ _ _ _ _)
   | (with_reducible exact impl_Process_whole.mono _ _ _ _ _ _ _ _)
   | (with_reducible exact LeO.refl _)
   | (with_reducible exact LeO.none _)
   | (with_reducible refine LeO.ite ?_ ?_)
   | (with_reducible refine LeO.bind ?_ (fun _ => ?_))
   | exact ih0 _ _ _ _ _ _ _ _
   | exact ih1 _ _ _ _ _ _ _ _ _ _ _ _ _ _ _ _ _ _ _ _ _ _ _ _ _ _ _ _ _
   | exact ih2 _ _ _ _ _ _ _ _ _ _ _ _ _ _ _ _ _ _ _ _ _ _ _ _ _ _ _ _ _ _ _ _ _ _ _ _ _ _ _ _ _ _ _ _ _ _ _ _ _ _ _ _
   | exact impl_IsProcess.mono _ _ _ _ _ _ _
   | exact impl_Process_behind.mono _ _ _ _ _ _ _ _ _ _ _ _ _ _ _ _ _ _ _ _ _ _ _ _ _ _ _ _ _ _
   | exact impl_Process_isPolicy.mono _ _ _ _ _ _ _ _
   | exact impl_Process_whole.mono _ _ _ _ _ _ _ _
   | exact LeO.none _
   | refine LeO.ite ?_ ?_
   | refine LeO.bind ?_ (fun _ => ?_)
def impl_PolicyWorth.T7 : Bool × List (List Nat × List Nat) := (true, [([], []), ([], []), ([1], [1]), ([], []), ([2, 3], [2, 3]), ([], []), ([5, 0, 0, 5], [0, 5]), ([4, 6, 0, 1, 2, 3, 4, 5, 6], [4])])
def impl_PolicyWorth.B7 : List Nat := [0, 0, 2, 0, 14, 0, 33, 127]
theorem impl_PolicyWorth.tab7 : rtab .any (opsOf Try.f43 7) = impl_PolicyWorth.T7 := z12_9
theorem impl_PolicyWorth.bits7 : waitsOk impl_PolicyWorth.T7.2 impl_PolicyWorth.B7 = true := z12_9
def impl_PolicyWorth.T11 : Bool × List (List Nat × List Nat) := (true, [([], []), ([], []), ([], []), ([1, 2], [1, 2]), ([3], [3]), ([], []), ([0, 4, 5], [0, 4, 5]), ([6, 6, 0, 1, 2, 3, 4, 5, 6], [6])])
def impl_PolicyWorth.B11 : List Nat := [0, 0, 0, 6, 14, 0, 63, 127]
theorem impl_PolicyWorth.tab11 : rtab .any (opsOf Try.f43 11) = impl_PolicyWorth.T11 := z12_9
theorem impl_PolicyWorth.bits11 : waitsOk impl_PolicyWorth.T11.2 impl_PolicyWorth.B11 = true := z12_9
def impl_PolicyWorth.T12 : Bool × List (List Nat × List Nat) := (true, [([], []), ([0], [0]), ([], []), ([], []), ([], []), ([2, 3, 4], [2, 3, 4]), ([], []), ([], []), ([6, 7, 5], [6, 7]), ([5, 8], [5, 8]), ([], []), ([], []), ([], []), ([], []), ([10, 11, 12, 13, 8], [10, 11, 12, 13]), ([9, 14], [9, 14]), ([1, 0, 1, 2, 3, 4, 5, 6, 7, 8, 9, 10, 11, 12, 13, 14, 15], [1]), ([16, 15, 14, 0, 1, 2, 3, 4, 5, 6, 7, 8, 9, 10, 11, 12, 13, 14, 15], [15, 16])])
def impl_PolicyWorth.B12 : List Nat := [0, 1, 0, 0, 0, 28, 0, 0, 252, 508, 0, 0, 0, 0, 15868, 32764, 65535, 131071]
theorem impl_PolicyWorth.tab12 : rtab .any (opsOf Try.f43 12) = impl_PolicyWorth.T12 := z12_9
theorem impl_PolicyWorth.bits12 : waitsOk impl_PolicyWorth.T12.2 impl_PolicyWorth.B12 = true := z12_9
set_option maxHeartbeats 80000000 in
set_option maxRecDepth 100000 in
theorem impl_PolicyWorth.calls (k : Nat) (a0_0 : Int) (A0_1 : Option Addr) (c0_1 : Nat) (l0_1 : List Int) (a0_2 : Int) (a0_3 : Int) (a0_4 : Int) (a0_5 : Int) (A1 : Option Addr) (c1 : Nat) (l1 : List (S72)) (r1 : List Int) (r2 : Bool) (w : World) (hr0_1 : Kd.C (Kd.int .i64) w A0_1 l0_1.length l0_1) (hc0_1 : l0_1.length ≤ c0_1) (hr1 : Kd.C k72 w A1 l1.length l1) (hc1 : l1.length ≤ c1) (h : impl_PolicyWorth.f k a0_0 l0_1 a0_2 a0_3 a0_4 a0_5 l1 = some (r1, r2)) :
  Calls Try.prog 43 #[.agg #[.int .i64 a0_0, .slice A0_1 l0_1.length c0_1, .int .i64 a0_2, .int .i64 a0_3, .int .i64 a0_4, .int .i64 a0_5], .slice A1 l1.length c1] w fun e w' => ∃ v0_ : Value, e = .returned (.tuple #[v0_, .bool r2]) ∧ Kd.R (Kd.int .i64) 3 w' w.heap.size (fun _ => True) v0_ r1 ∧ Below w.heap.size w w' := by
 have hu30 := Try.underlying30
 have hu94 := Try.underlying94
 have hu72 := Try.underlying72
 have HR0_1 := z12_A hr0_1
 have HC0_1 := z12_A hc0_1
 clear hr0_1 hc0_1
 have HR1 := z12_A hr1
 have HC1 := z12_A hc1
 clear hr1 hc1
 have HB := z12_A (Below.refl w.heap.size w)
 have H : ((impl_IsProcess.f k a0_0 l0_1 a0_2 a0_3 a0_4 a0_5).bind fun t236 => (if t236 = true then ((impl_Process_isPolicy.f k a0_0 l0_1 a0_2 a0_3 a0_4 a0_5 l1).bind fun t237 => (impl_PolicyWorth.j0 k l1 (!t237) a0_0 l0_1 a0_2 a0_3 a0_4 a0_5)) else (impl_PolicyWorth.j0 k l1 true a0_0 l0_1 a0_2 a0_3 a0_4 a0_5))) = some (r1, r2) := h
 clear h
 have HC3 := z12_A H
 clear H
 go_enter Try.func43, Try.ntmps43
 go_upto_region 1 with (first | ((with_reducible refine gate_dst (N := 2) rfl ?_); refine box_event ?hg (N := 2) ?hd (cs := #[.int .i64 a0_0, .slice A0_1 l0_1.length c0_1, .int .i64 a0_2, .int .i64 a0_3, .int .i64 a0_4, .int .i64 a0_5]) (t := 30) ?hr ?_; (case hd => rfl); (case hg => rfl); (case hr => first | (go_simp; done) | (go_simp; rfl)); intro gb235 hg w4 hbox hb; have n0_ := z12_A (below_step z12_10 hb); have n1_ := z12_A (hbox); have n2_ := z12_A ((by rw [hg]; exact (below_size z12_10) : w.heap.size ≤ gb235)); have n3_ := z12_A ((by rw [hg]; exact (below_size z12_10) : w.heap.size ≤ gb235)); clear HB; revert n0_ n1_ n2_ n3_; intro HB BK235 GW235 GE235; clear hb hbox hg))
 (try simp only [Act.put, List.setIfInBounds_toArray, List.set_cons_zero, List.set_cons_succ])
 go_cut [20] (fun v20 wc => ∃ (kq : Nat) (x20_2 : Bool), v20 = .bool x20_2 ∧ Aside0 (impl_PolicyWorth.j0 kq l1 x20_2 a0_0 l0_1 a0_2 a0_3 a0_4 a0_5 = some (r1, r2)) ∧ Aside0 (kq ≤ k) ∧ Aside0 (wc.heap[gb235]? = some (.cells #[.int .i64 a0_0, (.slice A0_1 l0_1.length c0_1), .int .i64 a0_2, .int .i64 a0_3, .int .i64 a0_4, .int .i64 a0_5] 30 (0, 0))) ∧ Aside0 (Below w.heap.size w wc))
 case first =>
  have H := HC3.out
  clear HC3
  replace H := Option.bind_eq_some_iff.mp H
  obtain ⟨t236, A50, H⟩ := H
  (try dsimp only at H)
  have A5 := z12_A A50
  clear A50
  by_cases c6 : t236 = true
  ·subst c6
   have H1 : ((impl_Process_isPolicy.f k a0_0 l0_1 a0_2 a0_3 a0_4 a0_5 l1).bind fun t237 => (impl_PolicyWorth.j0 k l1 (!t237) a0_0 l0_1 a0_2 a0_3 a0_4 a0_5)) = some (r1, r2) := by rw [if_pos rfl] at H; exact H
   clear H
   have H := H1
   clear H1
   replace H := Option.bind_eq_some_iff.mp H
   obtain ⟨t237, A70, H⟩ := H
   (try dsimp only at H)
   have A7 := z12_A A70
   clear A70
   have H' := z12_A H
   clear H
   have hcz8_0 : w4.cell? ⟨gb235, 0, none⟩ = some (.int .i64 a0_0) := bcz BK235.out 0 rfl
   have hcz8_1 : w4.cell? ⟨gb235, 1, none⟩ = some (.slice A0_1 l0_1.length c0_1) := bcz BK235.out 1 rfl
   have hcz8_2 : w4.cell? ⟨gb235, 2, none⟩ = some (.int .i64 a0_2) := bcz BK235.out 2 rfl
   have hcz8_3 : w4.cell? ⟨gb235, 3, none⟩ = some (.int .i64 a0_3) := bcz BK235.out 3 rfl
   have hcz8_4 : w4.cell? ⟨gb235, 4, none⟩ = some (.int .i64 a0_4) := bcz BK235.out 4 rfl
   have hcz8_5 : w4.cell? ⟨gb235, 5, none⟩ = some (.int .i64 a0_5) := bcz BK235.out 5 rfl
   obtain ⟨hfz8_0, hfz8_1, hfz8_2, hfz8_3⟩ := F4z (blk_frozen BK235.out)
   have hfz8_4 := blk_frozen BK235.out 4
   have hfz8_5 := blk_frozen BK235.out 5
   go_wp2_with (first | ((with_reducible refine gate_callee (f := 52) rfl ?_); refine goesL_ (some 13) rfl rfl Try.func52 z12_9 rfl #[.agg #[.int .i64 a0_0, .slice A0_1 l0_1.length c0_1, .int .i64 a0_2, .int .i64 a0_3, .int .i64 a0_4, .int .i64 a0_5]] rfl z12_7 ?_; (with_reducible refine (impl_IsProcess.calls k a0_0 _ _ l0_1 a0_2 a0_3 a0_4 a0_5 true _ ?side1 ?side2 A5.out).mono ?_); (case side1 => have zh := (Kd.C_below HR0_1.out HB.out); exact z12_C); (case side2 => exact HC0_1.out); rintro e w9 ⟨rfl, hb⟩; refine ⟨_, rfl, ?_⟩; have n0_ := z12_A (blk_below (g := gb235) (o := .cells #[.int .i64 a0_0, .slice A0_1 l0_1.length c0_1, .int .i64 a0_2, .int .i64 a0_3, .int .i64 a0_4, .int .i64 a0_5] 30 (0, 0)) z12_2 hb); have n1_ := z12_A (below_step z12_4 hb); clear BK235 HB; revert n0_ n1_; intro BK235 HB; (try clear hb); (try clear hb2); (try clear hk); (try clear hi); have hcz10_0 : w9.cell? ⟨gb235, 0, none⟩ = some (.int .i64 a0_0) := bcz BK235.out 0 rfl; have hcz10_1 : w9.cell? ⟨gb235, 1, none⟩ = some (.slice A0_1 l0_1.length c0_1) := bcz BK235.out 1 rfl; have hcz10_2 : w9.cell? ⟨gb235, 2, none⟩ = some (.int .i64 a0_2) := bcz BK235.out 2 rfl; have hcz10_3 : w9.cell? ⟨gb235, 3, none⟩ = some (.int .i64 a0_3) := bcz BK235.out 3 rfl; have hcz10_4 : w9.cell? ⟨gb235, 4, none⟩ = some (.int .i64 a0_4) := bcz BK235.out 4 rfl; have hcz10_5 : w9.cell? ⟨gb235, 5, none⟩ = some (.int .i64 a0_5) := bcz BK235.out 5 rfl; obtain ⟨hfz10_0, hfz10_1, hfz10_2, hfz10_3⟩ := F4z (blk_frozen BK235.out); have hfz10_4 := blk_frozen BK235.out 4; have hfz10_5 := blk_frozen BK235.out 5) | (go_at_call 72; (with_reducible refine (impl_Process_isPolicy.calls k a0_0 _ _ l0_1 a0_2 a0_3 a0_4 a0_5 _ _ l1 t237 _ ?side1 ?side2 ?side3 ?side4 A7.out).mono ?_); (case side1 => have zh := (Kd.C_below HR0_1.out HB.out); exact z12_C); (case side2 => exact HC0_1.out); (case side3 => have zh := (Kd.C_below HR1.out HB.out); exact z12_C); (case side4 => exact HC1.out); rintro e w11 ⟨rfl, hb⟩; have n0_ := z12_A (blk_below (g := gb235) (o := .cells #[.int .i64 a0_0, .slice A0_1 l0_1.length c0_1, .int .i64 a0_2, .int .i64 a0_3, .int .i64 a0_4, .int .i64 a0_5] 30 (0, 0)) z12_2 hb); have n1_ := z12_A (below_step z12_4 hb); clear BK235 HB; revert n0_ n1_; intro BK235 HB; (try clear hb); (try clear hb2); (try clear hk); (try clear hi)))
   go_meet
   case rel => exact ⟨_, (!t237), z12_12, H', ⟨by first | omega | exact Nat.le_refl _⟩, ⟨z12_2⟩, ⟨z12_4⟩⟩
  ·replace c6 := Bool.eq_false_iff.mpr c6
   subst c6
   have H1 : (impl_PolicyWorth.j0 k l1 true a0_0 l0_1 a0_2 a0_3 a0_4 a0_5) = some (r1, r2) := by rw [if_neg (show ¬ (false = true) by decide)] at H; exact H
   clear H
   have H := H1
   clear H1
   have H' := z12_A H
   clear H
   have hcz12_0 : w4.cell? ⟨gb235, 0, none⟩ = some (.int .i64 a0_0) := bcz BK235.out 0 rfl
   have hcz12_1 : w4.cell? ⟨gb235, 1, none⟩ = some (.slice A0_1 l0_1.length c0_1) := bcz BK235.out 1 rfl
   have hcz12_2 : w4.cell? ⟨gb235, 2, none⟩ = some (.int .i64 a0_2) := bcz BK235.out 2 rfl
   have hcz12_3 : w4.cell? ⟨gb235, 3, none⟩ = some (.int .i64 a0_3) := bcz BK235.out 3 rfl
   have hcz12_4 : w4.cell? ⟨gb235, 4, none⟩ = some (.int .i64 a0_4) := bcz BK235.out 4 rfl
   have hcz12_5 : w4.cell? ⟨gb235, 5, none⟩ = some (.int .i64 a0_5) := bcz BK235.out 5 rfl
   obtain ⟨hfz12_0, hfz12_1, hfz12_2, hfz12_3⟩ := F4z (blk_frozen BK235.out)
   have hfz12_4 := blk_frozen BK235.out 4
   have hfz12_5 := blk_frozen BK235.out 5
   go_wp2_with (first | ((with_reducible refine gate_callee (f := 52) rfl ?_); refine goesL_ (some 13) rfl rfl Try.func52 z12_9 rfl #[.agg #[.int .i64 a0_0, .slice A0_1 l0_1.length c0_1, .int .i64 a0_2, .int .i64 a0_3, .int .i64 a0_4, .int .i64 a0_5]] rfl z12_7 ?_; (with_reducible refine (impl_IsProcess.calls k a0_0 _ _ l0_1 a0_2 a0_3 a0_4 a0_5 false _ ?side1 ?side2 A5.out).mono ?_); (case side1 => have zh := (Kd.C_below HR0_1.out HB.out); exact z12_C); (case side2 => exact HC0_1.out); rintro e w13 ⟨rfl, hb⟩; refine ⟨_, rfl, ?_⟩; have n0_ := z12_A (blk_below (g := gb235) (o := .cells #[.int .i64 a0_0, .slice A0_1 l0_1.length c0_1, .int .i64 a0_2, .int .i64 a0_3, .int .i64 a0_4, .int .i64 a0_5] 30 (0, 0)) z12_2 hb); have n1_ := z12_A (below_step z12_4 hb); clear BK235 HB; revert n0_ n1_; intro BK235 HB; (try clear hb); (try clear hb2); (try clear hk); (try clear hi)))
   go_meet
   case rel => exact ⟨_, (true), z12_12, H', ⟨by first | omega | exact Nat.le_refl _⟩, ⟨z12_2⟩, ⟨z12_4⟩⟩
 case rest =>
  clear HC3
  (try clear c1)
  obtain ⟨kq, x20_2, rfl, HA, HJ2, BK235, HB⟩ := hcut
  cases kq with
  | zero => exact absurd HA.out (by simp [impl_PolicyWorth.j0])
  | succ kj2 =>
   have H := HA.out
   clear HA
   simp only [impl_PolicyWorth.j0] at H
   by_cases c14 : x20_2 = true
   ·subst c14
    have H1 : (some (([] : List Int), false)) = some (r1, r2) := by rw [if_pos rfl] at H; exact H
    clear H
    have H := H1
    clear H1
    simp only [Option.some.injEq, Prod.mk.injEq] at H
    obtain ⟨rfl, rfl⟩ := H
    go_wp2
    go_ret2
    exact ⟨_, z12_18, by first | exact Kd.R_nil _ _ _ _ _ | exact Kd.N_nil _ _ _ _ _ | exact Kd.V_nil _ _ _ _ _ | exact Kd.Q_nil _ _ _ _ _ | exact Kd.S_nil _ _ _ _ _, z12_4⟩
   ·replace c14 := Bool.eq_false_iff.mpr c14
    subst c14
    have H1 : (impl_PolicyWorth.l0 kj2 l1 (wrap64 (a0_0 - 1)) a0_0 l0_1 a0_2 a0_3 a0_4 a0_5 0 0 0 0 0 0 0 0 0 0 0 0 0 0 0 0 0 0 0 0 0) = some (r1, r2) := by rw [if_neg (show ¬ (false = true) by decide)] at H; exact H
    clear H
    have H := H1
    clear H1
    have H' := z12_A H
    clear H
    go_wp2_with (first | ((with_reducible refine gateS94 rfl ?_); first | (refine storeP94 rfl rfl z12_11 z12_11 z12_11 BK238.out ?_)) | ((with_reducible refine gateL94 rfl ?_); first | (refine loadX94 rfl z12_11 z12_11 BK238.out ?_)) | ((with_reducible refine gate_dst (N := 6) rfl ?_); refine box_event ?hg (N := 6) ?hd (cs := #[.int .i64 0, .int .i64 0, .int .i64 0, .int .i64 0, .int .i64 0, .int .i64 0, .int .i64 0, .int .i64 0, .int .i64 0, .int .i64 0, .int .i64 0, .int .i64 0, .int .i64 0, .int .i64 0, .int .i64 0, .int .i64 0, .int .i64 0, .int .i64 0, .int .i64 0, .int .i64 0, .int .i64 0]) (t := 94) ?hr ?_; (case hd => rfl); (case hg => rfl); (case hr => first | (go_simp; done) | (go_simp; rfl)); intro gb238 hg w15 hbox hb; have n0_ := z12_A (blk_below (g := gb235) (o := .cells #[.int .i64 a0_0, .slice A0_1 l0_1.length c0_1, .int .i64 a0_2, .int .i64 a0_3, .int .i64 a0_4, .int .i64 a0_5] 30 (0, 0)) z12_2 hb); have n1_ := z12_A (below_step z12_4 hb); have n2_ := z12_A (hbox); have n3_ := z12_A ((by rw [hg]; exact (below_size z12_4) : w.heap.size ≤ gb238)); have n4_ := z12_A ((by rw [hg]; exact (below_size z12_4) : w.heap.size ≤ gb238)); have n5_ := z12_A ((z12_14 : gb235 ≠ gb238)); have n6_ := z12_A ((z12_15 : gb238 ≠ gb235)); clear BK235 HB; revert n0_ n1_ n2_ n3_ n4_ n5_ n6_; intro BK235 HB BK238 GW238 GE238 NB235_238 NB238_235; clear hb hbox hg; have hnb16 := NB238_235.out; have hnc16 := NB235_238.out; have hcz17_0 : w15.cell? ⟨gb238, 0, none⟩ = some (.int .i64 0) := bcz BK238.out 0 rfl; have hcz17_1 : w15.cell? ⟨gb238, 1, none⟩ = some (.int .i64 0) := bcz BK238.out 1 rfl; have hcz17_2 : w15.cell? ⟨gb238, 2, none⟩ = some (.int .i64 0) := bcz BK238.out 2 rfl; have hcz17_3 : w15.cell? ⟨gb238, 3, none⟩ = some (.int .i64 0) := bcz BK238.out 3 rfl; have hcz17_4 : w15.cell? ⟨gb238, 4, none⟩ = some (.int .i64 0) := bcz BK238.out 4 rfl; have hcz17_5 : w15.cell? ⟨gb238, 5, none⟩ = some (.int .i64 0) := bcz BK238.out 5 rfl; have hcz17_6 : w15.cell? ⟨gb238, 6, none⟩ = some (.int .i64 0) := bcz BK238.out 6 rfl; have hcz17_7 : w15.cell? ⟨gb238, 7, none⟩ = some (.int .i64 0) := bcz BK238.out 7 rfl; have hcz17_8 : w15.cell? ⟨gb238, 8, none⟩ = some (.int .i64 0) := bcz BK238.out 8 rfl; have hcz17_9 : w15.cell? ⟨gb238, 9, none⟩ = some (.int .i64 0) := bcz BK238.out 9 rfl; have hcz17_10 : w15.cell? ⟨gb238, 10, none⟩ = some (.int .i64 0) := bcz BK238.out 10 rfl; have hcz17_11 : w15.cell? ⟨gb238, 11, none⟩ = some (.int .i64 0) := bcz BK238.out 11 rfl; have hcz17_12 : w15.cell? ⟨gb238, 12, none⟩ = some (.int .i64 0) := bcz BK238.out 12 rfl; have hcz17_13 : w15.cell? ⟨gb238, 13, none⟩ = some (.int .i64 0) := bcz BK238.out 13 rfl; have hcz17_14 : w15.cell? ⟨gb238, 14, none⟩ = some (.int .i64 0) := bcz BK238.out 14 rfl; have hcz17_15 : w15.cell? ⟨gb238, 15, none⟩ = some (.int .i64 0) := bcz BK238.out 15 rfl; have hcz17_16 : w15.cell? ⟨gb238, 16, none⟩ = some (.int .i64 0) := bcz BK238.out 16 rfl; have hcz17_17 : w15.cell? ⟨gb238, 17, none⟩ = some (.int .i64 0) := bcz BK238.out 17 rfl; have hcz17_18 : w15.cell? ⟨gb238, 18, none⟩ = some (.int .i64 0) := bcz BK238.out 18 rfl; have hcz17_19 : w15.cell? ⟨gb238, 19, none⟩ = some (.int .i64 0) := bcz BK238.out 19 rfl; have hcz17_20 : w15.cell? ⟨gb238, 20, none⟩ = some (.int .i64 0) := bcz BK238.out 20 rfl; obtain ⟨hfz17_0, hfz17_1, hfz17_2, hfz17_3⟩ := F4z (blk_frozen BK238.out); have hfz17_4 := blk_frozen BK238.out 4; have hfz17_5 := blk_frozen BK238.out 5; have hfz17_6 := blk_frozen BK238.out 6; have hfz17_7 := blk_frozen BK238.out 7; have hfz17_8 := blk_frozen BK238.out 8; have hfz17_9 := blk_frozen BK238.out 9; have hfz17_10 := blk_frozen BK238.out 10; have hfz17_11 := blk_frozen BK238.out 11; have hfz17_12 := blk_frozen BK238.out 12; have hfz17_13 := blk_frozen BK238.out 13; have hfz17_14 := blk_frozen BK238.out 14; have hfz17_15 := blk_frozen BK238.out 15; have hfz17_16 := blk_frozen BK238.out 16; have hfz17_17 := blk_frozen BK238.out 17; have hfz17_18 := blk_frozen BK238.out 18; have hfz17_19 := blk_frozen BK238.out 19; have hfz17_20 := blk_frozen BK238.out 20; have hcz18_0 : w15.cell? ⟨gb235, 0, none⟩ = some (.int .i64 a0_0) := bcz BK235.out 0 rfl; have hcz18_1 : w15.cell? ⟨gb235, 1, none⟩ = some (.slice A0_1 l0_1.length c0_1) := bcz BK235.out 1 rfl; have hcz18_2 : w15.cell? ⟨gb235, 2, none⟩ = some (.int .i64 a0_2) := bcz BK235.out 2 rfl; have hcz18_3 : w15.cell? ⟨gb235, 3, none⟩ = some (.int .i64 a0_3) := bcz BK235.out 3 rfl; have hcz18_4 : w15.cell? ⟨gb235, 4, none⟩ = some (.int .i64 a0_4) := bcz BK235.out 4 rfl; have hcz18_5 : w15.cell? ⟨gb235, 5, none⟩ = some (.int .i64 a0_5) := bcz BK235.out 5 rfl; obtain ⟨hfz18_0, hfz18_1, hfz18_2, hfz18_3⟩ := F4z (blk_frozen BK235.out); have hfz18_4 := blk_frozen BK235.out 4; have hfz18_5 := blk_frozen BK235.out 5))
    go_loopg [7] kj2 (fun kq v7 w' => ∃ (x7_2 : Int) (x239000_2 : Int) (x239001_2 : Int) (x239002_2 : Int) (x239003_2 : Int) (x239004_2 : Int) (x239005_2 : Int) (x239006_2 : Int) (x239007_2 : Int) (x239008_2 : Int) (x239009_2 : Int) (x239010_2 : Int) (x239011_2 : Int) (x239012_2 : Int) (x239013_2 : Int) (x239014_2 : Int) (x239015_2 : Int) (x239016_2 : Int) (x239017_2 : Int) (x239018_2 : Int) (x239019_2 : Int) (x239020_2 : Int), v7 = .int .i64 x7_2 ∧ Aside0 (impl_PolicyWorth.l0 kq l1 x7_2 a0_0 l0_1 a0_2 a0_3 a0_4 a0_5 x239000_2 x239001_2 x239002_2 x239003_2 x239004_2 x239005_2 x239006_2 x239007_2 x239008_2 x239009_2 x239010_2 x239011_2 x239012_2 x239013_2 x239014_2 x239015_2 x239016_2 x239017_2 x239018_2 x239019_2 x239020_2 = some (r1, r2)) ∧ Aside0 (kq ≤ kj2) ∧ Aside0 (w'.heap[gb235]? = some (.cells #[.int .i64 a0_0, (.slice A0_1 l0_1.length c0_1), .int .i64 a0_2, .int .i64 a0_3, .int .i64 a0_4, .int .i64 a0_5] 30 (0, 0))) ∧ Aside0 (w'.heap[gb238]? = some (.cells #[.int .i64 x239000_2, .int .i64 x239001_2, .int .i64 x239002_2, .int .i64 x239003_2, .int .i64 x239004_2, .int .i64 x239005_2, .int .i64 x239006_2, .int .i64 x239007_2, .int .i64 x239008_2, .int .i64 x239009_2, .int .i64 x239010_2, .int .i64 x239011_2, .int .i64 x239012_2, .int .i64 x239013_2, .int .i64 x239014_2, .int .i64 x239015_2, .int .i64 x239016_2, .int .i64 x239017_2, .int .i64 x239018_2, .int .i64 x239019_2, .int .i64 x239020_2] 94 (0, 0))) ∧ Aside0 (Below w.heap.size w w'))
    case atStart => exact ⟨(wrap64 (a0_0 - 1)), (0), (0), (0), (0), (0), (0), (0), (0), (0), (0), (0), (0), (0), (0), (0), (0), (0), (0), (0), (0), (0), z12_12, H', ⟨Nat.le_refl _⟩, ⟨z12_1⟩, ⟨by (with_reducible repeat (first | refine blk_drewN ?_ _ | refine blk_drew ?_ | refine blk_alloc ?_ _)); refine blk_put (cs := #[.int .i64 0, .int .i64 0, .int .i64 0, .int .i64 0, .int .i64 0, .int .i64 0, .int .i64 0, .int .i64 0, .int .i64 0, .int .i64 0, .int .i64 0, .int .i64 0, .int .i64 0, .int .i64 0, .int .i64 0, .int .i64 0, .int .i64 0, .int .i64 0, .int .i64 0, .int .i64 0, .int .i64 0]) ?_ 20 _ rfl; (with_reducible repeat (first | refine blk_drewN ?_ _ | refine blk_drew ?_ | refine blk_alloc ?_ _)); refine blk_put (cs := #[.int .i64 0, .int .i64 0, .int .i64 0, .int .i64 0, .int .i64 0, .int .i64 0, .int .i64 0, .int .i64 0, .int .i64 0, .int .i64 0, .int .i64 0, .int .i64 0, .int .i64 0, .int .i64 0, .int .i64 0, .int .i64 0, .int .i64 0, .int .i64 0, .int .i64 0, .int .i64 0, .int .i64 0]) ?_ 19 _ rfl; (with_reducible repeat (first | refine blk_drewN ?_ _ | refine blk_drew ?_ | refine blk_alloc ?_ _)); refine blk_put (cs := #[.int .i64 0, .int .i64 0, .int .i64 0, .int .i64 0, .int .i64 0, .int .i64 0, .int .i64 0, .int .i64 0, .int .i64 0, .int .i64 0, .int .i64 0, .int .i64 0, .int .i64 0, .int .i64 0, .int .i64 0, .int .i64 0, .int .i64 0, .int .i64 0, .int .i64 0, .int .i64 0, .int .i64 0]) ?_ 18 _ rfl; (with_reducible repeat (first | refine blk_drewN ?_ _ | refine blk_drew ?_ | refine blk_alloc ?_ _)); refine blk_put (cs := #[.int .i64 0, .int .i64 0, .int .i64 0, .int .i64 0, .int .i64 0, .int .i64 0, .int .i64 0, .int .i64 0, .int .i64 0, .int .i64 0, .int .i64 0, .int .i64 0, .int .i64 0, .int .i64 0, .int .i64 0, .int .i64 0, .int .i64 0, .int .i64 0, .int .i64 0, .int .i64 0, .int .i64 0]) ?_ 17 _ rfl; (with_reducible repeat (first | refine blk_drewN ?_ _ | refine blk_drew ?_ | refine blk_alloc ?_ _)); refine blk_put (cs := #[.int .i64 0, .int .i64 0, .int .i64 0, .int .i64 0, .int .i64 0, .int .i64 0, .int .i64 0, .int .i64 0, .int .i64 0, .int .i64 0, .int .i64 0, .int .i64 0, .int .i64 0, .int .i64 0, .int .i64 0, .int .i64 0, .int .i64 0, .int .i64 0, .int .i64 0, .int .i64 0, .int .i64 0]) ?_ 16 _ rfl; (with_reducible repeat (first | refine blk_drewN ?_ _ | refine blk_drew ?_ | refine blk_alloc ?_ _)); refine blk_put (cs := #[.int .i64 0, .int .i64 0, .int .i64 0, .int .i64 0, .int .i64 0, .int .i64 0, .int .i64 0, .int .i64 0, .int .i64 0, .int .i64 0, .int .i64 0, .int .i64 0, .int .i64 0, .int .i64 0, .int .i64 0, .int .i64 0, .int .i64 0, .int .i64 0, .int .i64 0, .int .i64 0, .int .i64 0]) ?_ 15 _ rfl; (with_reducible repeat (first | refine blk_drewN ?_ _ | refine blk_drew ?_ | refine blk_alloc ?_ _)); refine blk_put (cs := #[.int .i64 0, .int .i64 0, .int .i64 0, .int .i64 0, .int .i64 0, .int .i64 0, .int .i64 0, .int .i64 0, .int .i64 0, .int .i64 0, .int .i64 0, .int .i64 0, .int .i64 0, .int .i64 0, .int .i64 0, .int .i64 0, .int .i64 0, .int .i64 0, .int .i64 0, .int .i64 0, .int .i64 0]) ?_ 14 _ rfl; (with_reducible repeat (first | refine blk_drewN ?_ _ | refine blk_drew ?_ | refine blk_alloc ?_ _)); refine blk_put (cs := #[.int .i64 0, .int .i64 0, .int .i64 0, .int .i64 0, .int .i64 0, .int .i64 0, .int .i64 0, .int .i64 0, .int .i64 0, .int .i64 0, .int .i64 0, .int .i64 0, .int .i64 0, .int .i64 0, .int .i64 0, .int .i64 0, .int .i64 0, .int .i64 0, .int .i64 0, .int .i64 0, .int .i64 0]) ?_ 13 _ rfl; (with_reducible repeat (first | refine blk_drewN ?_ _ | refine blk_drew ?_ | refine blk_alloc ?_ _)); refine blk_put (cs := #[.int .i64 0, .int .i64 0, .int .i64 0, .int .i64 0, .int .i64 0, .int .i64 0, .int .i64 0, .int .i64 0, .int .i64 0, .int .i64 0, .int .i64 0, .int .i64 0, .int .i64 0, .int .i64 0, .int .i64 0, .int .i64 0, .int .i64 0, .int .i64 0, .int .i64 0, .int .i64 0, .int .i64 0]) ?_ 12 _ rfl; (with_reducible repeat (first | refine blk_drewN ?_ _ | refine blk_drew ?_ | refine blk_alloc ?_ _)); refine blk_put (cs := #[.int .i64 0, .int .i64 0, .int .i64 0, .int .i64 0, .int .i64 0, .int .i64 0, .int .i64 0, .int .i64 0, .int .i64 0, .int .i64 0, .int .i64 0, .int .i64 0, .int .i64 0, .int .i64 0, .int .i64 0, .int .i64 0, .int .i64 0, .int .i64 0, .int .i64 0, .int .i64 0, .int .i64 0]) ?_ 11 _ rfl; (with_reducible repeat (first | refine blk_drewN ?_ _ | refine blk_drew ?_ | refine blk_alloc ?_ _)); refine blk_put (cs := #[.int .i64 0, .int .i64 0, .int .i64 0, .int .i64 0, .int .i64 0, .int .i64 0, .int .i64 0, .int .i64 0, .int .i64 0, .int .i64 0, .int .i64 0, .int .i64 0, .int .i64 0, .int .i64 0, .int .i64 0, .int .i64 0, .int .i64 0, .int .i64 0, .int .i64 0, .int .i64 0, .int .i64 0]) ?_ 10 _ rfl; (with_reducible repeat (first | refine blk_drewN ?_ _ | refine blk_drew ?_ | refine blk_alloc ?_ _)); refine blk_put (cs := #[.int .i64 0, .int .i64 0, .int .i64 0, .int .i64 0, .int .i64 0, .int .i64 0, .int .i64 0, .int .i64 0, .int .i64 0, .int .i64 0, .int .i64 0, .int .i64 0, .int .i64 0, .int .i64 0, .int .i64 0, .int .i64 0, .int .i64 0, .int .i64 0, .int .i64 0, .int .i64 0, .int .i64 0]) ?_ 9 _ rfl; (with_reducible repeat (first | refine blk_drewN ?_ _ | refine blk_drew ?_ | refine blk_alloc ?_ _)); refine blk_put (cs := #[.int .i64 0, .int .i64 0, .int .i64 0, .int .i64 0, .int .i64 0, .int .i64 0, .int .i64 0, .int .i64 0, .int .i64 0, .int .i64 0, .int .i64 0, .int .i64 0, .int .i64 0, .int .i64 0, .int .i64 0, .int .i64 0, .int .i64 0, .int .i64 0, .int .i64 0, .int .i64 0, .int .i64 0]) ?_ 8 _ rfl; (with_reducible repeat (first | refine blk_drewN ?_ _ | refine blk_drew ?_ | refine blk_alloc ?_ _)); refine blk_put (cs := #[.int .i64 0, .int .i64 0, .int .i64 0, .int .i64 0, .int .i64 0, .int .i64 0, .int .i64 0, .int .i64 0, .int .i64 0, .int .i64 0, .int .i64 0, .int .i64 0, .int .i64 0, .int .i64 0, .int .i64 0, .int .i64 0, .int .i64 0, .int .i64 0, .int .i64 0, .int .i64 0, .int .i64 0]) ?_ 7 _ rfl; (with_reducible repeat (first | refine blk_drewN ?_ _ | refine blk_drew ?_ | refine blk_alloc ?_ _)); refine blk_put (cs := #[.int .i64 0, .int .i64 0, .int .i64 0, .int .i64 0, .int .i64 0, .int .i64 0, .int .i64 0, .int .i64 0, .int .i64 0, .int .i64 0, .int .i64 0, .int .i64 0, .int .i64 0, .int .i64 0, .int .i64 0, .int .i64 0, .int .i64 0, .int .i64 0, .int .i64 0, .int .i64 0, .int .i64 0]) ?_ 6 _ rfl; (with_reducible repeat (first | refine blk_drewN ?_ _ | refine blk_drew ?_ | refine blk_alloc ?_ _)); refine blk_put (cs := #[.int .i64 0, .int .i64 0, .int .i64 0, .int .i64 0, .int .i64 0, .int .i64 0, .int .i64 0, .int .i64 0, .int .i64 0, .int .i64 0, .int .i64 0, .int .i64 0, .int .i64 0, .int .i64 0, .int .i64 0, .int .i64 0, .int .i64 0, .int .i64 0, .int .i64 0, .int .i64 0, .int .i64 0]) ?_ 5 _ rfl; (with_reducible repeat (first | refine blk_drewN ?_ _ | refine blk_drew ?_ | refine blk_alloc ?_ _)); refine blk_put (cs := #[.int .i64 0, .int .i64 0, .int .i64 0, .int .i64 0, .int .i64 0, .int .i64 0, .int .i64 0, .int .i64 0, .int .i64 0, .int .i64 0, .int .i64 0, .int .i64 0, .int .i64 0, .int .i64 0, .int .i64 0, .int .i64 0, .int .i64 0, .int .i64 0, .int .i64 0, .int .i64 0, .int .i64 0]) ?_ 4 _ rfl; (with_reducible repeat (first | refine blk_drewN ?_ _ | refine blk_drew ?_ | refine blk_alloc ?_ _)); refine blk_put (cs := #[.int .i64 0, .int .i64 0, .int .i64 0, .int .i64 0, .int .i64 0, .int .i64 0, .int .i64 0, .int .i64 0, .int .i64 0, .int .i64 0, .int .i64 0, .int .i64 0, .int .i64 0, .int .i64 0, .int .i64 0, .int .i64 0, .int .i64 0, .int .i64 0, .int .i64 0, .int .i64 0, .int .i64 0]) ?_ 3 _ rfl; (with_reducible repeat (first | refine blk_drewN ?_ _ | refine blk_drew ?_ | refine blk_alloc ?_ _)); refine blk_put (cs := #[.int .i64 0, .int .i64 0, .int .i64 0, .int .i64 0, .int .i64 0, .int .i64 0, .int .i64 0, .int .i64 0, .int .i64 0, .int .i64 0, .int .i64 0, .int .i64 0, .int .i64 0, .int .i64 0, .int .i64 0, .int .i64 0, .int .i64 0, .int .i64 0, .int .i64 0, .int .i64 0, .int .i64 0]) ?_ 2 _ rfl; (with_reducible repeat (first | refine blk_drewN ?_ _ | refine blk_drew ?_ | refine blk_alloc ?_ _)); refine blk_put (cs := #[.int .i64 0, .int .i64 0, .int .i64 0, .int .i64 0, .int .i64 0, .int .i64 0, .int .i64 0, .int .i64 0, .int .i64 0, .int .i64 0, .int .i64 0, .int .i64 0, .int .i64 0, .int .i64 0, .int .i64 0, .int .i64 0, .int .i64 0, .int .i64 0, .int .i64 0, .int .i64 0, .int .i64 0]) ?_ 1 _ rfl; (with_reducible repeat (first | refine blk_drewN ?_ _ | refine blk_drew ?_ | refine blk_alloc ?_ _)); refine blk_put (cs := #[.int .i64 0, .int .i64 0, .int .i64 0, .int .i64 0, .int .i64 0, .int .i64 0, .int .i64 0, .int .i64 0, .int .i64 0, .int .i64 0, .int .i64 0, .int .i64 0, .int .i64 0, .int .i64 0, .int .i64 0, .int .i64 0, .int .i64 0, .int .i64 0, .int .i64 0, .int .i64 0, .int .i64 0]) ?_ 0 _ rfl; (with_reducible repeat (first | refine blk_drewN ?_ _ | refine blk_drew ?_ | refine blk_alloc ?_ _)); exact BK238.out⟩, ⟨z12_5⟩⟩
    case round =>
     clear H'
     (try clear p6); (try clear c14); (try clear c16); (try clear hcz17_0); (try clear hcz17_1); (try clear hcz17_10); (try clear hcz17_11); (try clear hcz17_12); (try clear hcz17_13); (try clear hcz17_14); (try clear hcz17_15); (try clear hcz17_16); (try clear hcz17_17); (try clear hcz17_18); (try clear hcz17_19); (try clear hcz17_2); (try clear hcz17_20); (try clear hcz17_3); (try clear hcz17_4); (try clear hcz17_5); (try clear hcz17_6); (try clear hcz17_7); (try clear hcz17_8); (try clear hcz17_9); (try clear hcz18_0); (try clear hcz18_1); (try clear hcz18_2); (try clear hcz18_3); (try clear hcz18_4); (try clear hcz18_5); (try clear hfz17_0); (try clear hfz17_1); (try clear hfz17_10); (try clear hfz17_11); (try clear hfz17_12); (try clear hfz17_13); (try clear hfz17_14); (try clear hfz17_15); (try clear hfz17_16); (try clear hfz17_17); (try clear hfz17_18); (try clear hfz17_19); (try clear hfz17_2); (try clear hfz17_20); (try clear hfz17_3); (try clear hfz17_4); (try clear hfz17_5); (try clear hfz17_6); (try clear hfz17_7); (try clear hfz17_8); (try clear hfz17_9); (try clear hfz18_0); (try clear hfz18_1); (try clear hfz18_2); (try clear hfz18_3); (try clear hfz18_4); (try clear hfz18_5)
     obtain ⟨x7_2, x239000_2, x239001_2, x239002_2, x239003_2, x239004_2, x239005_2, x239006_2, x239007_2, x239008_2, x239009_2, x239010_2, x239011_2, x239012_2, x239013_2, x239014_2, x239015_2, x239016_2, x239017_2, x239018_2, x239019_2, x239020_2, rfl, HA, HK2, BK235, BK238, HB⟩ := hrel
     cases gk with
     | zero => exact absurd HA.out (by simp [impl_PolicyWorth.l0])
     | succ k2 =>
      have H := HA.out
      clear HA
      simp only [impl_PolicyWorth.l0] at H
      by_cases c19 : x7_2 ≥ 0
      ·rw [if_pos c19] at H
       have c19b0 : decide (0 ≤ x7_2) = true := decide_eq_true c19
       clear c19
       have H' := z12_A H
       clear H
       try go_wp2
       have n0_ := z12_A (blk_drew BK235.out)
       have n1_ := z12_A (blk_drew BK238.out)
       have n2_ := z12_A (below_drew1 HB.out)
       clear BK235
       clear BK238
       clear HB
       have BK235 := n0_
       have BK238 := n1_
       have HB := n2_
       clear n0_ n1_ n2_
       refine start_ (n := 8) (S := fun w' => w'.cell? ⟨gb235, 0, none⟩ = some (.int .i64 a0_0) ∧ w'.cell? ⟨gb235, 1, none⟩ = some (.slice A0_1 l0_1.length c0_1) ∧ w'.cell? ⟨gb235, 2, none⟩ = some (.int .i64 a0_2) ∧ w'.cell? ⟨gb235, 3, none⟩ = some (.int .i64 a0_3) ∧ w'.cell? ⟨gb235, 4, none⟩ = some (.int .i64 a0_4) ∧ w'.cell? ⟨gb235, 5, none⟩ = some (.int .i64 a0_5)) (ds := []) #[false, false, false, false, false, false, false, false] z12_9 rfl rfl ⟨bcz BK235.out 0 rfl, bcz BK235.out 1 rfl, bcz BK235.out 2 rfl, bcz BK235.out 3 rfl, bcz BK235.out 4 rfl, bcz BK235.out 5 rfl⟩ (fun hHeld => ?_); refine with_tabW impl_PolicyWorth.tab7 impl_PolicyWorth.bits7 (fun HT_ HW_ => ?_)
       generalize wr.drew = w20 at BK235 BK238 HB hHeld ⊢
       refine pure_ (i := 0) (N := some 29) (v := ?_) (a' := ?_) #[true, false, false, false, false, false, false, false] rfl rfl (any_of HT_.out z12_9) (fun _ _ _ h => h) (Or.inl ⟨z12_17, ?_⟩) ?_ ?_
       rotate_left
       ·intro w'
        go_simp
        with_reducible rfl
       rotate_left
       ·simp only [Act.put, List.setIfInBounds_toArray, List.set_cons_zero, List.set_cons_succ, i64_w, i32_w]
        rfl
       refine pure_ (i := 1) (N := some 30) (v := ?_) (a' := ?_) #[true, true, false, false, false, false, false, false] rfl rfl (any_of HT_.out z12_9) (fun _ _ _ h => h) (Or.inl ⟨z12_17, ?_⟩) ?_ ?_
       rotate_left
       ·intro w'
        go_simp
        with_reducible rfl
       rotate_left
       ·simp only [Act.put, List.setIfInBounds_toArray, List.set_cons_zero, List.set_cons_succ, i64_w, i32_w]
        rfl
       refine pure_ (i := 3) (N := some 32) (v := ?_) (a' := ?_) #[true, true, false, true, false, false, false, false] rfl rfl (any_of HT_.out z12_9) (fun _ _ _ h => h) (Or.inl ⟨z12_17, ?_⟩) ?_ ?_
       rotate_left
       ·intro w'
        go_simp
        with_reducible rfl
       rotate_left
       ·simp only [Act.put, List.setIfInBounds_toArray, List.set_cons_zero, List.set_cons_succ, i64_w, i32_w]
        rfl
       refine take_ (i := 2) (N := some 31) (v := ?_) (a' := ?_) #[true, true, true, true, false, false, false, false] rfl rfl (take_ofW HT_.out HW_.out z12_9) (fun _ _ _ h => h) (Or.inl ⟨z12_17, ?_⟩) hHeld ?_ ?_
       rotate_left
       ·rintro w' ⟨s0, s1, s2, s3, s4, s5⟩
        go_simp
        with_reducible rfl
       rotate_left
       ·simp only [Act.put, List.setIfInBounds_toArray, List.set_cons_zero, List.set_cons_succ, i64_w, i32_w]
        rfl
       refine pure_ (i := 4) (N := some 33) (v := ?_) (a' := ?_) #[true, true, true, true, true, false, false, false] rfl rfl (any_of HT_.out z12_9) (fun _ _ _ h => h) (Or.inl ⟨z12_17, ?_⟩) ?_ ?_
       rotate_left
       ·intro w'
        go_simp
        with_reducible rfl
       rotate_left
       ·simp only [Act.put, List.setIfInBounds_toArray, List.set_cons_zero, List.set_cons_succ, i64_w, i32_w]
        rfl
       refine one_ (i := 5) (N := some 8) #[true, true, true, true, true, true, false, false] rfl rfl (one_of HT_.out z12_9) (by decide) (fun K hK => ?_)
       refine box_step ?hg (N := 8) ?hd (cs := #[.int .i64 0, .int .i64 0, .int .i64 0, .int .i64 0, .int .i64 0, .int .i64 0, .int .i64 0, .int .i64 0, .int .i64 0, .int .i64 0, .int .i64 0, .int .i64 0, .int .i64 0, .int .i64 0, .int .i64 0, .int .i64 0, .int .i64 0, .int .i64 0, .int .i64 0, .int .i64 0, .int .i64 0]) (t := 94) ?hr ?_; (case hd => rfl); (case hg => rfl); (case hr => first | (go_simp; done) | (go_simp; rfl))
       intro gb246 hg w21 hbox hb
       have n0_ := z12_A (blk_below (g := gb235) (o := .cells #[.int .i64 a0_0, .slice A0_1 l0_1.length c0_1, .int .i64 a0_2, .int .i64 a0_3, .int .i64 a0_4, .int .i64 a0_5] 30 (0, 0)) z12_2 hb)
       have n1_ := z12_A (blk_below (g := gb238) (o := .cells #[.int .i64 x239000_2, .int .i64 x239001_2, .int .i64 x239002_2, .int .i64 x239003_2, .int .i64 x239004_2, .int .i64 x239005_2, .int .i64 x239006_2, .int .i64 x239007_2, .int .i64 x239008_2, .int .i64 x239009_2, .int .i64 x239010_2, .int .i64 x239011_2, .int .i64 x239012_2, .int .i64 x239013_2, .int .i64 x239014_2, .int .i64 x239015_2, .int .i64 x239016_2, .int .i64 x239017_2, .int .i64 x239018_2, .int .i64 x239019_2, .int .i64 x239020_2] 94 (0, 0)) z12_6 hb)
       have n2_ := z12_A (below_step z12_5 hb)
       have n3_ := z12_A (hbox)
       have n4_ := z12_A ((by rw [hg]; exact (below_size z12_5) : w.heap.size ≤ gb246))
       have n5_ := z12_A ((by rw [hg]; exact (below_size z12_5) : w.heap.size ≤ gb246))
       have n6_ := z12_A ((z12_14 : gb235 ≠ gb246))
       have n7_ := z12_A ((z12_15 : gb246 ≠ gb235))
       have n8_ := z12_A ((by rw [hg]; exact Nat.ne_of_lt (blk_lt (g := gb238) (o := .cells #[.int .i64 x239000_2, .int .i64 x239001_2, .int .i64 x239002_2, .int .i64 x239003_2, .int .i64 x239004_2, .int .i64 x239005_2, .int .i64 x239006_2, .int .i64 x239007_2, .int .i64 x239008_2, .int .i64 x239009_2, .int .i64 x239010_2, .int .i64 x239011_2, .int .i64 x239012_2, .int .i64 x239013_2, .int .i64 x239014_2, .int .i64 x239015_2, .int .i64 x239016_2, .int .i64 x239017_2, .int .i64 x239018_2, .int .i64 x239019_2, .int .i64 x239020_2] 94 (0, 0)) z12_6) : gb238 ≠ gb246))
       have n9_ := z12_A ((by rw [hg]; exact Nat.ne_of_gt (blk_lt (g := gb238) (o := .cells #[.int .i64 x239000_2, .int .i64 x239001_2, .int .i64 x239002_2, .int .i64 x239003_2, .int .i64 x239004_2, .int .i64 x239005_2, .int .i64 x239006_2, .int .i64 x239007_2, .int .i64 x239008_2, .int .i64 x239009_2, .int .i64 x239010_2, .int .i64 x239011_2, .int .i64 x239012_2, .int .i64 x239013_2, .int .i64 x239014_2, .int .i64 x239015_2, .int .i64 x239016_2, .int .i64 x239017_2, .int .i64 x239018_2, .int .i64 x239019_2, .int .i64 x239020_2] 94 (0, 0)) z12_6) : gb246 ≠ gb238))
       clear BK235
       clear BK238
       clear HB
       have BK235 := n0_
       have BK238 := n1_
       have HB := n2_
       have BK246 := n3_
       have GW246 := n4_
       have GE246 := n5_
       have NB235_246 := n6_
       have NB246_235 := n7_
       have NB238_246 := n8_
       have NB246_238 := n9_
       clear n0_ n1_ n2_ n3_ n4_ n5_ n6_ n7_ n8_ n9_
       clear hb hbox hg
       refine hK.out _ _ ⟨bcz BK235.out 0 rfl, bcz BK235.out 1 rfl, bcz BK235.out 2 rfl, bcz BK235.out 3 rfl, bcz BK235.out 4 rfl, bcz BK235.out 5 rfl⟩ (fun hHeld => ?_)
       clear hK K
       refine norm_ (a' := ?_) ?_ ?_
       rotate_left
       ·show Act.put _ (some 8) _ = _
        simp only [Act.put, List.setIfInBounds_toArray, List.set_cons_zero, List.set_cons_succ, i64_w, i32_w]
        rfl
       refine one_ (i := 6) (N := none) #[true, true, true, true, true, true, true, false] rfl rfl (one_of HT_.out z12_9) (by decide) (fun K hK => ?_)
       have hs22 : w21.cell? ⟨gb246, 0, none⟩ = some (.int .i64 0) := bcz BK246.out 0 rfl
       have hfs22 := blk_frozen BK246.out 0
       have hns22_0 := NB235_246.out
       have hns22_1 := NB238_246.out
       have hms22_0 := NB246_235.out
       have hms22_1 := NB246_238.out
       have hs23 : w21.cell? ⟨gb246, 1, none⟩ = some (.int .i64 0) := bcz BK246.out 1 rfl
       have hfs23 := blk_frozen BK246.out 1
       have hns23_0 := NB235_246.out
       have hns23_1 := NB238_246.out
       have hms23_0 := NB246_235.out
       have hms23_1 := NB246_238.out
       have hs24 : w21.cell? ⟨gb246, 2, none⟩ = some (.int .i64 0) := bcz BK246.out 2 rfl
       have hfs24 := blk_frozen BK246.out 2
       have hns24_0 := NB235_246.out
       have hns24_1 := NB238_246.out
       have hms24_0 := NB246_235.out
       have hms24_1 := NB246_238.out
       have hs25 : w21.cell? ⟨gb246, 3, none⟩ = some (.int .i64 0) := bcz BK246.out 3 rfl
       have hfs25 := blk_frozen BK246.out 3
       have hns25_0 := NB235_246.out
       have hns25_1 := NB238_246.out
       have hms25_0 := NB246_235.out
       have hms25_1 := NB246_238.out
       have hs26 : w21.cell? ⟨gb246, 4, none⟩ = some (.int .i64 0) := bcz BK246.out 4 rfl
       have hfs26 := blk_frozen BK246.out 4
       have hns26_0 := NB235_246.out
       have hns26_1 := NB238_246.out
       have hms26_0 := NB246_235.out
       have hms26_1 := NB246_238.out
       have hs27 : w21.cell? ⟨gb246, 5, none⟩ = some (.int .i64 0) := bcz BK246.out 5 rfl
       have hfs27 := blk_frozen BK246.out 5
       have hns27_0 := NB235_246.out
       have hns27_1 := NB238_246.out
       have hms27_0 := NB246_235.out
       have hms27_1 := NB246_238.out
       have hs28 : w21.cell? ⟨gb246, 6, none⟩ = some (.int .i64 0) := bcz BK246.out 6 rfl
       have hfs28 := blk_frozen BK246.out 6
       have hns28_0 := NB235_246.out
       have hns28_1 := NB238_246.out
       have hms28_0 := NB246_235.out
       have hms28_1 := NB246_238.out
       have hs29 : w21.cell? ⟨gb246, 7, none⟩ = some (.int .i64 0) := bcz BK246.out 7 rfl
       have hfs29 := blk_frozen BK246.out 7
       have hns29_0 := NB235_246.out
       have hns29_1 := NB238_246.out
       have hms29_0 := NB246_235.out
       have hms29_1 := NB246_238.out
       have hs30 : w21.cell? ⟨gb246, 8, none⟩ = some (.int .i64 0) := bcz BK246.out 8 rfl
       have hfs30 := blk_frozen BK246.out 8
       have hns30_0 := NB235_246.out
       have hns30_1 := NB238_246.out
       have hms30_0 := NB246_235.out
       have hms30_1 := NB246_238.out
       have hs31 : w21.cell? ⟨gb246, 9, none⟩ = some (.int .i64 0) := bcz BK246.out 9 rfl
       have hfs31 := blk_frozen BK246.out 9
       have hns31_0 := NB235_246.out
       have hns31_1 := NB238_246.out
       have hms31_0 := NB246_235.out
       have hms31_1 := NB246_238.out
       have hs32 : w21.cell? ⟨gb246, 10, none⟩ = some (.int .i64 0) := bcz BK246.out 10 rfl
       have hfs32 := blk_frozen BK246.out 10
       have hns32_0 := NB235_246.out
       have hns32_1 := NB238_246.out
       have hms32_0 := NB246_235.out
       have hms32_1 := NB246_238.out
       have hs33 : w21.cell? ⟨gb246, 11, none⟩ = some (.int .i64 0) := bcz BK246.out 11 rfl
       have hfs33 := blk_frozen BK246.out 11
       have hns33_0 := NB235_246.out
       have hns33_1 := NB238_246.out
       have hms33_0 := NB246_235.out
       have hms33_1 := NB246_238.out
       have hs34 : w21.cell? ⟨gb246, 12, none⟩ = some (.int .i64 0) := bcz BK246.out 12 rfl
       have hfs34 := blk_frozen BK246.out 12
       have hns34_0 := NB235_246.out
       have hns34_1 := NB238_246.out
       have hms34_0 := NB246_235.out
       have hms34_1 := NB246_238.out
       have hs35 : w21.cell? ⟨gb246, 13, none⟩ = some (.int .i64 0) := bcz BK246.out 13 rfl
       have hfs35 := blk_frozen BK246.out 13
       have hns35_0 := NB235_246.out
       have hns35_1 := NB238_246.out
       have hms35_0 := NB246_235.out
       have hms35_1 := NB246_238.out
       have hs36 : w21.cell? ⟨gb246, 14, none⟩ = some (.int .i64 0) := bcz BK246.out 14 rfl
       have hfs36 := blk_frozen BK246.out 14
       have hns36_0 := NB235_246.out
       have hns36_1 := NB238_246.out
       have hms36_0 := NB246_235.out
       have hms36_1 := NB246_238.out
       have hs37 : w21.cell? ⟨gb246, 15, none⟩ = some (.int .i64 0) := bcz BK246.out 15 rfl
       have hfs37 := blk_frozen BK246.out 15
       have hns37_0 := NB235_246.out
       have hns37_1 := NB238_246.out
       have hms37_0 := NB246_235.out
       have hms37_1 := NB246_238.out
       have hs38 : w21.cell? ⟨gb246, 16, none⟩ = some (.int .i64 0) := bcz BK246.out 16 rfl
       have hfs38 := blk_frozen BK246.out 16
       have hns38_0 := NB235_246.out
       have hns38_1 := NB238_246.out
       have hms38_0 := NB246_235.out
       have hms38_1 := NB246_238.out
       have hs39 : w21.cell? ⟨gb246, 17, none⟩ = some (.int .i64 0) := bcz BK246.out 17 rfl
       have hfs39 := blk_frozen BK246.out 17
       have hns39_0 := NB235_246.out
       have hns39_1 := NB238_246.out
       have hms39_0 := NB246_235.out
       have hms39_1 := NB246_238.out
       have hs40 : w21.cell? ⟨gb246, 18, none⟩ = some (.int .i64 0) := bcz BK246.out 18 rfl
       have hfs40 := blk_frozen BK246.out 18
       have hns40_0 := NB235_246.out
       have hns40_1 := NB238_246.out
       have hms40_0 := NB246_235.out
       have hms40_1 := NB246_238.out
       have hs41 : w21.cell? ⟨gb246, 19, none⟩ = some (.int .i64 0) := bcz BK246.out 19 rfl
       have hfs41 := blk_frozen BK246.out 19
       have hns41_0 := NB235_246.out
       have hns41_1 := NB238_246.out
       have hms41_0 := NB246_235.out
       have hms41_1 := NB246_238.out
       have hs42 : w21.cell? ⟨gb246, 20, none⟩ = some (.int .i64 0) := bcz BK246.out 20 rfl
       have hfs42 := blk_frozen BK246.out 20
       have hns42_0 := NB235_246.out
       have hns42_1 := NB238_246.out
       have hms42_0 := NB246_235.out
       have hms42_1 := NB246_238.out
       refine skip_ z12_17 rfl (storeE94 z12_11 z12_11 z12_11 BK246.out) ?_



       refine hK.out _ _ ⟨((cell_far (p := ⟨gb246, _, none⟩) NB235_246.out _).trans (((cell_far (p := ⟨gb246, _, none⟩) NB235_246.out _).trans (((cell_far (p := ⟨gb246, _, none⟩) NB235_246.out _).trans (((cell_far (p := ⟨gb246, _, none⟩) NB235_246.out _).trans (((cell_far (p := ⟨gb246, _, none⟩) NB235_246.out _).trans (((cell_far (p := ⟨gb246, _, none⟩) NB235_246.out _).trans (((cell_far (p := ⟨gb246, _, none⟩) NB235_246.out _).trans (((cell_far (p := ⟨gb246, _, none⟩) NB235_246.out _).trans (((cell_far (p := ⟨gb246, _, none⟩) NB235_246.out _).trans (((cell_far (p := ⟨gb246, _, none⟩) NB235_246.out _).trans (((cell_far (p := ⟨gb246, _, none⟩) NB235_246.out _).trans (((cell_far (p := ⟨gb246, _, none⟩) NB235_246.out _).trans (((cell_far (p := ⟨gb246, _, none⟩) NB235_246.out _).trans (((cell_far (p := ⟨gb246, _, none⟩) NB235_246.out _).trans (((cell_far (p := ⟨gb246, _, none⟩) NB235_246.out _).trans (((cell_far (p := ⟨gb246, _, none⟩) NB235_246.out _).trans (((cell_far (p := ⟨gb246, _, none⟩) NB235_246.out _).trans (((cell_far (p := ⟨gb246, _, none⟩) NB235_246.out _).trans (((cell_far (p := ⟨gb246, _, none⟩) NB235_246.out _).trans (((cell_far (p := ⟨gb246, _, none⟩) NB235_246.out _).trans (((cell_far (p := ⟨gb246, _, none⟩) NB235_246.out _).trans (hHeld.1)))))))))))))))))))))))))))))))))))))))))), ((cell_far (p := ⟨gb246, _, none⟩) NB235_246.out _).trans (((cell_far (p := ⟨gb246, _, none⟩) NB235_246.out _).trans (((cell_far (p := ⟨gb246, _, none⟩) NB235_246.out _).trans (((cell_far (p := ⟨gb246, _, none⟩) NB235_246.out _).trans (((cell_far (p := ⟨gb246, _, none⟩) NB235_246.out _).trans (((cell_far (p := ⟨gb246, _, none⟩) NB235_246.out _).trans (((cell_far (p := ⟨gb246, _, none⟩) NB235_246.out _).trans (((cell_far (p := ⟨gb246, _, none⟩) NB235_246.out _).trans (((cell_far (p := ⟨gb246, _, none⟩) NB235_246.out _).trans (((cell_far (p := ⟨gb246, _, none⟩) NB235_246.out _).trans (((cell_far (p := ⟨gb246, _, none⟩) NB235_246.out _).trans (((cell_far (p := ⟨gb246, _, none⟩) NB235_246.out _).trans (((cell_far (p := ⟨gb246, _, none⟩) NB235_246.out _).trans (((cell_far (p := ⟨gb246, _, none⟩) NB235_246.out _).trans (((cell_far (p := ⟨gb246, _, none⟩) NB235_246.out _).trans (((cell_far (p := ⟨gb246, _, none⟩) NB235_246.out _).trans (((cell_far (p := ⟨gb246, _, none⟩) NB235_246.out _).trans (((cell_far (p := ⟨gb246, _, none⟩) NB235_246.out _).trans (((cell_far (p := ⟨gb246, _, none⟩) NB235_246.out _).trans (((cell_far (p := ⟨gb246, _, none⟩) NB235_246.out _).trans (((cell_far (p := ⟨gb246, _, none⟩) NB235_246.out _).trans (hHeld.2.1)))))))))))))))))))))))))))))))))))))))))), ((cell_far (p := ⟨gb246, _, none⟩) NB235_246.out _).trans (((cell_far (p := ⟨gb246, _, none⟩) NB235_246.out _).trans (((cell_far (p := ⟨gb246, _, none⟩) NB235_246.out _).trans (((cell_far (p := ⟨gb246, _, none⟩) NB235_246.out _).trans (((cell_far (p := ⟨gb246, _, none⟩) NB235_246.out _).trans (((cell_far (p := ⟨gb246, _, none⟩) NB235_246.out _).trans (((cell_far (p := ⟨gb246, _, none⟩) NB235_246.out _).trans (((cell_far (p := ⟨gb246, _, none⟩) NB235_246.out _).trans (((cell_far (p := ⟨gb246, _, none⟩) NB235_246.out _).trans (((cell_far (p := ⟨gb246, _, none⟩) NB235_246.out _).trans (((cell_far (p := ⟨gb246, _, none⟩) NB235_246.out _).trans (((cell_far (p := ⟨gb246, _, none⟩) NB235_246.out _).trans (((cell_far (p := ⟨gb246, _, none⟩) NB235_246.out _).trans (((cell_far (p := ⟨gb246, _, none⟩) NB235_246.out _).trans (((cell_far (p := ⟨gb246, _, none⟩) NB235_246.out _).trans (((cell_far (p := ⟨gb246, _, none⟩) NB235_246.out _).trans (((cell_far (p := ⟨gb246, _, none⟩) NB235_246.out _).trans (((cell_far (p := ⟨gb246, _, none⟩) NB235_246.out _).trans (((cell_far (p := ⟨gb246, _, none⟩) NB235_246.out _).trans (((cell_far (p := ⟨gb246, _, none⟩) NB235_246.out _).trans (((cell_far (p := ⟨gb246, _, none⟩) NB235_246.out _).trans (hHeld.2.2.1)))))))))))))))))))))))))))))))))))))))))), ((cell_far (p := ⟨gb246, _, none⟩) NB235_246.out _).trans (((cell_far (p := ⟨gb246, _, none⟩) NB235_246.out _).trans (((cell_far (p := ⟨gb246, _, none⟩) NB235_246.out _).trans (((cell_far (p := ⟨gb246, _, none⟩) NB235_246.out _).trans (((cell_far (p := ⟨gb246, _, none⟩) NB235_246.out _).trans (((cell_far (p := ⟨gb246, _, none⟩) NB235_246.out _).trans (((cell_far (p := ⟨gb246, _, none⟩) NB235_246.out _).trans (((cell_far (p := ⟨gb246, _, none⟩) NB235_246.out _).trans (((cell_far (p := ⟨gb246, _, none⟩) NB235_246.out _).trans (((cell_far (p := ⟨gb246, _, none⟩) NB235_246.out _).trans (((cell_far (p := ⟨gb246, _, none⟩) NB235_246.out _).trans (((cell_far (p := ⟨gb246, _, none⟩) NB235_246.out _).trans (((cell_far (p := ⟨gb246, _, none⟩) NB235_246.out _).trans (((cell_far (p := ⟨gb246, _, none⟩) NB235_246.out _).trans (((cell_far (p := ⟨gb246, _, none⟩) NB235_246.out _).trans (((cell_far (p := ⟨gb246, _, none⟩) NB235_246.out _).trans (((cell_far (p := ⟨gb246, _, none⟩) NB235_246.out _).trans (((cell_far (p := ⟨gb246, _, none⟩) NB235_246.out _).trans (((cell_far (p := ⟨gb246, _, none⟩) NB235_246.out _).trans (((cell_far (p := ⟨gb246, _, none⟩) NB235_246.out _).trans (((cell_far (p := ⟨gb246, _, none⟩) NB235_246.out _).trans (hHeld.2.2.2.1)))))))))))))))))))))))))))))))))))))))))), ((cell_far (p := ⟨gb246, _, none⟩) NB235_246.out _).trans (((cell_far (p := ⟨gb246, _, none⟩) NB235_246.out _).trans (((cell_far (p := ⟨gb246, _, none⟩) NB235_246.out _).trans (((cell_far (p := ⟨gb246, _, none⟩) NB235_246.out _).trans (((cell_far (p := ⟨gb246, _, none⟩) NB235_246.out _).trans (((cell_far (p := ⟨gb246, _, none⟩) NB235_246.out _).trans (((cell_far (p := ⟨gb246, _, none⟩) NB235_246.out _).trans (((cell_far (p := ⟨gb246, _, none⟩) NB235_246.out _).trans (((cell_far (p := ⟨gb246, _, none⟩) NB235_246.out _).trans (((cell_far (p := ⟨gb246, _, none⟩) NB235_246.out _).trans (((cell_far (p := ⟨gb246, _, none⟩) NB235_246.out _).trans (((cell_far (p := ⟨gb246, _, none⟩) NB235_246.out _).trans (((cell_far (p := ⟨gb246, _, none⟩) NB235_246.out _).trans (((cell_far (p := ⟨gb246, _, none⟩) NB235_246.out _).trans (((cell_far (p := ⟨gb246, _, none⟩) NB235_246.out _).trans (((cell_far (p := ⟨gb246, _, none⟩) NB235_246.out _).trans (((cell_far (p := ⟨gb246, _, none⟩) NB235_246.out _).trans (((cell_far (p := ⟨gb246, _, none⟩) NB235_246.out _).trans (((cell_far (p := ⟨gb246, _, none⟩) NB235_246.out _).trans (((cell_far (p := ⟨gb246, _, none⟩) NB235_246.out _).trans (((cell_far (p := ⟨gb246, _, none⟩) NB235_246.out _).trans (hHeld.2.2.2.2.1)))))))))))))))))))))))))))))))))))))))))), ((cell_far (p := ⟨gb246, _, none⟩) NB235_246.out _).trans (((cell_far (p := ⟨gb246, _, none⟩) NB235_246.out _).trans (((cell_far (p := ⟨gb246, _, none⟩) NB235_246.out _).trans (((cell_far (p := ⟨gb246, _, none⟩) NB235_246.out _).trans (((cell_far (p := ⟨gb246, _, none⟩) NB235_246.out _).trans (((cell_far (p := ⟨gb246, _, none⟩) NB235_246.out _).trans (((cell_far (p := ⟨gb246, _, none⟩) NB235_246.out _).trans (((cell_far (p := ⟨gb246, _, none⟩) NB235_246.out _).trans (((cell_far (p := ⟨gb246, _, none⟩) NB235_246.out _).trans (((cell_far (p := ⟨gb246, _, none⟩) NB235_246.out _).trans (((cell_far (p := ⟨gb246, _, none⟩) NB235_246.out _).trans (((cell_far (p := ⟨gb246, _, none⟩) NB235_246.out _).trans (((cell_far (p := ⟨gb246, _, none⟩) NB235_246.out _).trans (((cell_far (p := ⟨gb246, _, none⟩) NB235_246.out _).trans (((cell_far (p := ⟨gb246, _, none⟩) NB235_246.out _).trans (((cell_far (p := ⟨gb246, _, none⟩) NB235_246.out _).trans (((cell_far (p := ⟨gb246, _, none⟩) NB235_246.out _).trans (((cell_far (p := ⟨gb246, _, none⟩) NB235_246.out _).trans (((cell_far (p := ⟨gb246, _, none⟩) NB235_246.out _).trans (((cell_far (p := ⟨gb246, _, none⟩) NB235_246.out _).trans (((cell_far (p := ⟨gb246, _, none⟩) NB235_246.out _).trans (hHeld.2.2.2.2.2))))))))))))))))))))))))))))))))))))))))))⟩ (fun hHeld => ?_)
       clear hK K
       refine pure_ (i := 7) (N := some 9) (v := ?_) (a' := ?_) #[true, true, true, true, true, true, true, true] rfl rfl (any_of HT_.out z12_9) (fun _ _ _ h => h) (Or.inl ⟨z12_17, ?_⟩) ?_ ?_
       rotate_left
       ·intro w'
        go_simp
        with_reducible rfl
       rotate_left
       ·simp only [Act.put, List.setIfInBounds_toArray, List.set_cons_zero, List.set_cons_succ, i64_w, i32_w]
        rfl
       refine done_ (done_of HT_.out z12_9) ?_
       try go_wp2
       go_loopg [10] k2 (fun kq v10 w' => ∃ (x10_3 : Int) (x247000_3 : Int) (x247001_3 : Int) (x247002_3 : Int) (x247003_3 : Int) (x247004_3 : Int) (x247005_3 : Int) (x247006_3 : Int) (x247007_3 : Int) (x247008_3 : Int) (x247009_3 : Int) (x247010_3 : Int) (x247011_3 : Int) (x247012_3 : Int) (x247013_3 : Int) (x247014_3 : Int) (x247015_3 : Int) (x247016_3 : Int) (x247017_3 : Int) (x247018_3 : Int) (x247019_3 : Int) (x247020_3 : Int), v10 = .int .i64 x10_3 ∧ Aside0 (impl_PolicyWorth.l1 kq l1 x7_2 (wrap64 (a0_0 - x7_2)) x10_3 a0_0 l0_1 a0_2 a0_3 a0_4 a0_5 x239000_2 x239001_2 x239002_2 x239003_2 x239004_2 x239005_2 x239006_2 x239007_2 x239008_2 x239009_2 x239010_2 x239011_2 x239012_2 x239013_2 x239014_2 x239015_2 x239016_2 x239017_2 x239018_2 x239019_2 x239020_2 x247000_3 x247001_3 x247002_3 x247003_3 x247004_3 x247005_3 x247006_3 x247007_3 x247008_3 x247009_3 x247010_3 x247011_3 x247012_3 x247013_3 x247014_3 x247015_3 x247016_3 x247017_3 x247018_3 x247019_3 x247020_3 = some (r1, r2)) ∧ Aside0 (kq ≤ k2) ∧ Aside0 (w'.heap[gb235]? = some (.cells #[.int .i64 a0_0, (.slice A0_1 l0_1.length c0_1), .int .i64 a0_2, .int .i64 a0_3, .int .i64 a0_4, .int .i64 a0_5] 30 (0, 0))) ∧ Aside0 (w'.heap[gb238]? = some (.cells #[.int .i64 x239000_2, .int .i64 x239001_2, .int .i64 x239002_2, .int .i64 x239003_2, .int .i64 x239004_2, .int .i64 x239005_2, .int .i64 x239006_2, .int .i64 x239007_2, .int .i64 x239008_2, .int .i64 x239009_2, .int .i64 x239010_2, .int .i64 x239011_2, .int .i64 x239012_2, .int .i64 x239013_2, .int .i64 x239014_2, .int .i64 x239015_2, .int .i64 x239016_2, .int .i64 x239017_2, .int .i64 x239018_2, .int .i64 x239019_2, .int .i64 x239020_2] 94 (0, 0))) ∧ Aside0 (w'.heap[gb246]? = some (.cells #[.int .i64 x247000_3, .int .i64 x247001_3, .int .i64 x247002_3, .int .i64 x247003_3, .int .i64 x247004_3, .int .i64 x247005_3, .int .i64 x247006_3, .int .i64 x247007_3, .int .i64 x247008_3, .int .i64 x247009_3, .int .i64 x247010_3, .int .i64 x247011_3, .int .i64 x247012_3, .int .i64 x247013_3, .int .i64 x247014_3, .int .i64 x247015_3, .int .i64 x247016_3, .int .i64 x247017_3, .int .i64 x247018_3, .int .i64 x247019_3, .int .i64 x247020_3] 94 (0, 0))) ∧ Aside0 (Below w.heap.size w w'))
       case atStart => exact ⟨((-10)), (0), (0), (0), (0), (0), (0), (0), (0), (0), (0), (0), (0), (0), (0), (0), (0), (0), (0), (0), (0), (0), z12_12, H', ⟨Nat.le_refl _⟩, ⟨by (with_reducible repeat (first | refine blk_drewN ?_ _ | refine blk_drew ?_ | refine blk_alloc ?_ _)); refine blk_far ?_ NB235_246.out _; (with_reducible repeat (first | refine blk_drewN ?_ _ | refine blk_drew ?_ | refine blk_alloc ?_ _)); refine blk_far ?_ NB235_246.out _; (with_reducible repeat (first | refine blk_drewN ?_ _ | refine blk_drew ?_ | refine blk_alloc ?_ _)); refine blk_far ?_ NB235_246.out _; (with_reducible repeat (first | refine blk_drewN ?_ _ | refine blk_drew ?_ | refine blk_alloc ?_ _)); refine blk_far ?_ NB235_246.out _; (with_reducible repeat (first | refine blk_drewN ?_ _ | refine blk_drew ?_ | refine blk_alloc ?_ _)); refine blk_far ?_ NB235_246.out _; (with_reducible repeat (first | refine blk_drewN ?_ _ | refine blk_drew ?_ | refine blk_alloc ?_ _)); refine blk_far ?_ NB235_246.out _; (with_reducible repeat (first | refine blk_drewN ?_ _ | refine blk_drew ?_ | refine blk_alloc ?_ _)); refine blk_far ?_ NB235_246.out _; (with_reducible repeat (first | refine blk_drewN ?_ _ | refine blk_drew ?_ | refine blk_alloc ?_ _)); refine blk_far ?_ NB235_246.out _; (with_reducible repeat (first | refine blk_drewN ?_ _ | refine blk_drew ?_ | refine blk_alloc ?_ _)); refine blk_far ?_ NB235_246.out _; (with_reducible repeat (first | refine blk_drewN ?_ _ | refine blk_drew ?_ | refine blk_alloc ?_ _)); refine blk_far ?_ NB235_246.out _; (with_reducible repeat (first | refine blk_drewN ?_ _ | refine blk_drew ?_ | refine blk_alloc ?_ _)); refine blk_far ?_ NB235_246.out _; (with_reducible repeat (first | refine blk_drewN ?_ _ | refine blk_drew ?_ | refine blk_alloc ?_ _)); refine blk_far ?_ NB235_246.out _; (with_reducible repeat (first | refine blk_drewN ?_ _ | refine blk_drew ?_ | refine blk_alloc ?_ _)); refine blk_far ?_ NB235_246.out _; (with_reducible repeat (first | refine blk_drewN ?_ _ | refine blk_drew ?_ | refine blk_alloc ?_ _)); refine blk_far ?_ NB235_246.out _; (with_reducible repeat (first | refine blk_drewN ?_ _ | refine blk_drew ?_ | refine blk_alloc ?_ _)); refine blk_far ?_ NB235_246.out _; (with_reducible repeat (first | refine blk_drewN ?_ _ | refine blk_drew ?_ | refine blk_alloc ?_ _)); refine blk_far ?_ NB235_246.out _; (with_reducible repeat (first | refine blk_drewN ?_ _ | refine blk_drew ?_ | refine blk_alloc ?_ _)); refine blk_far ?_ NB235_246.out _; (with_reducible repeat (first | refine blk_drewN ?_ _ | refine blk_drew ?_ | refine blk_alloc ?_ _)); refine blk_far ?_ NB235_246.out _; (with_reducible repeat (first | refine blk_drewN ?_ _ | refine blk_drew ?_ | refine blk_alloc ?_ _)); refine blk_far ?_ NB235_246.out _; (with_reducible repeat (first | refine blk_drewN ?_ _ | refine blk_drew ?_ | refine blk_alloc ?_ _)); refine blk_far ?_ NB235_246.out _; (with_reducible repeat (first | refine blk_drewN ?_ _ | refine blk_drew ?_ | refine blk_alloc ?_ _)); refine blk_far ?_ NB235_246.out _; (with_reducible repeat (first | refine blk_drewN ?_ _ | refine blk_drew ?_ | refine blk_alloc ?_ _)); exact BK235.out⟩, ⟨by (with_reducible repeat (first | refine blk_drewN ?_ _ | refine blk_drew ?_ | refine blk_alloc ?_ _)); refine blk_far ?_ NB238_246.out _; (with_reducible repeat (first | refine blk_drewN ?_ _ | refine blk_drew ?_ | refine blk_alloc ?_ _)); refine blk_far ?_ NB238_246.out _; (with_reducible repeat (first | refine blk_drewN ?_ _ | refine blk_drew ?_ | refine blk_alloc ?_ _)); refine blk_far ?_ NB238_246.out _; (with_reducible repeat (first | refine blk_drewN ?_ _ | refine blk_drew ?_ | refine blk_alloc ?_ _)); refine blk_far ?_ NB238_246.out _; (with_reducible repeat (first | refine blk_drewN ?_ _ | refine blk_drew ?_ | refine blk_alloc ?_ _)); refine blk_far ?_ NB238_246.out _; (with_reducible repeat (first | refine blk_drewN ?_ _ | refine blk_drew ?_ | refine blk_alloc ?_ _)); refine blk_far ?_ NB238_246.out _; (with_reducible repeat (first | refine blk_drewN ?_ _ | refine blk_drew ?_ | refine blk_alloc ?_ _)); refine blk_far ?_ NB238_246.out _; (with_reducible repeat (first | refine blk_drewN ?_ _ | refine blk_drew ?_ | refine blk_alloc ?_ _)); refine blk_far ?_ NB238_246.out _; (with_reducible repeat (first | refine blk_drewN ?_ _ | refine blk_drew ?_ | refine blk_alloc ?_ _)); refine blk_far ?_ NB238_246.out _; (with_reducible repeat (first | refine blk_drewN ?_ _ | refine blk_drew ?_ | refine blk_alloc ?_ _)); refine blk_far ?_ NB238_246.out _; (with_reducible repeat (first | refine blk_drewN ?_ _ | refine blk_drew ?_ | refine blk_alloc ?_ _)); refine blk_far ?_ NB238_246.out _; (with_reducible repeat (first | refine blk_drewN ?_ _ | refine blk_drew ?_ | refine blk_alloc ?_ _)); refine blk_far ?_ NB238_246.out _; (with_reducible repeat (first | refine blk_drewN ?_ _ | refine blk_drew ?_ | refine blk_alloc ?_ _)); refine blk_far ?_ NB238_246.out _; (with_reducible repeat (first | refine blk_drewN ?_ _ | refine blk_drew ?_ | refine blk_alloc ?_ _)); refine blk_far ?_ NB238_246.out _; (with_reducible repeat (first | refine blk_drewN ?_ _ | refine blk_drew ?_ | refine blk_alloc ?_ _)); refine blk_far ?_ NB238_246.out _; (with_reducible repeat (first | refine blk_drewN ?_ _ | refine blk_drew ?_ | refine blk_alloc ?_ _)); refine blk_far ?_ NB238_246.out _; (with_reducible repeat (first | refine blk_drewN ?_ _ | refine blk_drew ?_ | refine blk_alloc ?_ _)); refine blk_far ?_ NB238_246.out _; (with_reducible repeat (first | refine blk_drewN ?_ _ | refine blk_drew ?_ | refine blk_alloc ?_ _)); refine blk_far ?_ NB238_246.out _; (with_reducible repeat (first | refine blk_drewN ?_ _ | refine blk_drew ?_ | refine blk_alloc ?_ _)); refine blk_far ?_ NB238_246.out _; (with_reducible repeat (first | refine blk_drewN ?_ _ | refine blk_drew ?_ | refine blk_alloc ?_ _)); refine blk_far ?_ NB238_246.out _; (with_reducible repeat (first | refine blk_drewN ?_ _ | refine blk_drew ?_ | refine blk_alloc ?_ _)); refine blk_far ?_ NB238_246.out _; (with_reducible repeat (first | refine blk_drewN ?_ _ | refine blk_drew ?_ | refine blk_alloc ?_ _)); exact BK238.out⟩, ⟨by (with_reducible repeat (first | refine blk_drewN ?_ _ | refine blk_drew ?_ | refine blk_alloc ?_ _)); refine blk_put (cs := #[.int .i64 0, .int .i64 0, .int .i64 0, .int .i64 0, .int .i64 0, .int .i64 0, .int .i64 0, .int .i64 0, .int .i64 0, .int .i64 0, .int .i64 0, .int .i64 0, .int .i64 0, .int .i64 0, .int .i64 0, .int .i64 0, .int .i64 0, .int .i64 0, .int .i64 0, .int .i64 0, .int .i64 0]) ?_ 20 _ rfl; (with_reducible repeat (first | refine blk_drewN ?_ _ | refine blk_drew ?_ | refine blk_alloc ?_ _)); refine blk_put (cs := #[.int .i64 0, .int .i64 0, .int .i64 0, .int .i64 0, .int .i64 0, .int .i64 0, .int .i64 0, .int .i64 0, .int .i64 0, .int .i64 0, .int .i64 0, .int .i64 0, .int .i64 0, .int .i64 0, .int .i64 0, .int .i64 0, .int .i64 0, .int .i64 0, .int .i64 0, .int .i64 0, .int .i64 0]) ?_ 19 _ rfl; (with_reducible repeat (first | refine blk_drewN ?_ _ | refine blk_drew ?_ | refine blk_alloc ?_ _)); refine blk_put (cs := #[.int .i64 0, .int .i64 0, .int .i64 0, .int .i64 0, .int .i64 0, .int .i64 0, .int .i64 0, .int .i64 0, .int .i64 0, .int .i64 0, .int .i64 0, .int .i64 0, .int .i64 0, .int .i64 0, .int .i64 0, .int .i64 0, .int .i64 0, .int .i64 0, .int .i64 0, .int .i64 0, .int .i64 0]) ?_ 18 _ rfl; (with_reducible repeat (first | refine blk_drewN ?_ _ | refine blk_drew ?_ | refine blk_alloc ?_ _)); refine blk_put (cs := #[.int .i64 0, .int .i64 0, .int .i64 0, .int .i64 0, .int .i64 0, .int .i64 0, .int .i64 0, .int .i64 0, .int .i64 0, .int .i64 0, .int .i64 0, .int .i64 0, .int .i64 0, .int .i64 0, .int .i64 0, .int .i64 0, .int .i64 0, .int .i64 0, .int .i64 0, .int .i64 0, .int .i64 0]) ?_ 17 _ rfl; (with_reducible repeat (first | refine blk_drewN ?_ _ | refine blk_drew ?_ | refine blk_alloc ?_ _)); refine blk_put (cs := #[.int .i64 0, .int .i64 0, .int .i64 0, .int .i64 0, .int .i64 0, .int .i64 0, .int .i64 0, .int .i64 0, .int .i64 0, .int .i64 0, .int .i64 0, .int .i64 0, .int .i64 0, .int .i64 0, .int .i64 0, .int .i64 0, .int .i64 0, .int .i64 0, .int .i64 0, .int .i64 0, .int .i64 0]) ?_ 16 _ rfl; (with_reducible repeat (first | refine blk_drewN ?_ _ | refine blk_drew ?_ | refine blk_alloc ?_ _)); refine blk_put (cs := #[.int .i64 0, .int .i64 0, .int .i64 0, .int .i64 0, .int .i64 0, .int .i64 0, .int .i64 0, .int .i64 0, .int .i64 0, .int .i64 0, .int .i64 0, .int .i64 0, .int .i64 0, .int .i64 0, .int .i64 0, .int .i64 0, .int .i64 0, .int .i64 0, .int .i64 0, .int .i64 0, .int .i64 0]) ?_ 15 _ rfl; (with_reducible repeat (first | refine blk_drewN ?_ _ | refine blk_drew ?_ | refine blk_alloc ?_ _)); refine blk_put (cs := #[.int .i64 0, .int .i64 0, .int .i64 0, .int .i64 0, .int .i64 0, .int .i64 0, .int .i64 0, .int .i64 0, .int .i64 0, .int .i64 0, .int .i64 0, .int .i64 0, .int .i64 0, .int .i64 0, .int .i64 0, .int .i64 0, .int .i64 0, .int .i64 0, .int .i64 0, .int .i64 0, .int .i64 0]) ?_ 14 _ rfl; (with_reducible repeat (first | refine blk_drewN ?_ _ | refine blk_drew ?_ | refine blk_alloc ?_ _)); refine blk_put (cs := #[.int .i64 0, .int .i64 0, .int .i64 0, .int .i64 0, .int .i64 0, .int .i64 0, .int .i64 0, .int .i64 0, .int .i64 0, .int .i64 0, .int .i64 0, .int .i64 0, .int .i64 0, .int .i64 0, .int .i64 0, .int .i64 0, .int .i64 0, .int .i64 0, .int .i64 0, .int .i64 0, .int .i64 0]) ?_ 13 _ rfl; (with_reducible repeat (first | refine blk_drewN ?_ _ | refine blk_drew ?_ | refine blk_alloc ?_ _)); refine blk_put (cs := #[.int .i64 0, .int .i64 0, .int .i64 0, .int .i64 0, .int .i64 0, .int .i64 0, .int .i64 0, .int .i64 0, .int .i64 0, .int .i64 0, .int .i64 0, .int .i64 0, .int .i64 0, .int .i64 0, .int .i64 0, .int .i64 0, .int .i64 0, .int .i64 0, .int .i64 0, .int .i64 0, .int .i64 0]) ?_ 12 _ rfl; (with_reducible repeat (first | refine blk_drewN ?_ _ | refine blk_drew ?_ | refine blk_alloc ?_ _)); refine blk_put (cs := #[.int .i64 0, .int .i64 0, .int .i64 0, .int .i64 0, .int .i64 0, .int .i64 0, .int .i64 0, .int .i64 0, .int .i64 0, .int .i64 0, .int .i64 0, .int .i64 0, .int .i64 0, .int .i64 0, .int .i64 0, .int .i64 0, .int .i64 0, .int .i64 0, .int .i64 0, .int .i64 0, .int .i64 0]) ?_ 11 _ rfl; (with_reducible repeat (first | refine blk_drewN ?_ _ | refine blk_drew ?_ | refine blk_alloc ?_ _)); refine blk_put (cs := #[.int .i64 0, .int .i64 0, .int .i64 0, .int .i64 0, .int .i64 0, .int .i64 0, .int .i64 0, .int .i64 0, .int .i64 0, .int .i64 0, .int .i64 0, .int .i64 0, .int .i64 0, .int .i64 0, .int .i64 0, .int .i64 0, .int .i64 0, .int .i64 0, .int .i64 0, .int .i64 0, .int .i64 0]) ?_ 10 _ rfl; (with_reducible repeat (first | refine blk_drewN ?_ _ | refine blk_drew ?_ | refine blk_alloc ?_ _)); refine blk_put (cs := #[.int .i64 0, .int .i64 0, .int .i64 0, .int .i64 0, .int .i64 0, .int .i64 0, .int .i64 0, .int .i64 0, .int .i64 0, .int .i64 0, .int .i64 0, .int .i64 0, .int .i64 0, .int .i64 0, .int .i64 0, .int .i64 0, .int .i64 0, .int .i64 0, .int .i64 0, .int .i64 0, .int .i64 0]) ?_ 9 _ rfl; (with_reducible repeat (first | refine blk_drewN ?_ _ | refine blk_drew ?_ | refine blk_alloc ?_ _)); refine blk_put (cs := #[.int .i64 0, .int .i64 0, .int .i64 0, .int .i64 0, .int .i64 0, .int .i64 0, .int .i64 0, .int .i64 0, .int .i64 0, .int .i64 0, .int .i64 0, .int .i64 0, .int .i64 0, .int .i64 0, .int .i64 0, .int .i64 0, .int .i64 0, .int .i64 0, .int .i64 0, .int .i64 0, .int .i64 0]) ?_ 8 _ rfl; (with_reducible repeat (first | refine blk_drewN ?_ _ | refine blk_drew ?_ | refine blk_alloc ?_ _)); refine blk_put (cs := #[.int .i64 0, .int .i64 0, .int .i64 0, .int .i64 0, .int .i64 0, .int .i64 0, .int .i64 0, .int .i64 0, .int .i64 0, .int .i64 0, .int .i64 0, .int .i64 0, .int .i64 0, .int .i64 0, .int .i64 0, .int .i64 0, .int .i64 0, .int .i64 0, .int .i64 0, .int .i64 0, .int .i64 0]) ?_ 7 _ rfl; (with_reducible repeat (first | refine blk_drewN ?_ _ | refine blk_drew ?_ | refine blk_alloc ?_ _)); refine blk_put (cs := #[.int .i64 0, .int .i64 0, .int .i64 0, .int .i64 0, .int .i64 0, .int .i64 0, .int .i64 0, .int .i64 0, .int .i64 0, .int .i64 0, .int .i64 0, .int .i64 0, .int .i64 0, .int .i64 0, .int .i64 0, .int .i64 0, .int .i64 0, .int .i64 0, .int .i64 0, .int .i64 0, .int .i64 0]) ?_ 6 _ rfl; (with_reducible repeat (first | refine blk_drewN ?_ _ | refine blk_drew ?_ | refine blk_alloc ?_ _)); refine blk_put (cs := #[.int .i64 0, .int .i64 0, .int .i64 0, .int .i64 0, .int .i64 0, .int .i64 0, .int .i64 0, .int .i64 0, .int .i64 0, .int .i64 0, .int .i64 0, .int .i64 0, .int .i64 0, .int .i64 0, .int .i64 0, .int .i64 0, .int .i64 0, .int .i64 0, .int .i64 0, .int .i64 0, .int .i64 0]) ?_ 5 _ rfl; (with_reducible repeat (first | refine blk_drewN ?_ _ | refine blk_drew ?_ | refine blk_alloc ?_ _)); refine blk_put (cs := #[.int .i64 0, .int .i64 0, .int .i64 0, .int .i64 0, .int .i64 0, .int .i64 0, .int .i64 0, .int .i64 0, .int .i64 0, .int .i64 0, .int .i64 0, .int .i64 0, .int .i64 0, .int .i64 0, .int .i64 0, .int .i64 0, .int .i64 0, .int .i64 0, .int .i64 0, .int .i64 0, .int .i64 0]) ?_ 4 _ rfl; (with_reducible repeat (first | refine blk_drewN ?_ _ | refine blk_drew ?_ | refine blk_alloc ?_ _)); refine blk_put (cs := #[.int .i64 0, .int .i64 0, .int .i64 0, .int .i64 0, .int .i64 0, .int .i64 0, .int .i64 0, .int .i64 0, .int .i64 0, .int .i64 0, .int .i64 0, .int .i64 0, .int .i64 0, .int .i64 0, .int .i64 0, .int .i64 0, .int .i64 0, .int .i64 0, .int .i64 0, .int .i64 0, .int .i64 0]) ?_ 3 _ rfl; (with_reducible repeat (first | refine blk_drewN ?_ _ | refine blk_drew ?_ | refine blk_alloc ?_ _)); refine blk_put (cs := #[.int .i64 0, .int .i64 0, .int .i64 0, .int .i64 0, .int .i64 0, .int .i64 0, .int .i64 0, .int .i64 0, .int .i64 0, .int .i64 0, .int .i64 0, .int .i64 0, .int .i64 0, .int .i64 0, .int .i64 0, .int .i64 0, .int .i64 0, .int .i64 0, .int .i64 0, .int .i64 0, .int .i64 0]) ?_ 2 _ rfl; (with_reducible repeat (first | refine blk_drewN ?_ _ | refine blk_drew ?_ | refine blk_alloc ?_ _)); refine blk_put (cs := #[.int .i64 0, .int .i64 0, .int .i64 0, .int .i64 0, .int .i64 0, .int .i64 0, .int .i64 0, .int .i64 0, .int .i64 0, .int .i64 0, .int .i64 0, .int .i64 0, .int .i64 0, .int .i64 0, .int .i64 0, .int .i64 0, .int .i64 0, .int .i64 0, .int .i64 0, .int .i64 0, .int .i64 0]) ?_ 1 _ rfl; (with_reducible repeat (first | refine blk_drewN ?_ _ | refine blk_drew ?_ | refine blk_alloc ?_ _)); refine blk_put (cs := #[.int .i64 0, .int .i64 0, .int .i64 0, .int .i64 0, .int .i64 0, .int .i64 0, .int .i64 0, .int .i64 0, .int .i64 0, .int .i64 0, .int .i64 0, .int .i64 0, .int .i64 0, .int .i64 0, .int .i64 0, .int .i64 0, .int .i64 0, .int .i64 0, .int .i64 0, .int .i64 0, .int .i64 0]) ?_ 0 _ rfl; (with_reducible repeat (first | refine blk_drewN ?_ _ | refine blk_drew ?_ | refine blk_alloc ?_ _)); exact BK246.out⟩, ⟨z12_3⟩⟩
       case round =>
        clear H'
        (try clear c19); (try clear c19b0)
        obtain ⟨x10_3, x247000_3, x247001_3, x247002_3, x247003_3, x247004_3, x247005_3, x247006_3, x247007_3, x247008_3, x247009_3, x247010_3, x247011_3, x247012_3, x247013_3, x247014_3, x247015_3, x247016_3, x247017_3, x247018_3, x247019_3, x247020_3, rfl, HA, HK3, BK235, BK238, BK246, HB⟩ := hrel
        cases gk with
        | zero => exact absurd HA.out (by simp [impl_PolicyWorth.l1])
        | succ k3 =>
         have H := HA.out
         clear HA
         simp only [impl_PolicyWorth.l1] at H
         by_cases c43 : x10_3 ≤ 10
         ·rw [if_pos c43] at H
          have c43b0 : decide (x10_3 ≤ 10) = true := decide_eq_true c43
          clear c43
          by_cases c44 : 0 ≤ x7_2
          ·rw [if_pos c44] at H
           have c44b0 : decide (0 ≤ x7_2) = true := decide_eq_true c44
           clear c44
           by_cases c45 : x7_2 < (l1.length : Int)
           ·rw [if_pos c45] at H
            have c45b0 : decide (x7_2 < (l1.length : Int)) = true := decide_eq_true c45
            clear c45
            replace H := Option.bind_eq_some_iff.mp H
            obtain ⟨t248, A460, H⟩ := H
            (try dsimp only at H)
            have A46 := z12_A A460
            clear A460
            replace H := Option.bind_eq_some_iff.mp H
            obtain ⟨t249, A470, H⟩ := H
            (try dsimp only at H)
            have A47 := z12_A A470
            clear A470
            replace H := Option.bind_eq_some_iff.mp H
            obtain ⟨t250, A480, H⟩ := H
            (try dsimp only at H)
            have A48 := z12_A A480
            clear A480
            replace H := Option.bind_eq_some_iff.mp H
            obtain ⟨t251, A490, H⟩ := H
            (try dsimp only at H)
            have A49 := z12_A A490
            clear A490
            obtain ⟨ji50, hji50⟩ : ∃ j_ : Int, (wrap64 (x10_3 + 10)) = j_ := ⟨_, rfl⟩
            replace H : (if 0 ≤ (ji50) then (if (ji50) < 21 then (impl_PolicyWorth.l1 k3 l1 x7_2 (wrap64 (a0_0 - x7_2)) (wrap64 (x10_3 + 1)) a0_0 l0_1 a0_2 a0_3 a0_4 a0_5 x239000_2 x239001_2 x239002_2 x239003_2 x239004_2 x239005_2 x239006_2 x239007_2 x239008_2 x239009_2 x239010_2 x239011_2 x239012_2 x239013_2 x239014_2 x239015_2 x239016_2 x239017_2 x239018_2 x239019_2 x239020_2 (selI ((ji50) : Int).toNat 0 (wrap64 ((wrap64 (t249 * t250)) + t251)) x247000_3) (selI ((ji50) : Int).toNat 1 (wrap64 ((wrap64 (t249 * t250)) + t251)) x247001_3) (selI ((ji50) : Int).toNat 2 (wrap64 ((wrap64 (t249 * t250)) + t251)) x247002_3) (selI ((ji50) : Int).toNat 3 (wrap64 ((wrap64 (t249 * t250)) + t251)) x247003_3) (selI ((ji50) : Int).toNat 4 (wrap64 ((wrap64 (t249 * t250)) + t251)) x247004_3) (selI ((ji50) : Int).toNat 5 (wrap64 ((wrap64 (t249 * t250)) + t251)) x247005_3) (selI ((ji50) : Int).toNat 6 (wrap64 ((wrap64 (t249 * t250)) + t251)) x247006_3) (selI ((ji50) : Int).toNat 7 (wrap64 ((wrap64 (t249 * t250)) + t251)) x247007_3) (selI ((ji50) : Int).toNat 8 (wrap64 ((wrap64 (t249 * t250)) + t251)) x247008_3) (selI ((ji50) : Int).toNat 9 (wrap64 ((wrap64 (t249 * t250)) + t251)) x247009_3) (selI ((ji50) : Int).toNat 10 (wrap64 ((wrap64 (t249 * t250)) + t251)) x247010_3) (selI ((ji50) : Int).toNat 11 (wrap64 ((wrap64 (t249 * t250)) + t251)) x247011_3) (selI ((ji50) : Int).toNat 12 (wrap64 ((wrap64 (t249 * t250)) + t251)) x247012_3) (selI ((ji50) : Int).toNat 13 (wrap64 ((wrap64 (t249 * t250)) + t251)) x247013_3) (selI ((ji50) : Int).toNat 14 (wrap64 ((wrap64 (t249 * t250)) + t251)) x247014_3) (selI ((ji50) : Int).toNat 15 (wrap64 ((wrap64 (t249 * t250)) + t251)) x247015_3) (selI ((ji50) : Int).toNat 16 (wrap64 ((wrap64 (t249 * t250)) + t251)) x247016_3) (selI ((ji50) : Int).toNat 17 (wrap64 ((wrap64 (t249 * t250)) + t251)) x247017_3) (selI ((ji50) : Int).toNat 18 (wrap64 ((wrap64 (t249 * t250)) + t251)) x247018_3) (selI ((ji50) : Int).toNat 19 (wrap64 ((wrap64 (t249 * t250)) + t251)) x247019_3) (selI ((ji50) : Int).toNat 20 (wrap64 ((wrap64 (t249 * t250)) + t251)) x247020_3)) else (none)) else (none)) = some (r1, r2) := by first | (rw [hji50] at H; exact H) | (simp only [hji50] at H ⊢; exact H)
            (try rw [hji50] at A46)
            (try rw [hji50] at A47)
            (try rw [hji50] at A48)
            (try rw [hji50] at A49)
            have hji50w : (IntKind.i64.wrap (x10_3 + 10)) = ji50 := (i64_w _).trans hji50
            by_cases c51 : 0 ≤ (ji50)
            ·rw [if_pos c51] at H
             have c51b0 : decide (0 ≤ (ji50)) = true := decide_eq_true c51
             clear c51
             by_cases c52 : (ji50) < 21
             ·rw [if_pos c52] at H
              have c52b0 : decide ((ji50) < 21) = true := decide_eq_true c52
              clear c52
              have H' := z12_A H
              clear H
              try go_wp2
              have n0_ := z12_A (blk_drew BK235.out)
              have n1_ := z12_A (blk_drew BK238.out)
              have n2_ := z12_A (blk_drew BK246.out)
              have n3_ := z12_A (below_drew1 HB.out)
              clear BK235
              clear BK238
              clear BK246
              clear HB
              have BK235 := n0_
              have BK238 := n1_
              have BK246 := n2_
              have HB := n3_
              clear n0_ n1_ n2_ n3_
              have p247 : 0 ≤ (x7_2 : Int) := of_decide_eq_true z12_16
              have q247 : x7_2 < (l1.length : Int) := of_decide_eq_true z12_16
              obtain ⟨ad247, e247, hx247_0, hx247_1⟩ := at_T72 HR1.out x7_2 p247 q247
              have hw247_1 := hx247_1
              have hw247_0 := hx247_0
              cases e247
              replace hx247_0 := (HB.out.cell (World.block_lt_of_cell? w _ hx247_0)).trans hx247_0
              replace hx247_1 := (HB.out.cell (World.block_lt_of_cell? w _ hx247_1)).trans hx247_1
              replace p247 := eq_true p247
              replace q247 := eq_true q247
              refine start_ (n := 8) (S := fun w' => w'.cell? ⟨gb235, 0, none⟩ = some (.int .i64 a0_0) ∧ w'.cell? ⟨gb235, 1, none⟩ = some (.slice A0_1 l0_1.length c0_1) ∧ w'.cell? ⟨gb235, 2, none⟩ = some (.int .i64 a0_2) ∧ w'.cell? ⟨gb235, 3, none⟩ = some (.int .i64 a0_3) ∧ w'.cell? ⟨gb235, 4, none⟩ = some (.int .i64 a0_4) ∧ w'.cell? ⟨gb235, 5, none⟩ = some (.int .i64 a0_5) ∧ w'.cell? (ad247.add ((x7_2).toNat * 2)) = some (.int .i64 ((rd_T72 l1 x7_2).f0)) ∧ w'.cell? ⟨(ad247.add ((x7_2).toNat * 2)).block, (ad247.add ((x7_2).toNat * 2)).off + 1, none⟩ = some (.int .i64 ((rd_T72 l1 x7_2).f1))) (ds := []) #[false, false, false, false, false, false, false, false] z12_9 rfl rfl ⟨bcz BK235.out 0 rfl, bcz BK235.out 1 rfl, bcz BK235.out 2 rfl, bcz BK235.out 3 rfl, bcz BK235.out 4 rfl, bcz BK235.out 5 rfl, ((HB.out.cell (World.block_lt_of_cell? w _ hw247_0)).trans hw247_0), ((HB.out.cell (World.block_lt_of_cell? w _ hw247_1)).trans hw247_1)⟩ (fun hHeld => ?_); refine with_tabW impl_PolicyWorth.tab11 impl_PolicyWorth.bits11 (fun HT_ HW_ => ?_)
              generalize wr.drew = w53 at BK235 BK238 BK246 HB hx247_0 hx247_1 hHeld ⊢
              refine pure_ (i := 1) (N := some 39) (v := ?_) (a' := ?_) #[false, true, false, false, false, false, false, false] rfl rfl (any_of HT_.out z12_9) (fun _ _ _ h => h) (Or.inl ⟨z12_17, ?_⟩) ?_ ?_
              rotate_left
              ·intro w'
               go_simp
               with_reducible rfl
              rotate_left
              ·simp only [Act.put, List.setIfInBounds_toArray, List.set_cons_zero, List.set_cons_succ, i64_w, i32_w]
               rfl
              refine pure_ (i := 2) (N := some 40) (v := ?_) (a' := ?_) #[false, true, true, false, false, false, false, false] rfl rfl (any_of HT_.out z12_9) (fun _ _ _ h => h) (Or.inl ⟨z12_17, ?_⟩) ?_ ?_
              rotate_left
              ·intro w'
               go_simp
               with_reducible rfl
              rotate_left
              ·simp only [Act.put, List.setIfInBounds_toArray, List.set_cons_zero, List.set_cons_succ, i64_w, i32_w]
               rfl
              refine pure_ (i := 3) (N := some 41) (v := ?_) (a' := ?_) #[false, true, true, true, false, false, false, false] rfl rfl (any_of HT_.out z12_9) (fun _ _ _ h => h) (Or.inl ⟨z12_17, ?_⟩) ?_ ?_
              rotate_left
              ·intro w'
               go_simp
               with_reducible rfl
              rotate_left
              ·simp only [Act.put, List.setIfInBounds_toArray, List.set_cons_zero, List.set_cons_succ, i64_w, i32_w]
               rfl
              refine pure_ (i := 5) (N := some 43) (v := ?_) (a' := ?_) #[false, true, true, true, false, true, false, false] rfl rfl (any_of HT_.out z12_9) (fun _ _ _ h => h) (Or.inl ⟨z12_17, ?_⟩) ?_ ?_
              rotate_left
              ·intro w'
               go_simp
               with_reducible rfl
              rotate_left
              ·simp only [Act.put, List.setIfInBounds_toArray, List.set_cons_zero, List.set_cons_succ, i64_w, i32_w]
               rfl
              refine take_ (i := 0) (N := some 38) (v := ?_) (a' := ?_) #[true, true, true, true, false, true, false, false] rfl rfl (take_ofW HT_.out HW_.out z12_9) (fun _ _ _ h => h) (Or.inl ⟨z12_17, ?_⟩) hHeld ?_ ?_
              rotate_left
              ·rintro w' ⟨s0, s1, s2, s3, s4, s5, s6, s7⟩
               go_simp
               with_reducible rfl
              rotate_left
              ·simp only [Act.put, List.setIfInBounds_toArray, List.set_cons_zero, List.set_cons_succ, i64_w, i32_w]
               rfl
              refine take_ (i := 4) (N := some 42) (v := ?_) (a' := ?_) #[true, true, true, true, true, true, false, false] rfl rfl (take_ofW HT_.out HW_.out z12_9) (fun _ _ _ h => h) (Or.inl ⟨z12_17, ?_⟩) hHeld ?_ ?_
              rotate_left
              ·rintro w' ⟨s0, s1, s2, s3, s4, s5, s6, s7⟩
               go_simp
               with_reducible rfl
              rotate_left
              ·simp only [Act.put, List.setIfInBounds_toArray, List.set_cons_zero, List.set_cons_succ, i64_w, i32_w]
               rfl
              refine one_ (i := 6) (N := some 44) #[true, true, true, true, true, true, true, false] rfl rfl (one_of HT_.out z12_9) (by decide) (fun K hK => ?_)
              refine goes_ Try.func91 z12_9 rfl #[.agg #[.int .i64 a0_0, .slice A0_1 l0_1.length c0_1, .int .i64 a0_2, .int .i64 a0_3, .int .i64 a0_4, .int .i64 a0_5], .agg #[.int .i64 ((rd_T72 l1 x7_2).f0), .int .i64 ((rd_T72 l1 x7_2).f1)], .int .i64 x10_3] z12_17 rfl rfl z12_7 ?_
              with_reducible refine (impl_Process_orders.calls a0_0 _ _ l0_1 a0_2 a0_3 a0_4 a0_5 ((rd_T72 l1 x7_2).f0) ((rd_T72 l1 x7_2).f1) x10_3 t248 _ ?side1 ?side2 A46.out).mono ?_
              (case side1 => have zh := (Kd.C_below HR0_1.out HB.out); exact z12_C)
              (case side2 => exact HC0_1.out)
              rintro e w54 ⟨rfl, hb⟩
              refine ⟨_, rfl, ?_⟩
              have n0_ := z12_A (blk_below (g := gb235) (o := .cells #[.int .i64 a0_0, .slice A0_1 l0_1.length c0_1, .int .i64 a0_2, .int .i64 a0_3, .int .i64 a0_4, .int .i64 a0_5] 30 (0, 0)) z12_2 hb)
              have n1_ := z12_A (blk_below (g := gb238) (o := .cells #[.int .i64 x239000_2, .int .i64 x239001_2, .int .i64 x239002_2, .int .i64 x239003_2, .int .i64 x239004_2, .int .i64 x239005_2, .int .i64 x239006_2, .int .i64 x239007_2, .int .i64 x239008_2, .int .i64 x239009_2, .int .i64 x239010_2, .int .i64 x239011_2, .int .i64 x239012_2, .int .i64 x239013_2, .int .i64 x239014_2, .int .i64 x239015_2, .int .i64 x239016_2, .int .i64 x239017_2, .int .i64 x239018_2, .int .i64 x239019_2, .int .i64 x239020_2] 94 (0, 0)) z12_6 hb)
              have n2_ := z12_A (blk_below (g := gb246) (o := .cells #[.int .i64 x247000_3, .int .i64 x247001_3, .int .i64 x247002_3, .int .i64 x247003_3, .int .i64 x247004_3, .int .i64 x247005_3, .int .i64 x247006_3, .int .i64 x247007_3, .int .i64 x247008_3, .int .i64 x247009_3, .int .i64 x247010_3, .int .i64 x247011_3, .int .i64 x247012_3, .int .i64 x247013_3, .int .i64 x247014_3, .int .i64 x247015_3, .int .i64 x247016_3, .int .i64 x247017_3, .int .i64 x247018_3, .int .i64 x247019_3, .int .i64 x247020_3] 94 (0, 0)) z12_8 hb)
              have n3_ := z12_A (below_step z12_3 hb)
              clear BK235
              clear BK238
              clear BK246
              clear HB
              have BK235 := n0_
              have BK238 := n1_
              have BK246 := n2_
              have HB := n3_
              clear n0_ n1_ n2_ n3_
              (try clear hb)
              (try clear hb2)
              (try clear hk)
              (try clear hi)
              refine hK.out _ _ ⟨bcz BK235.out 0 rfl, bcz BK235.out 1 rfl, bcz BK235.out 2 rfl, bcz BK235.out 3 rfl, bcz BK235.out 4 rfl, bcz BK235.out 5 rfl, ((HB.out.cell (World.block_lt_of_cell? w _ hw247_0)).trans hw247_0), ((HB.out.cell (World.block_lt_of_cell? w _ hw247_1)).trans hw247_1)⟩ (fun hHeld => ?_)
              clear hK K
              refine norm_ (a' := ?_) ?_ ?_
              rotate_left
              ·show Act.put _ (some 44) _ = _
               simp only [Act.put, List.setIfInBounds_toArray, List.set_cons_zero, List.set_cons_succ, i64_w, i32_w]
               rfl
              refine pure_ (i := 7) (N := some 11) (v := ?_) (a' := ?_) #[true, true, true, true, true, true, true, true] rfl rfl (any_of HT_.out z12_9) (fun _ _ _ h => h) (Or.inl ⟨z12_17, ?_⟩) ?_ ?_
              rotate_left
              ·intro w'
               go_simp
               with_reducible rfl
              rotate_left
              ·simp only [Act.put, List.setIfInBounds_toArray, List.set_cons_zero, List.set_cons_succ, i64_w, i32_w]
               rfl
              refine done_ (done_of HT_.out z12_9) ?_
              try go_wp2
              have n0_ := z12_A (blk_drew BK235.out)
              have n1_ := z12_A (blk_drew BK238.out)
              have n2_ := z12_A (blk_drew BK246.out)
              have n3_ := z12_A (below_drew1 HB.out)
              clear BK235
              clear BK238
              clear BK246
              clear HB
              have BK235 := n0_
              have BK238 := n1_
              have BK246 := n2_
              have HB := n3_
              clear n0_ n1_ n2_ n3_
              refine start_ (n := 18) (S := fun w' => w'.cell? ⟨gb235, 0, none⟩ = some (.int .i64 a0_0) ∧ w'.cell? ⟨gb235, 1, none⟩ = some (.slice A0_1 l0_1.length c0_1) ∧ w'.cell? ⟨gb235, 2, none⟩ = some (.int .i64 a0_2) ∧ w'.cell? ⟨gb235, 3, none⟩ = some (.int .i64 a0_3) ∧ w'.cell? ⟨gb235, 4, none⟩ = some (.int .i64 a0_4) ∧ w'.cell? ⟨gb235, 5, none⟩ = some (.int .i64 a0_5) ∧ w'.cell? ⟨gb238, 0, none⟩ = some (.int .i64 x239000_2) ∧ w'.cell? ⟨gb238, 1, none⟩ = some (.int .i64 x239001_2) ∧ w'.cell? ⟨gb238, 2, none⟩ = some (.int .i64 x239002_2) ∧ w'.cell? ⟨gb238, 3, none⟩ = some (.int .i64 x239003_2) ∧ w'.cell? ⟨gb238, 4, none⟩ = some (.int .i64 x239004_2) ∧ w'.cell? ⟨gb238, 5, none⟩ = some (.int .i64 x239005_2) ∧ w'.cell? ⟨gb238, 6, none⟩ = some (.int .i64 x239006_2) ∧ w'.cell? ⟨gb238, 7, none⟩ = some (.int .i64 x239007_2) ∧ w'.cell? ⟨gb238, 8, none⟩ = some (.int .i64 x239008_2) ∧ w'.cell? ⟨gb238, 9, none⟩ = some (.int .i64 x239009_2) ∧ w'.cell? ⟨gb238, 10, none⟩ = some (.int .i64 x239010_2) ∧ w'.cell? ⟨gb238, 11, none⟩ = some (.int .i64 x239011_2) ∧ w'.cell? ⟨gb238, 12, none⟩ = some (.int .i64 x239012_2) ∧ w'.cell? ⟨gb238, 13, none⟩ = some (.int .i64 x239013_2) ∧ w'.cell? ⟨gb238, 14, none⟩ = some (.int .i64 x239014_2) ∧ w'.cell? ⟨gb238, 15, none⟩ = some (.int .i64 x239015_2) ∧ w'.cell? ⟨gb238, 16, none⟩ = some (.int .i64 x239016_2) ∧ w'.cell? ⟨gb238, 17, none⟩ = some (.int .i64 x239017_2) ∧ w'.cell? ⟨gb238, 18, none⟩ = some (.int .i64 x239018_2) ∧ w'.cell? ⟨gb238, 19, none⟩ = some (.int .i64 x239019_2) ∧ w'.cell? ⟨gb238, 20, none⟩ = some (.int .i64 x239020_2)) (ds := []) #[false, false, false, false, false, false, false, false, false, false, false, false, false, false, false, false, false, false] z12_9 rfl rfl ⟨bcz BK235.out 0 rfl, bcz BK235.out 1 rfl, bcz BK235.out 2 rfl, bcz BK235.out 3 rfl, bcz BK235.out 4 rfl, bcz BK235.out 5 rfl, bcz BK238.out 0 rfl, bcz BK238.out 1 rfl, bcz BK238.out 2 rfl, bcz BK238.out 3 rfl, bcz BK238.out 4 rfl, bcz BK238.out 5 rfl, bcz BK238.out 6 rfl, bcz BK238.out 7 rfl, bcz BK238.out 8 rfl, bcz BK238.out 9 rfl, bcz BK238.out 10 rfl, bcz BK238.out 11 rfl, bcz BK238.out 12 rfl, bcz BK238.out 13 rfl, bcz BK238.out 14 rfl, bcz BK238.out 15 rfl, bcz BK238.out 16 rfl, bcz BK238.out 17 rfl, bcz BK238.out 18 rfl, bcz BK238.out 19 rfl, bcz BK238.out 20 rfl⟩ (fun hHeld => ?_); refine with_tabW impl_PolicyWorth.tab12 impl_PolicyWorth.bits12 (fun HT_ HW_ => ?_)
              generalize w54.drew = w55 at BK235 BK238 BK246 HB hHeld ⊢
              refine pure_ (i := 0) (N := some 45) (v := ?_) (a' := ?_) #[true, false, false, false, false, false, false, false, false, false, false, false, false, false, false, false, false, false] rfl rfl (any_of HT_.out z12_9) (fun _ _ _ h => h) (Or.inl ⟨z12_17, ?_⟩) ?_ ?_
              rotate_left
              ·intro w'
               go_simp
               with_reducible rfl
              rotate_left
              ·simp only [Act.put, List.setIfInBounds_toArray, List.set_cons_zero, List.set_cons_succ, i64_w, i32_w]
               rfl
              refine pure_ (i := 1) (N := some 46) (v := ?_) (a' := ?_) #[true, true, false, false, false, false, false, false, false, false, false, false, false, false, false, false, false, false] rfl rfl (any_of HT_.out z12_9) (fun _ _ _ h => h) (Or.inl ⟨z12_17, ?_⟩) ?_ ?_
              rotate_left
              ·intro w'
               go_simp
               with_reducible rfl
              rotate_left
              ·simp only [Act.put, List.setIfInBounds_toArray, List.set_cons_zero, List.set_cons_succ, i64_w, i32_w]
               rfl
              refine pure_ (i := 3) (N := some 48) (v := ?_) (a' := ?_) #[true, true, false, true, false, false, false, false, false, false, false, false, false, false, false, false, false, false] rfl rfl (any_of HT_.out z12_9) (fun _ _ _ h => h) (Or.inl ⟨z12_17, ?_⟩) ?_ ?_
              rotate_left
              ·intro w'
               go_simp
               with_reducible rfl
              rotate_left
              ·simp only [Act.put, List.setIfInBounds_toArray, List.set_cons_zero, List.set_cons_succ, i64_w, i32_w]
               rfl
              refine pure_ (i := 4) (N := some 49) (v := ?_) (a' := ?_) #[true, true, false, true, true, false, false, false, false, false, false, false, false, false, false, false, false, false] rfl rfl (any_of HT_.out z12_9) (fun _ _ _ h => h) (Or.inl ⟨z12_17, ?_⟩) ?_ ?_
              rotate_left
              ·intro w'
               go_simp
               with_reducible rfl
              rotate_left
              ·simp only [Act.put, List.setIfInBounds_toArray, List.set_cons_zero, List.set_cons_succ, i64_w, i32_w]
               rfl
              refine pure_ (i := 7) (N := some 52) (v := ?_) (a' := ?_) #[true, true, false, true, true, false, false, true, false, false, false, false, false, false, false, false, false, false] rfl rfl (any_of HT_.out z12_9) (fun _ _ _ h => h) (Or.inl ⟨z12_17, ?_⟩) ?_ ?_
              rotate_left
              ·intro w'
               go_simp
               with_reducible rfl
              rotate_left
              ·simp only [Act.put, List.setIfInBounds_toArray, List.set_cons_zero, List.set_cons_succ, i64_w, i32_w]
               rfl
              refine pure_ (i := 11) (N := some 56) (v := ?_) (a' := ?_) #[true, true, false, true, true, false, false, true, false, false, false, true, false, false, false, false, false, false] rfl rfl (any_of HT_.out z12_9) (fun _ _ _ h => h) (Or.inl ⟨z12_17, ?_⟩) ?_ ?_
              rotate_left
              ·intro w'
               go_simp
               with_reducible rfl
              rotate_left
              ·simp only [Act.put, List.setIfInBounds_toArray, List.set_cons_zero, List.set_cons_succ, i64_w, i32_w]
               rfl
              refine pure_ (i := 12) (N := some 57) (v := ?_) (a' := ?_) #[true, true, false, true, true, false, false, true, false, false, false, true, true, false, false, false, false, false] rfl rfl (any_of HT_.out z12_9) (fun _ _ _ h => h) (Or.inl ⟨z12_17, ?_⟩) ?_ ?_
              rotate_left
              ·intro w'
               go_simp
               with_reducible rfl
              rotate_left
              ·simp only [Act.put, List.setIfInBounds_toArray, List.set_cons_zero, List.set_cons_succ, i64_w, i32_w]
               rfl
              refine take_ (i := 2) (N := some 47) (v := ?_) (a' := ?_) #[true, true, true, true, true, false, false, true, false, false, false, true, true, false, false, false, false, false] rfl rfl (take_ofW HT_.out HW_.out z12_9) (fun _ _ _ h => h) (Or.inl ⟨z12_17, ?_⟩) hHeld ?_ ?_
              rotate_left
              ·rintro w' ⟨s0, s1, s2, s3, s4, s5, s6, s7, s8, s9, s10, s11, s12, s13, s14, s15, s16, s17, s18, s19, s20, s21, s22, s23, s24, s25, s26⟩
               first | (refine (loadB94 z12_11 z12_11 s6 s7 s8 s9 s10 s11 s12 s13 s14 s15 s16 s17 s18 s19 s20 s21 s22 s23 s24 s25 s26).trans ?_; with_reducible rfl) | (go_simp; with_reducible rfl)
              rotate_left
              ·simp only [Act.put, List.setIfInBounds_toArray, List.set_cons_zero, List.set_cons_succ, i64_w, i32_w]
               rfl
              refine take_ (i := 6) (N := some 51) (v := ?_) (a' := ?_) #[true, true, true, true, true, false, true, true, false, false, false, true, true, false, false, false, false, false] rfl rfl (take_ofW HT_.out HW_.out z12_9) (fun _ _ _ h => h) (Or.inl ⟨z12_17, ?_⟩) hHeld ?_ ?_
              rotate_left
              ·rintro w' ⟨s0, s1, s2, s3, s4, s5, s6, s7, s8, s9, s10, s11, s12, s13, s14, s15, s16, s17, s18, s19, s20, s21, s22, s23, s24, s25, s26⟩
               first | (refine (loadB94 z12_11 z12_11 s6 s7 s8 s9 s10 s11 s12 s13 s14 s15 s16 s17 s18 s19 s20 s21 s22 s23 s24 s25 s26).trans ?_; with_reducible rfl) | (go_simp; with_reducible rfl)
              rotate_left
              ·simp only [Act.put, List.setIfInBounds_toArray, List.set_cons_zero, List.set_cons_succ, i64_w, i32_w]
               rfl
              refine take_ (i := 10) (N := some 55) (v := ?_) (a' := ?_) #[true, true, true, true, true, false, true, true, false, false, true, true, true, false, false, false, false, false] rfl rfl (take_ofW HT_.out HW_.out z12_9) (fun _ _ _ h => h) (Or.inl ⟨z12_17, ?_⟩) hHeld ?_ ?_
              rotate_left
              ·rintro w' ⟨s0, s1, s2, s3, s4, s5, s6, s7, s8, s9, s10, s11, s12, s13, s14, s15, s16, s17, s18, s19, s20, s21, s22, s23, s24, s25, s26⟩
               first | (refine (loadB94 z12_11 z12_11 s6 s7 s8 s9 s10 s11 s12 s13 s14 s15 s16 s17 s18 s19 s20 s21 s22 s23 s24 s25 s26).trans ?_; with_reducible rfl) | (go_simp; with_reducible rfl)
              rotate_left
              ·simp only [Act.put, List.setIfInBounds_toArray, List.set_cons_zero, List.set_cons_succ, i64_w, i32_w]
               rfl
              refine take_ (i := 13) (N := some 58) (v := ?_) (a' := ?_) #[true, true, true, true, true, false, true, true, false, false, true, true, true, true, false, false, false, false] rfl rfl (take_ofW HT_.out HW_.out z12_9) (fun _ _ _ h => h) (Or.inl ⟨z12_17, ?_⟩) hHeld ?_ ?_
              rotate_left
              ·rintro w' ⟨s0, s1, s2, s3, s4, s5, s6, s7, s8, s9, s10, s11, s12, s13, s14, s15, s16, s17, s18, s19, s20, s21, s22, s23, s24, s25, s26⟩
               first | (refine (loadB94 z12_11 z12_11 s6 s7 s8 s9 s10 s11 s12 s13 s14 s15 s16 s17 s18 s19 s20 s21 s22 s23 s24 s25 s26).trans ?_; with_reducible rfl) | (go_simp; with_reducible rfl)
              rotate_left
              ·simp only [Act.put, List.setIfInBounds_toArray, List.set_cons_zero, List.set_cons_succ, i64_w, i32_w]
               rfl
              refine one_ (i := 5) (N := some 50) #[true, true, true, true, true, true, true, true, false, false, true, true, true, true, false, false, false, false] rfl rfl (one_of HT_.out z12_9) (by decide) (fun K hK => ?_)
              refine goes_ Try.func92 z12_9 rfl #[.agg #[.int .i64 a0_0, .slice A0_1 l0_1.length c0_1, .int .i64 a0_2, .int .i64 a0_3, .int .i64 a0_4, .int .i64 a0_5], .int .i64 x10_3, .int .i64 t248] z12_17 rfl rfl z12_7 ?_
              with_reducible refine (impl_Process_order.calls a0_0 _ _ l0_1 a0_2 a0_3 a0_4 a0_5 x10_3 t248 t249 _ ?side1 ?side2 A47.out).mono ?_
              (case side1 => have zh := (Kd.C_below HR0_1.out HB.out); exact z12_C)
              (case side2 => exact HC0_1.out)
              rintro e w56 ⟨rfl, hb⟩
              refine ⟨_, rfl, ?_⟩
              have n0_ := z12_A (blk_below (g := gb235) (o := .cells #[.int .i64 a0_0, .slice A0_1 l0_1.length c0_1, .int .i64 a0_2, .int .i64 a0_3, .int .i64 a0_4, .int .i64 a0_5] 30 (0, 0)) z12_2 hb)
              have n1_ := z12_A (blk_below (g := gb238) (o := .cells #[.int .i64 x239000_2, .int .i64 x239001_2, .int .i64 x239002_2, .int .i64 x239003_2, .int .i64 x239004_2, .int .i64 x239005_2, .int .i64 x239006_2, .int .i64 x239007_2, .int .i64 x239008_2, .int .i64 x239009_2, .int .i64 x239010_2, .int .i64 x239011_2, .int .i64 x239012_2, .int .i64 x239013_2, .int .i64 x239014_2, .int .i64 x239015_2, .int .i64 x239016_2, .int .i64 x239017_2, .int .i64 x239018_2, .int .i64 x239019_2, .int .i64 x239020_2] 94 (0, 0)) z12_6 hb)
              have n2_ := z12_A (blk_below (g := gb246) (o := .cells #[.int .i64 x247000_3, .int .i64 x247001_3, .int .i64 x247002_3, .int .i64 x247003_3, .int .i64 x247004_3, .int .i64 x247005_3, .int .i64 x247006_3, .int .i64 x247007_3, .int .i64 x247008_3, .int .i64 x247009_3, .int .i64 x247010_3, .int .i64 x247011_3, .int .i64 x247012_3, .int .i64 x247013_3, .int .i64 x247014_3, .int .i64 x247015_3, .int .i64 x247016_3, .int .i64 x247017_3, .int .i64 x247018_3, .int .i64 x247019_3, .int .i64 x247020_3] 94 (0, 0)) z12_8 hb)
              have n3_ := z12_A (below_step z12_3 hb)
              clear BK235
              clear BK238
              clear BK246
              clear HB
              have BK235 := n0_
              have BK238 := n1_
              have BK246 := n2_
              have HB := n3_
              clear n0_ n1_ n2_ n3_
              (try clear hb)
              (try clear hb2)
              (try clear hk)
              (try clear hi)
              refine hK.out _ _ ⟨bcz BK235.out 0 rfl, bcz BK235.out 1 rfl, bcz BK235.out 2 rfl, bcz BK235.out 3 rfl, bcz BK235.out 4 rfl, bcz BK235.out 5 rfl, bcz BK238.out 0 rfl, bcz BK238.out 1 rfl, bcz BK238.out 2 rfl, bcz BK238.out 3 rfl, bcz BK238.out 4 rfl, bcz BK238.out 5 rfl, bcz BK238.out 6 rfl, bcz BK238.out 7 rfl, bcz BK238.out 8 rfl, bcz BK238.out 9 rfl, bcz BK238.out 10 rfl, bcz BK238.out 11 rfl, bcz BK238.out 12 rfl, bcz BK238.out 13 rfl, bcz BK238.out 14 rfl, bcz BK238.out 15 rfl, bcz BK238.out 16 rfl, bcz BK238.out 17 rfl, bcz BK238.out 18 rfl, bcz BK238.out 19 rfl, bcz BK238.out 20 rfl⟩ (fun hHeld => ?_)
              clear hK K
              refine norm_ (a' := ?_) ?_ ?_
              rotate_left
              ·show Act.put _ (some 50) _ = _
               simp only [Act.put, List.setIfInBounds_toArray, List.set_cons_zero, List.set_cons_succ, i64_w, i32_w]
               rfl
              refine one_ (i := 8) (N := some 53) #[true, true, true, true, true, true, true, true, true, false, true, true, true, true, false, false, false, false] rfl rfl (one_of HT_.out z12_9) (by decide) (fun K hK => ?_)
              refine goes_ Try.func93 z12_9 rfl #[.agg #[.int .i64 a0_0, .slice A0_1 l0_1.length c0_1, .int .i64 a0_2, .int .i64 a0_3, .int .i64 a0_4, .int .i64 a0_5], .int .i64 (wrap64 (a0_0 - x7_2))] z12_17 rfl rfl z12_7 ?_
              with_reducible refine (impl_Process_whole.calls k3 a0_0 _ _ l0_1 a0_2 a0_3 a0_4 a0_5 (wrap64 (a0_0 - x7_2)) t250 _ ?side1 ?side2 A48.out).mono ?_
              (case side1 => have zh := (Kd.C_below HR0_1.out HB.out); exact z12_C)
              (case side2 => exact HC0_1.out)
              rintro e w57 ⟨rfl, hb⟩
              refine ⟨_, rfl, ?_⟩
              have n0_ := z12_A (blk_below (g := gb235) (o := .cells #[.int .i64 a0_0, .slice A0_1 l0_1.length c0_1, .int .i64 a0_2, .int .i64 a0_3, .int .i64 a0_4, .int .i64 a0_5] 30 (0, 0)) z12_2 hb)
              have n1_ := z12_A (blk_below (g := gb238) (o := .cells #[.int .i64 x239000_2, .int .i64 x239001_2, .int .i64 x239002_2, .int .i64 x239003_2, .int .i64 x239004_2, .int .i64 x239005_2, .int .i64 x239006_2, .int .i64 x239007_2, .int .i64 x239008_2, .int .i64 x239009_2, .int .i64 x239010_2, .int .i64 x239011_2, .int .i64 x239012_2, .int .i64 x239013_2, .int .i64 x239014_2, .int .i64 x239015_2, .int .i64 x239016_2, .int .i64 x239017_2, .int .i64 x239018_2, .int .i64 x239019_2, .int .i64 x239020_2] 94 (0, 0)) z12_6 hb)
              have n2_ := z12_A (blk_below (g := gb246) (o := .cells #[.int .i64 x247000_3, .int .i64 x247001_3, .int .i64 x247002_3, .int .i64 x247003_3, .int .i64 x247004_3, .int .i64 x247005_3, .int .i64 x247006_3, .int .i64 x247007_3, .int .i64 x247008_3, .int .i64 x247009_3, .int .i64 x247010_3, .int .i64 x247011_3, .int .i64 x247012_3, .int .i64 x247013_3, .int .i64 x247014_3, .int .i64 x247015_3, .int .i64 x247016_3, .int .i64 x247017_3, .int .i64 x247018_3, .int .i64 x247019_3, .int .i64 x247020_3] 94 (0, 0)) z12_8 hb)
              have n3_ := z12_A (below_step z12_3 hb)
              clear BK235
              clear BK238
              clear BK246
              clear HB
              have BK235 := n0_
              have BK238 := n1_
              have BK246 := n2_
              have HB := n3_
              clear n0_ n1_ n2_ n3_
              (try clear hb)
              (try clear hb2)
              (try clear hk)
              (try clear hi)
              refine hK.out _ _ ⟨bcz BK235.out 0 rfl, bcz BK235.out 1 rfl, bcz BK235.out 2 rfl, bcz BK235.out 3 rfl, bcz BK235.out 4 rfl, bcz BK235.out 5 rfl, bcz BK238.out 0 rfl, bcz BK238.out 1 rfl, bcz BK238.out 2 rfl, bcz BK238.out 3 rfl, bcz BK238.out 4 rfl, bcz BK238.out 5 rfl, bcz BK238.out 6 rfl, bcz BK238.out 7 rfl, bcz BK238.out 8 rfl, bcz BK238.out 9 rfl, bcz BK238.out 10 rfl, bcz BK238.out 11 rfl, bcz BK238.out 12 rfl, bcz BK238.out 13 rfl, bcz BK238.out 14 rfl, bcz BK238.out 15 rfl, bcz BK238.out 16 rfl, bcz BK238.out 17 rfl, bcz BK238.out 18 rfl, bcz BK238.out 19 rfl, bcz BK238.out 20 rfl⟩ (fun hHeld => ?_)
              clear hK K
              refine norm_ (a' := ?_) ?_ ?_
              rotate_left
              ·show Act.put _ (some 53) _ = _
               simp only [Act.put, List.setIfInBounds_toArray, List.set_cons_zero, List.set_cons_succ, i64_w, i32_w]
               rfl
              refine pure_ (i := 9) (N := some 54) (v := ?_) (a' := ?_) #[true, true, true, true, true, true, true, true, true, true, true, true, true, true, false, false, false, false] rfl rfl (any_of HT_.out z12_9) (fun _ _ _ h => h) (Or.inl ⟨z12_17, ?_⟩) ?_ ?_
              rotate_left
              ·intro w'
               go_simp
               with_reducible rfl
              rotate_left
              ·simp only [Act.put, List.setIfInBounds_toArray, List.set_cons_zero, List.set_cons_succ, i64_w, i32_w]
               rfl
              refine one_ (i := 14) (N := some 59) #[true, true, true, true, true, true, true, true, true, true, true, true, true, true, true, false, false, false] rfl rfl (one_of HT_.out z12_9) (by decide) (fun K hK => ?_)
              refine goes_ Try.func94 z12_9 rfl #[.agg #[.int .i64 a0_0, .slice A0_1 l0_1.length c0_1, .int .i64 a0_2, .int .i64 a0_3, .int .i64 a0_4, .int .i64 a0_5], .int .i64 (wrap64 (a0_0 - x7_2)), .int .i64 t248, .agg #[.int .i64 x239000_2, .int .i64 x239001_2, .int .i64 x239002_2, .int .i64 x239003_2, .int .i64 x239004_2, .int .i64 x239005_2, .int .i64 x239006_2, .int .i64 x239007_2, .int .i64 x239008_2, .int .i64 x239009_2, .int .i64 x239010_2, .int .i64 x239011_2, .int .i64 x239012_2, .int .i64 x239013_2, .int .i64 x239014_2, .int .i64 x239015_2, .int .i64 x239016_2, .int .i64 x239017_2, .int .i64 x239018_2, .int .i64 x239019_2, .int .i64 x239020_2]] z12_17 rfl rfl z12_7 ?_
              with_reducible refine (impl_Process_behind.calls k3 a0_0 _ _ l0_1 a0_2 a0_3 a0_4 a0_5 (wrap64 (a0_0 - x7_2)) t248 x239000_2 x239001_2 x239002_2 x239003_2 x239004_2 x239005_2 x239006_2 x239007_2 x239008_2 x239009_2 x239010_2 x239011_2 x239012_2 x239013_2 x239014_2 x239015_2 x239016_2 x239017_2 x239018_2 x239019_2 x239020_2 t251 _ ?side1 ?side2 A49.out).mono ?_
              (case side1 => have zh := (Kd.C_below HR0_1.out HB.out); exact z12_C)
              (case side2 => exact HC0_1.out)
              rintro e w58 ⟨rfl, hb⟩
              refine ⟨_, rfl, ?_⟩
              have n0_ := z12_A (blk_below (g := gb235) (o := .cells #[.int .i64 a0_0, .slice A0_1 l0_1.length c0_1, .int .i64 a0_2, .int .i64 a0_3, .int .i64 a0_4, .int .i64 a0_5] 30 (0, 0)) z12_2 hb)
              have n1_ := z12_A (blk_below (g := gb238) (o := .cells #[.int .i64 x239000_2, .int .i64 x239001_2, .int .i64 x239002_2, .int .i64 x239003_2, .int .i64 x239004_2, .int .i64 x239005_2, .int .i64 x239006_2, .int .i64 x239007_2, .int .i64 x239008_2, .int .i64 x239009_2, .int .i64 x239010_2, .int .i64 x239011_2, .int .i64 x239012_2, .int .i64 x239013_2, .int .i64 x239014_2, .int .i64 x239015_2, .int .i64 x239016_2, .int .i64 x239017_2, .int .i64 x239018_2, .int .i64 x239019_2, .int .i64 x239020_2] 94 (0, 0)) z12_6 hb)
              have n2_ := z12_A (blk_below (g := gb246) (o := .cells #[.int .i64 x247000_3, .int .i64 x247001_3, .int .i64 x247002_3, .int .i64 x247003_3, .int .i64 x247004_3, .int .i64 x247005_3, .int .i64 x247006_3, .int .i64 x247007_3, .int .i64 x247008_3, .int .i64 x247009_3, .int .i64 x247010_3, .int .i64 x247011_3, .int .i64 x247012_3, .int .i64 x247013_3, .int .i64 x247014_3, .int .i64 x247015_3, .int .i64 x247016_3, .int .i64 x247017_3, .int .i64 x247018_3, .int .i64 x247019_3, .int .i64 x247020_3] 94 (0, 0)) z12_8 hb)
              have n3_ := z12_A (below_step z12_3 hb)
              clear BK235
              clear BK238
              clear BK246
              clear HB
              have BK235 := n0_
              have BK238 := n1_
              have BK246 := n2_
              have HB := n3_
              clear n0_ n1_ n2_ n3_
              (try clear hb)
              (try clear hb2)
              (try clear hk)
              (try clear hi)
              have p59 : 0 ≤ ((ji50) : Int) := of_decide_eq_true z12_16
              have q59 : ((ji50) : Int) < 21 := of_decide_eq_true z12_16
              have hJ59 : ((ji50) : Int).toNat < 21 := (by omega)
              replace p59 := eq_true p59
              replace q59 := eq_true q59
              refine hK.out _ _ ⟨bcz BK235.out 0 rfl, bcz BK235.out 1 rfl, bcz BK235.out 2 rfl, bcz BK235.out 3 rfl, bcz BK235.out 4 rfl, bcz BK235.out 5 rfl, bcz BK238.out 0 rfl, bcz BK238.out 1 rfl, bcz BK238.out 2 rfl, bcz BK238.out 3 rfl, bcz BK238.out 4 rfl, bcz BK238.out 5 rfl, bcz BK238.out 6 rfl, bcz BK238.out 7 rfl, bcz BK238.out 8 rfl, bcz BK238.out 9 rfl, bcz BK238.out 10 rfl, bcz BK238.out 11 rfl, bcz BK238.out 12 rfl, bcz BK238.out 13 rfl, bcz BK238.out 14 rfl, bcz BK238.out 15 rfl, bcz BK238.out 16 rfl, bcz BK238.out 17 rfl, bcz BK238.out 18 rfl, bcz BK238.out 19 rfl, bcz BK238.out 20 rfl⟩ (fun hHeld => ?_)
              clear hK K
              refine norm_ (a' := ?_) ?_ ?_
              rotate_left
              ·show Act.put _ (some 59) _ = _
               simp only [Act.put, List.setIfInBounds_toArray, List.set_cons_zero, List.set_cons_succ, i64_w, i32_w]
               rfl
              refine pure_ (i := 15) (N := some 60) (v := ?_) (a' := ?_) #[true, true, true, true, true, true, true, true, true, true, true, true, true, true, true, true, false, false] rfl rfl (any_of HT_.out z12_9) (fun _ _ _ h => h) (Or.inl ⟨z12_17, ?_⟩) ?_ ?_
              rotate_left
              ·intro w'
               go_simp
               with_reducible rfl
              rotate_left
              ·simp only [Act.put, List.setIfInBounds_toArray, List.set_cons_zero, List.set_cons_succ, i64_w, i32_w]
               rfl
              refine pure_ (i := 16) (N := some 61) (v := ?_) (a' := ?_) #[true, true, true, true, true, true, true, true, true, true, true, true, true, true, true, true, true, false] rfl rfl (any_of HT_.out z12_9) (fun _ _ _ h => h) (Or.inl ⟨z12_17, ?_⟩) ?_ ?_
              rotate_left
              ·intro w'
               go_simp
               with_reducible rfl
              rotate_left
              ·simp only [Act.put, List.setIfInBounds_toArray, List.set_cons_zero, List.set_cons_succ, i64_w, i32_w]
               rfl
              refine one_ (i := 17) (N := none) #[true, true, true, true, true, true, true, true, true, true, true, true, true, true, true, true, true, true] rfl rfl (one_of HT_.out z12_9) (by decide) (fun K hK => ?_)
              obtain ⟨vj59, hx59_0⟩ : ∃ v_, w58.cell? ⟨gb246, ((ji50) : Int).toNat, none⟩ = some v_ := ⟨_, (blk_cell (show w58.heap[gb246]? = some (.cells #[.int .i64 x247000_3, .int .i64 x247001_3, .int .i64 x247002_3, .int .i64 x247003_3, .int .i64 x247004_3, .int .i64 x247005_3, .int .i64 x247006_3, .int .i64 x247007_3, .int .i64 x247008_3, .int .i64 x247009_3, .int .i64 x247010_3, .int .i64 x247011_3, .int .i64 x247012_3, .int .i64 x247013_3, .int .i64 x247014_3, .int .i64 x247015_3, .int .i64 x247016_3, .int .i64 x247017_3, .int .i64 x247018_3, .int .i64 x247019_3, .int .i64 x247020_3] _ (0, 0)) from z12_8) _).trans (Array.getElem?_eq_getElem (show ((ji50) : Int).toNat < 21 from hJ59))⟩
              have hf59_0 := blk_frozen (show w58.heap[gb246]? = some (.cells #[.int .i64 x247000_3, .int .i64 x247001_3, .int .i64 x247002_3, .int .i64 x247003_3, .int .i64 x247004_3, .int .i64 x247005_3, .int .i64 x247006_3, .int .i64 x247007_3, .int .i64 x247008_3, .int .i64 x247009_3, .int .i64 x247010_3, .int .i64 x247011_3, .int .i64 x247012_3, .int .i64 x247013_3, .int .i64 x247014_3, .int .i64 x247015_3, .int .i64 x247016_3, .int .i64 x247017_3, .int .i64 x247018_3, .int .i64 x247019_3, .int .i64 x247020_3] _ (0, 0)) from z12_8) ((ji50) : Int).toNat
              refine skip_ (w1 := ?_) z12_17 rfl ?_ ?_
              rotate_left
              ·go_simp
               rfl
              refine hK.out _ _ ⟨((cell_far (p := ⟨gb246, _, none⟩) NB235_246.out _).trans (hHeld.1)), ((cell_far (p := ⟨gb246, _, none⟩) NB235_246.out _).trans (hHeld.2.1)), ((cell_far (p := ⟨gb246, _, none⟩) NB235_246.out _).trans (hHeld.2.2.1)), ((cell_far (p := ⟨gb246, _, none⟩) NB235_246.out _).trans (hHeld.2.2.2.1)), ((cell_far (p := ⟨gb246, _, none⟩) NB235_246.out _).trans (hHeld.2.2.2.2.1)), ((cell_far (p := ⟨gb246, _, none⟩) NB235_246.out _).trans (hHeld.2.2.2.2.2.1)), ((cell_far (p := ⟨gb246, _, none⟩) NB238_246.out _).trans (hHeld.2.2.2.2.2.2.1)), ((cell_far (p := ⟨gb246, _, none⟩) NB238_246.out _).trans (hHeld.2.2.2.2.2.2.2.1)), ((cell_far (p := ⟨gb246, _, none⟩) NB238_246.out _).trans (hHeld.2.2.2.2.2.2.2.2.1)), ((cell_far (p := ⟨gb246, _, none⟩) NB238_246.out _).trans (hHeld.2.2.2.2.2.2.2.2.2.1)), ((cell_far (p := ⟨gb246, _, none⟩) NB238_246.out _).trans (hHeld.2.2.2.2.2.2.2.2.2.2.1)), ((cell_far (p := ⟨gb246, _, none⟩) NB238_246.out _).trans (hHeld.2.2.2.2.2.2.2.2.2.2.2.1)), ((cell_far (p := ⟨gb246, _, none⟩) NB238_246.out _).trans (hHeld.2.2.2.2.2.2.2.2.2.2.2.2.1)), ((cell_far (p := ⟨gb246, _, none⟩) NB238_246.out _).trans (hHeld.2.2.2.2.2.2.2.2.2.2.2.2.2.1)), ((cell_far (p := ⟨gb246, _, none⟩) NB238_246.out _).trans (hHeld.2.2.2.2.2.2.2.2.2.2.2.2.2.2.1)), ((cell_far (p := ⟨gb246, _, none⟩) NB238_246.out _).trans (hHeld.2.2.2.2.2.2.2.2.2.2.2.2.2.2.2.1)), ((cell_far (p := ⟨gb246, _, none⟩) NB238_246.out _).trans (hHeld.2.2.2.2.2.2.2.2.2.2.2.2.2.2.2.2.1)), ((cell_far (p := ⟨gb246, _, none⟩) NB238_246.out _).trans (hHeld.2.2.2.2.2.2.2.2.2.2.2.2.2.2.2.2.2.1)), ((cell_far (p := ⟨gb246, _, none⟩) NB238_246.out _).trans (hHeld.2.2.2.2.2.2.2.2.2.2.2.2.2.2.2.2.2.2.1)), ((cell_far (p := ⟨gb246, _, none⟩) NB238_246.out _).trans (hHeld.2.2.2.2.2.2.2.2.2.2.2.2.2.2.2.2.2.2.2.1)), ((cell_far (p := ⟨gb246, _, none⟩) NB238_246.out _).trans (hHeld.2.2.2.2.2.2.2.2.2.2.2.2.2.2.2.2.2.2.2.2.1)), ((cell_far (p := ⟨gb246, _, none⟩) NB238_246.out _).trans (hHeld.2.2.2.2.2.2.2.2.2.2.2.2.2.2.2.2.2.2.2.2.2.1)), ((cell_far (p := ⟨gb246, _, none⟩) NB238_246.out _).trans (hHeld.2.2.2.2.2.2.2.2.2.2.2.2.2.2.2.2.2.2.2.2.2.2.1)), ((cell_far (p := ⟨gb246, _, none⟩) NB238_246.out _).trans (hHeld.2.2.2.2.2.2.2.2.2.2.2.2.2.2.2.2.2.2.2.2.2.2.2.1)), ((cell_far (p := ⟨gb246, _, none⟩) NB238_246.out _).trans (hHeld.2.2.2.2.2.2.2.2.2.2.2.2.2.2.2.2.2.2.2.2.2.2.2.2.1)), ((cell_far (p := ⟨gb246, _, none⟩) NB238_246.out _).trans (hHeld.2.2.2.2.2.2.2.2.2.2.2.2.2.2.2.2.2.2.2.2.2.2.2.2.2.1)), ((cell_far (p := ⟨gb246, _, none⟩) NB238_246.out _).trans (hHeld.2.2.2.2.2.2.2.2.2.2.2.2.2.2.2.2.2.2.2.2.2.2.2.2.2.2))⟩ (fun hHeld => ?_)
              clear hK K
              refine done_ (done_of HT_.out z12_9) ?_
              try go_wp2
              go_roundg k3
              case measure => have := HJ2.out; have := HK2.out; have := HK3.out; omega
              case rel => exact ⟨(wrap64 (x10_3 + 1)), (selI ((ji50) : Int).toNat 0 (wrap64 ((wrap64 (t249 * t250)) + t251)) x247000_3), (selI ((ji50) : Int).toNat 1 (wrap64 ((wrap64 (t249 * t250)) + t251)) x247001_3), (selI ((ji50) : Int).toNat 2 (wrap64 ((wrap64 (t249 * t250)) + t251)) x247002_3), (selI ((ji50) : Int).toNat 3 (wrap64 ((wrap64 (t249 * t250)) + t251)) x247003_3), (selI ((ji50) : Int).toNat 4 (wrap64 ((wrap64 (t249 * t250)) + t251)) x247004_3), (selI ((ji50) : Int).toNat 5 (wrap64 ((wrap64 (t249 * t250)) + t251)) x247005_3), (selI ((ji50) : Int).toNat 6 (wrap64 ((wrap64 (t249 * t250)) + t251)) x247006_3), (selI ((ji50) : Int).toNat 7 (wrap64 ((wrap64 (t249 * t250)) + t251)) x247007_3), (selI ((ji50) : Int).toNat 8 (wrap64 ((wrap64 (t249 * t250)) + t251)) x247008_3), (selI ((ji50) : Int).toNat 9 (wrap64 ((wrap64 (t249 * t250)) + t251)) x247009_3), (selI ((ji50) : Int).toNat 10 (wrap64 ((wrap64 (t249 * t250)) + t251)) x247010_3), (selI ((ji50) : Int).toNat 11 (wrap64 ((wrap64 (t249 * t250)) + t251)) x247011_3), (selI ((ji50) : Int).toNat 12 (wrap64 ((wrap64 (t249 * t250)) + t251)) x247012_3), (selI ((ji50) : Int).toNat 13 (wrap64 ((wrap64 (t249 * t250)) + t251)) x247013_3), (selI ((ji50) : Int).toNat 14 (wrap64 ((wrap64 (t249 * t250)) + t251)) x247014_3), (selI ((ji50) : Int).toNat 15 (wrap64 ((wrap64 (t249 * t250)) + t251)) x247015_3), (selI ((ji50) : Int).toNat 16 (wrap64 ((wrap64 (t249 * t250)) + t251)) x247016_3), (selI ((ji50) : Int).toNat 17 (wrap64 ((wrap64 (t249 * t250)) + t251)) x247017_3), (selI ((ji50) : Int).toNat 18 (wrap64 ((wrap64 (t249 * t250)) + t251)) x247018_3), (selI ((ji50) : Int).toNat 19 (wrap64 ((wrap64 (t249 * t250)) + t251)) x247019_3), (selI ((ji50) : Int).toNat 20 (wrap64 ((wrap64 (t249 * t250)) + t251)) x247020_3), z12_12, H', ⟨by have := HJ2.out; have := HK2.out; have := HK3.out; omega⟩, ⟨by (with_reducible repeat (first | refine blk_drewN ?_ _ | refine blk_drew ?_ | refine blk_alloc ?_ _)); refine blk_far ?_ NB235_246.out _; (with_reducible repeat (first | refine blk_drewN ?_ _ | refine blk_drew ?_ | refine blk_alloc ?_ _)); exact BK235.out⟩, ⟨by (with_reducible repeat (first | refine blk_drewN ?_ _ | refine blk_drew ?_ | refine blk_alloc ?_ _)); refine blk_far ?_ NB238_246.out _; (with_reducible repeat (first | refine blk_drewN ?_ _ | refine blk_drew ?_ | refine blk_alloc ?_ _)); exact BK238.out⟩, ⟨by (with_reducible repeat (first | refine blk_drewN ?_ _ | refine blk_drew ?_ | refine blk_alloc ?_ _)); refine blk_put (cs := #[.int .i64 x247000_3, .int .i64 x247001_3, .int .i64 x247002_3, .int .i64 x247003_3, .int .i64 x247004_3, .int .i64 x247005_3, .int .i64 x247006_3, .int .i64 x247007_3, .int .i64 x247008_3, .int .i64 x247009_3, .int .i64 x247010_3, .int .i64 x247011_3, .int .i64 x247012_3, .int .i64 x247013_3, .int .i64 x247014_3, .int .i64 x247015_3, .int .i64 x247016_3, .int .i64 x247017_3, .int .i64 x247018_3, .int .i64 x247019_3, .int .i64 x247020_3]) ?_ ((ji50) : Int).toNat _ (putB21 (by first | assumption | omega)); (with_reducible repeat (first | refine blk_drewN ?_ _ | refine blk_drew ?_ | refine blk_alloc ?_ _)); exact BK246.out⟩, ⟨z12_3⟩⟩
             ·rw [if_neg c52] at H
              exact absurd H (by simp)
            ·rw [if_neg c51] at H
             exact absurd H (by simp)
           ·rw [if_neg c45] at H
            exact absurd H (by simp)
          ·rw [if_neg c44] at H
           exact absurd H (by simp)
         ·rw [if_neg c43] at H
          have c43b0 : decide (x10_3 ≤ 10) = false := decide_eq_false c43
          clear c43
          have H' := z12_A H
          clear H
          have hnb60 := NB246_235.out
          have hnc60 := NB235_246.out
          have hnb61 := NB246_238.out
          have hnc61 := NB238_246.out
          have hcz62_0 : wr.cell? ⟨gb246, 0, none⟩ = some (.int .i64 x247000_3) := bcz BK246.out 0 rfl
          have hcz62_1 : wr.cell? ⟨gb246, 1, none⟩ = some (.int .i64 x247001_3) := bcz BK246.out 1 rfl
          have hcz62_2 : wr.cell? ⟨gb246, 2, none⟩ = some (.int .i64 x247002_3) := bcz BK246.out 2 rfl
          have hcz62_3 : wr.cell? ⟨gb246, 3, none⟩ = some (.int .i64 x247003_3) := bcz BK246.out 3 rfl
          have hcz62_4 : wr.cell? ⟨gb246, 4, none⟩ = some (.int .i64 x247004_3) := bcz BK246.out 4 rfl
          have hcz62_5 : wr.cell? ⟨gb246, 5, none⟩ = some (.int .i64 x247005_3) := bcz BK246.out 5 rfl
          have hcz62_6 : wr.cell? ⟨gb246, 6, none⟩ = some (.int .i64 x247006_3) := bcz BK246.out 6 rfl
          have hcz62_7 : wr.cell? ⟨gb246, 7, none⟩ = some (.int .i64 x247007_3) := bcz BK246.out 7 rfl
          have hcz62_8 : wr.cell? ⟨gb246, 8, none⟩ = some (.int .i64 x247008_3) := bcz BK246.out 8 rfl
          have hcz62_9 : wr.cell? ⟨gb246, 9, none⟩ = some (.int .i64 x247009_3) := bcz BK246.out 9 rfl
          have hcz62_10 : wr.cell? ⟨gb246, 10, none⟩ = some (.int .i64 x247010_3) := bcz BK246.out 10 rfl
          have hcz62_11 : wr.cell? ⟨gb246, 11, none⟩ = some (.int .i64 x247011_3) := bcz BK246.out 11 rfl
          have hcz62_12 : wr.cell? ⟨gb246, 12, none⟩ = some (.int .i64 x247012_3) := bcz BK246.out 12 rfl
          have hcz62_13 : wr.cell? ⟨gb246, 13, none⟩ = some (.int .i64 x247013_3) := bcz BK246.out 13 rfl
          have hcz62_14 : wr.cell? ⟨gb246, 14, none⟩ = some (.int .i64 x247014_3) := bcz BK246.out 14 rfl
          have hcz62_15 : wr.cell? ⟨gb246, 15, none⟩ = some (.int .i64 x247015_3) := bcz BK246.out 15 rfl
          have hcz62_16 : wr.cell? ⟨gb246, 16, none⟩ = some (.int .i64 x247016_3) := bcz BK246.out 16 rfl
          have hcz62_17 : wr.cell? ⟨gb246, 17, none⟩ = some (.int .i64 x247017_3) := bcz BK246.out 17 rfl
          have hcz62_18 : wr.cell? ⟨gb246, 18, none⟩ = some (.int .i64 x247018_3) := bcz BK246.out 18 rfl
          have hcz62_19 : wr.cell? ⟨gb246, 19, none⟩ = some (.int .i64 x247019_3) := bcz BK246.out 19 rfl
          have hcz62_20 : wr.cell? ⟨gb246, 20, none⟩ = some (.int .i64 x247020_3) := bcz BK246.out 20 rfl
          obtain ⟨hfz62_0, hfz62_1, hfz62_2, hfz62_3⟩ := F4z (blk_frozen BK246.out)
          have hfz62_4 := blk_frozen BK246.out 4
          have hfz62_5 := blk_frozen BK246.out 5
          have hfz62_6 := blk_frozen BK246.out 6
          have hfz62_7 := blk_frozen BK246.out 7
          have hfz62_8 := blk_frozen BK246.out 8
          have hfz62_9 := blk_frozen BK246.out 9
          have hfz62_10 := blk_frozen BK246.out 10
          have hfz62_11 := blk_frozen BK246.out 11
          have hfz62_12 := blk_frozen BK246.out 12
          have hfz62_13 := blk_frozen BK246.out 13
          have hfz62_14 := blk_frozen BK246.out 14
          have hfz62_15 := blk_frozen BK246.out 15
          have hfz62_16 := blk_frozen BK246.out 16
          have hfz62_17 := blk_frozen BK246.out 17
          have hfz62_18 := blk_frozen BK246.out 18
          have hfz62_19 := blk_frozen BK246.out 19
          have hfz62_20 := blk_frozen BK246.out 20
          have hnb63 := NB238_235.out
          have hnc63 := NB235_238.out
          have hcz64_0 : wr.cell? ⟨gb238, 0, none⟩ = some (.int .i64 x239000_2) := bcz BK238.out 0 rfl
          have hcz64_1 : wr.cell? ⟨gb238, 1, none⟩ = some (.int .i64 x239001_2) := bcz BK238.out 1 rfl
          have hcz64_2 : wr.cell? ⟨gb238, 2, none⟩ = some (.int .i64 x239002_2) := bcz BK238.out 2 rfl
          have hcz64_3 : wr.cell? ⟨gb238, 3, none⟩ = some (.int .i64 x239003_2) := bcz BK238.out 3 rfl
          have hcz64_4 : wr.cell? ⟨gb238, 4, none⟩ = some (.int .i64 x239004_2) := bcz BK238.out 4 rfl
          have hcz64_5 : wr.cell? ⟨gb238, 5, none⟩ = some (.int .i64 x239005_2) := bcz BK238.out 5 rfl
          have hcz64_6 : wr.cell? ⟨gb238, 6, none⟩ = some (.int .i64 x239006_2) := bcz BK238.out 6 rfl
          have hcz64_7 : wr.cell? ⟨gb238, 7, none⟩ = some (.int .i64 x239007_2) := bcz BK238.out 7 rfl
          have hcz64_8 : wr.cell? ⟨gb238, 8, none⟩ = some (.int .i64 x239008_2) := bcz BK238.out 8 rfl
          have hcz64_9 : wr.cell? ⟨gb238, 9, none⟩ = some (.int .i64 x239009_2) := bcz BK238.out 9 rfl
          have hcz64_10 : wr.cell? ⟨gb238, 10, none⟩ = some (.int .i64 x239010_2) := bcz BK238.out 10 rfl
          have hcz64_11 : wr.cell? ⟨gb238, 11, none⟩ = some (.int .i64 x239011_2) := bcz BK238.out 11 rfl
          have hcz64_12 : wr.cell? ⟨gb238, 12, none⟩ = some (.int .i64 x239012_2) := bcz BK238.out 12 rfl
          have hcz64_13 : wr.cell? ⟨gb238, 13, none⟩ = some (.int .i64 x239013_2) := bcz BK238.out 13 rfl
          have hcz64_14 : wr.cell? ⟨gb238, 14, none⟩ = some (.int .i64 x239014_2) := bcz BK238.out 14 rfl
          have hcz64_15 : wr.cell? ⟨gb238, 15, none⟩ = some (.int .i64 x239015_2) := bcz BK238.out 15 rfl
          have hcz64_16 : wr.cell? ⟨gb238, 16, none⟩ = some (.int .i64 x239016_2) := bcz BK238.out 16 rfl
          have hcz64_17 : wr.cell? ⟨gb238, 17, none⟩ = some (.int .i64 x239017_2) := bcz BK238.out 17 rfl
          have hcz64_18 : wr.cell? ⟨gb238, 18, none⟩ = some (.int .i64 x239018_2) := bcz BK238.out 18 rfl
          have hcz64_19 : wr.cell? ⟨gb238, 19, none⟩ = some (.int .i64 x239019_2) := bcz BK238.out 19 rfl
          have hcz64_20 : wr.cell? ⟨gb238, 20, none⟩ = some (.int .i64 x239020_2) := bcz BK238.out 20 rfl
          obtain ⟨hfz64_0, hfz64_1, hfz64_2, hfz64_3⟩ := F4z (blk_frozen BK238.out)
          have hfz64_4 := blk_frozen BK238.out 4
          have hfz64_5 := blk_frozen BK238.out 5
          have hfz64_6 := blk_frozen BK238.out 6
          have hfz64_7 := blk_frozen BK238.out 7
          have hfz64_8 := blk_frozen BK238.out 8
          have hfz64_9 := blk_frozen BK238.out 9
          have hfz64_10 := blk_frozen BK238.out 10
          have hfz64_11 := blk_frozen BK238.out 11
          have hfz64_12 := blk_frozen BK238.out 12
          have hfz64_13 := blk_frozen BK238.out 13
          have hfz64_14 := blk_frozen BK238.out 14
          have hfz64_15 := blk_frozen BK238.out 15
          have hfz64_16 := blk_frozen BK238.out 16
          have hfz64_17 := blk_frozen BK238.out 17
          have hfz64_18 := blk_frozen BK238.out 18
          have hfz64_19 := blk_frozen BK238.out 19
          have hfz64_20 := blk_frozen BK238.out 20
          go_wp2_with (first | ((with_reducible refine gateS94 rfl ?_); refine storeP94 rfl rfl z12_11 z12_11 z12_11 BK238.out ?_) | ((with_reducible refine gateL94 rfl ?_); first | (refine loadX94 rfl z12_11 z12_11 BK246.out ?_) | (refine loadX94 rfl z12_11 z12_11 BK238.out ?_)))
          go_roundg k3
          case measure => have := HJ2.out; have := HK2.out; have := HK3.out; omega
          case rel => exact ⟨(wrap64 (x7_2 - 1)), (x247000_3), (x247001_3), (x247002_3), (x247003_3), (x247004_3), (x247005_3), (x247006_3), (x247007_3), (x247008_3), (x247009_3), (x247010_3), (x247011_3), (x247012_3), (x247013_3), (x247014_3), (x247015_3), (x247016_3), (x247017_3), (x247018_3), (x247019_3), (x247020_3), z12_12, H', ⟨by have := HJ2.out; have := HK2.out; have := HK3.out; omega⟩, ⟨z12_1⟩, ⟨by (with_reducible repeat (first | refine blk_drewN ?_ _ | refine blk_drew ?_ | refine blk_alloc ?_ _)); refine blk_put (cs := #[.int .i64 x247000_3, .int .i64 x247001_3, .int .i64 x247002_3, .int .i64 x247003_3, .int .i64 x247004_3, .int .i64 x247005_3, .int .i64 x247006_3, .int .i64 x247007_3, .int .i64 x247008_3, .int .i64 x247009_3, .int .i64 x247010_3, .int .i64 x247011_3, .int .i64 x247012_3, .int .i64 x247013_3, .int .i64 x247014_3, .int .i64 x247015_3, .int .i64 x247016_3, .int .i64 x247017_3, .int .i64 x247018_3, .int .i64 x247019_3, .int .i64 x239020_2]) ?_ 20 _ rfl; (with_reducible repeat (first | refine blk_drewN ?_ _ | refine blk_drew ?_ | refine blk_alloc ?_ _)); refine blk_put (cs := #[.int .i64 x247000_3, .int .i64 x247001_3, .int .i64 x247002_3, .int .i64 x247003_3, .int .i64 x247004_3, .int .i64 x247005_3, .int .i64 x247006_3, .int .i64 x247007_3, .int .i64 x247008_3, .int .i64 x247009_3, .int .i64 x247010_3, .int .i64 x247011_3, .int .i64 x247012_3, .int .i64 x247013_3, .int .i64 x247014_3, .int .i64 x247015_3, .int .i64 x247016_3, .int .i64 x247017_3, .int .i64 x247018_3, .int .i64 x239019_2, .int .i64 x239020_2]) ?_ 19 _ rfl; (with_reducible repeat (first | refine blk_drewN ?_ _ | refine blk_drew ?_ | refine blk_alloc ?_ _)); refine blk_put (cs := #[.int .i64 x247000_3, .int .i64 x247001_3, .int .i64 x247002_3, .int .i64 x247003_3, .int .i64 x247004_3, .int .i64 x247005_3, .int .i64 x247006_3, .int .i64 x247007_3, .int .i64 x247008_3, .int .i64 x247009_3, .int .i64 x247010_3, .int .i64 x247011_3, .int .i64 x247012_3, .int .i64 x247013_3, .int .i64 x247014_3, .int .i64 x247015_3, .int .i64 x247016_3, .int .i64 x247017_3, .int .i64 x239018_2, .int .i64 x239019_2, .int .i64 x239020_2]) ?_ 18 _ rfl; (with_reducible repeat (first | refine blk_drewN ?_ _ | refine blk_drew ?_ | refine blk_alloc ?_ _)); refine blk_put (cs := #[.int .i64 x247000_3, .int .i64 x247001_3, .int .i64 x247002_3, .int .i64 x247003_3, .int .i64 x247004_3, .int .i64 x247005_3, .int .i64 x247006_3, .int .i64 x247007_3, .int .i64 x247008_3, .int .i64 x247009_3, .int .i64 x247010_3, .int .i64 x247011_3, .int .i64 x247012_3, .int .i64 x247013_3, .int .i64 x247014_3, .int .i64 x247015_3, .int .i64 x247016_3, .int .i64 x239017_2, .int .i64 x239018_2, .int .i64 x239019_2, .int .i64 x239020_2]) ?_ 17 _ rfl; (with_reducible repeat (first | refine blk_drewN ?_ _ | refine blk_drew ?_ | refine blk_alloc ?_ _)); refine blk_put (cs := #[.int .i64 x247000_3, .int .i64 x247001_3, .int .i64 x247002_3, .int .i64 x247003_3, .int .i64 x247004_3, .int .i64 x247005_3, .int .i64 x247006_3, .int .i64 x247007_3, .int .i64 x247008_3, .int .i64 x247009_3, .int .i64 x247010_3, .int .i64 x247011_3, .int .i64 x247012_3, .int .i64 x247013_3, .int .i64 x247014_3, .int .i64 x247015_3, .int .i64 x239016_2, .int .i64 x239017_2, .int .i64 x239018_2, .int .i64 x239019_2, .int .i64 x239020_2]) ?_ 16 _ rfl; (with_reducible repeat (first | refine blk_drewN ?_ _ | refine blk_drew ?_ | refine blk_alloc ?_ _)); refine blk_put (cs := #[.int .i64 x247000_3, .int .i64 x247001_3, .int .i64 x247002_3, .int .i64 x247003_3, .int .i64 x247004_3, .int .i64 x247005_3, .int .i64 x247006_3, .int .i64 x247007_3, .int .i64 x247008_3, .int .i64 x247009_3, .int .i64 x247010_3, .int .i64 x247011_3, .int .i64 x247012_3, .int .i64 x247013_3, .int .i64 x247014_3, .int .i64 x239015_2, .int .i64 x239016_2, .int .i64 x239017_2, .int .i64 x239018_2, .int .i64 x239019_2, .int .i64 x239020_2]) ?_ 15 _ rfl; (with_reducible repeat (first | refine blk_drewN ?_ _ | refine blk_drew ?_ | refine blk_alloc ?_ _)); refine blk_put (cs := #[.int .i64 x247000_3, .int .i64 x247001_3, .int .i64 x247002_3, .int .i64 x247003_3, .int .i64 x247004_3, .int .i64 x247005_3, .int .i64 x247006_3, .int .i64 x247007_3, .int .i64 x247008_3, .int .i64 x247009_3, .int .i64 x247010_3, .int .i64 x247011_3, .int .i64 x247012_3, .int .i64 x247013_3, .int .i64 x239014_2, .int .i64 x239015_2, .int .i64 x239016_2, .int .i64 x239017_2, .int .i64 x239018_2, .int .i64 x239019_2, .int .i64 x239020_2]) ?_ 14 _ rfl; (with_reducible repeat (first | refine blk_drewN ?_ _ | refine blk_drew ?_ | refine blk_alloc ?_ _)); refine blk_put (cs := #[.int .i64 x247000_3, .int .i64 x247001_3, .int .i64 x247002_3, .int .i64 x247003_3, .int .i64 x247004_3, .int .i64 x247005_3, .int .i64 x247006_3, .int .i64 x247007_3, .int .i64 x247008_3, .int .i64 x247009_3, .int .i64 x247010_3, .int .i64 x247011_3, .int .i64 x247012_3, .int .i64 x239013_2, .int .i64 x239014_2, .int .i64 x239015_2, .int .i64 x239016_2, .int .i64 x239017_2, .int .i64 x239018_2, .int .i64 x239019_2, .int .i64 x239020_2]) ?_ 13 _ rfl; (with_reducible repeat (first | refine blk_drewN ?_ _ | refine blk_drew ?_ | refine blk_alloc ?_ _)); refine blk_put (cs := #[.int .i64 x247000_3, .int .i64 x247001_3, .int .i64 x247002_3, .int .i64 x247003_3, .int .i64 x247004_3, .int .i64 x247005_3, .int .i64 x247006_3, .int .i64 x247007_3, .int .i64 x247008_3, .int .i64 x247009_3, .int .i64 x247010_3, .int .i64 x247011_3, .int .i64 x239012_2, .int .i64 x239013_2, .int .i64 x239014_2, .int .i64 x239015_2, .int .i64 x239016_2, .int .i64 x239017_2, .int .i64 x239018_2, .int .i64 x239019_2, .int .i64 x239020_2]) ?_ 12 _ rfl; (with_reducible repeat (first | refine blk_drewN ?_ _ | refine blk_drew ?_ | refine blk_alloc ?_ _)); refine blk_put (cs := #[.int .i64 x247000_3, .int .i64 x247001_3, .int .i64 x247002_3, .int .i64 x247003_3, .int .i64 x247004_3, .int .i64 x247005_3, .int .i64 x247006_3, .int .i64 x247007_3, .int .i64 x247008_3, .int .i64 x247009_3, .int .i64 x247010_3, .int .i64 x239011_2, .int .i64 x239012_2, .int .i64 x239013_2, .int .i64 x239014_2, .int .i64 x239015_2, .int .i64 x239016_2, .int .i64 x239017_2, .int .i64 x239018_2, .int .i64 x239019_2, .int .i64 x239020_2]) ?_ 11 _ rfl; (with_reducible repeat (first | refine blk_drewN ?_ _ | refine blk_drew ?_ | refine blk_alloc ?_ _)); refine blk_put (cs := #[.int .i64 x247000_3, .int .i64 x247001_3, .int .i64 x247002_3, .int .i64 x247003_3, .int .i64 x247004_3, .int .i64 x247005_3, .int .i64 x247006_3, .int .i64 x247007_3, .int .i64 x247008_3, .int .i64 x247009_3, .int .i64 x239010_2, .int .i64 x239011_2, .int .i64 x239012_2, .int .i64 x239013_2, .int .i64 x239014_2, .int .i64 x239015_2, .int .i64 x239016_2, .int .i64 x239017_2, .int .i64 x239018_2, .int .i64 x239019_2, .int .i64 x239020_2]) ?_ 10 _ rfl; (with_reducible repeat (first | refine blk_drewN ?_ _ | refine blk_drew ?_ | refine blk_alloc ?_ _)); refine blk_put (cs := #[.int .i64 x247000_3, .int .i64 x247001_3, .int .i64 x247002_3, .int .i64 x247003_3, .int .i64 x247004_3, .int .i64 x247005_3, .int .i64 x247006_3, .int .i64 x247007_3, .int .i64 x247008_3, .int .i64 x239009_2, .int .i64 x239010_2, .int .i64 x239011_2, .int .i64 x239012_2, .int .i64 x239013_2, .int .i64 x239014_2, .int .i64 x239015_2, .int .i64 x239016_2, .int .i64 x239017_2, .int .i64 x239018_2, .int .i64 x239019_2, .int .i64 x239020_2]) ?_ 9 _ rfl; (with_reducible repeat (first | refine blk_drewN ?_ _ | refine blk_drew ?_ | refine blk_alloc ?_ _)); refine blk_put (cs := #[.int .i64 x247000_3, .int .i64 x247001_3, .int .i64 x247002_3, .int .i64 x247003_3, .int .i64 x247004_3, .int .i64 x247005_3, .int .i64 x247006_3, .int .i64 x247007_3, .int .i64 x239008_2, .int .i64 x239009_2, .int .i64 x239010_2, .int .i64 x239011_2, .int .i64 x239012_2, .int .i64 x239013_2, .int .i64 x239014_2, .int .i64 x239015_2, .int .i64 x239016_2, .int .i64 x239017_2, .int .i64 x239018_2, .int .i64 x239019_2, .int .i64 x239020_2]) ?_ 8 _ rfl; (with_reducible repeat (first | refine blk_drewN ?_ _ | refine blk_drew ?_ | refine blk_alloc ?_ _)); refine blk_put (cs := #[.int .i64 x247000_3, .int .i64 x247001_3, .int .i64 x247002_3, .int .i64 x247003_3, .int .i64 x247004_3, .int .i64 x247005_3, .int .i64 x247006_3, .int .i64 x239007_2, .int .i64 x239008_2, .int .i64 x239009_2, .int .i64 x239010_2, .int .i64 x239011_2, .int .i64 x239012_2, .int .i64 x239013_2, .int .i64 x239014_2, .int .i64 x239015_2, .int .i64 x239016_2, .int .i64 x239017_2, .int .i64 x239018_2, .int .i64 x239019_2, .int .i64 x239020_2]) ?_ 7 _ rfl; (with_reducible repeat (first | refine blk_drewN ?_ _ | refine blk_drew ?_ | refine blk_alloc ?_ _)); refine blk_put (cs := #[.int .i64 x247000_3, .int .i64 x247001_3, .int .i64 x247002_3, .int .i64 x247003_3, .int .i64 x247004_3, .int .i64 x247005_3, .int .i64 x239006_2, .int .i64 x239007_2, .int .i64 x239008_2, .int .i64 x239009_2, .int .i64 x239010_2, .int .i64 x239011_2, .int .i64 x239012_2, .int .i64 x239013_2, .int .i64 x239014_2, .int .i64 x239015_2, .int .i64 x239016_2, .int .i64 x239017_2, .int .i64 x239018_2, .int .i64 x239019_2, .int .i64 x239020_2]) ?_ 6 _ rfl; (with_reducible repeat (first | refine blk_drewN ?_ _ | refine blk_drew ?_ | refine blk_alloc ?_ _)); refine blk_put (cs := #[.int .i64 x247000_3, .int .i64 x247001_3, .int .i64 x247002_3, .int .i64 x247003_3, .int .i64 x247004_3, .int .i64 x239005_2, .int .i64 x239006_2, .int .i64 x239007_2, .int .i64 x239008_2, .int .i64 x239009_2, .int .i64 x239010_2, .int .i64 x239011_2, .int .i64 x239012_2, .int .i64 x239013_2, .int .i64 x239014_2, .int .i64 x239015_2, .int .i64 x239016_2, .int .i64 x239017_2, .int .i64 x239018_2, .int .i64 x239019_2, .int .i64 x239020_2]) ?_ 5 _ rfl; (with_reducible repeat (first | refine blk_drewN ?_ _ | refine blk_drew ?_ | refine blk_alloc ?_ _)); refine blk_put (cs := #[.int .i64 x247000_3, .int .i64 x247001_3, .int .i64 x247002_3, .int .i64 x247003_3, .int .i64 x239004_2, .int .i64 x239005_2, .int .i64 x239006_2, .int .i64 x239007_2, .int .i64 x239008_2, .int .i64 x239009_2, .int .i64 x239010_2, .int .i64 x239011_2, .int .i64 x239012_2, .int .i64 x239013_2, .int .i64 x239014_2, .int .i64 x239015_2, .int .i64 x239016_2, .int .i64 x239017_2, .int .i64 x239018_2, .int .i64 x239019_2, .int .i64 x239020_2]) ?_ 4 _ rfl; (with_reducible repeat (first | refine blk_drewN ?_ _ | refine blk_drew ?_ | refine blk_alloc ?_ _)); refine blk_put (cs := #[.int .i64 x247000_3, .int .i64 x247001_3, .int .i64 x247002_3, .int .i64 x239003_2, .int .i64 x239004_2, .int .i64 x239005_2, .int .i64 x239006_2, .int .i64 x239007_2, .int .i64 x239008_2, .int .i64 x239009_2, .int .i64 x239010_2, .int .i64 x239011_2, .int .i64 x239012_2, .int .i64 x239013_2, .int .i64 x239014_2, .int .i64 x239015_2, .int .i64 x239016_2, .int .i64 x239017_2, .int .i64 x239018_2, .int .i64 x239019_2, .int .i64 x239020_2]) ?_ 3 _ rfl; (with_reducible repeat (first | refine blk_drewN ?_ _ | refine blk_drew ?_ | refine blk_alloc ?_ _)); refine blk_put (cs := #[.int .i64 x247000_3, .int .i64 x247001_3, .int .i64 x239002_2, .int .i64 x239003_2, .int .i64 x239004_2, .int .i64 x239005_2, .int .i64 x239006_2, .int .i64 x239007_2, .int .i64 x239008_2, .int .i64 x239009_2, .int .i64 x239010_2, .int .i64 x239011_2, .int .i64 x239012_2, .int .i64 x239013_2, .int .i64 x239014_2, .int .i64 x239015_2, .int .i64 x239016_2, .int .i64 x239017_2, .int .i64 x239018_2, .int .i64 x239019_2, .int .i64 x239020_2]) ?_ 2 _ rfl; (with_reducible repeat (first | refine blk_drewN ?_ _ | refine blk_drew ?_ | refine blk_alloc ?_ _)); refine blk_put (cs := #[.int .i64 x247000_3, .int .i64 x239001_2, .int .i64 x239002_2, .int .i64 x239003_2, .int .i64 x239004_2, .int .i64 x239005_2, .int .i64 x239006_2, .int .i64 x239007_2, .int .i64 x239008_2, .int .i64 x239009_2, .int .i64 x239010_2, .int .i64 x239011_2, .int .i64 x239012_2, .int .i64 x239013_2, .int .i64 x239014_2, .int .i64 x239015_2, .int .i64 x239016_2, .int .i64 x239017_2, .int .i64 x239018_2, .int .i64 x239019_2, .int .i64 x239020_2]) ?_ 1 _ rfl; (with_reducible repeat (first | refine blk_drewN ?_ _ | refine blk_drew ?_ | refine blk_alloc ?_ _)); refine blk_put (cs := #[.int .i64 x239000_2, .int .i64 x239001_2, .int .i64 x239002_2, .int .i64 x239003_2, .int .i64 x239004_2, .int .i64 x239005_2, .int .i64 x239006_2, .int .i64 x239007_2, .int .i64 x239008_2, .int .i64 x239009_2, .int .i64 x239010_2, .int .i64 x239011_2, .int .i64 x239012_2, .int .i64 x239013_2, .int .i64 x239014_2, .int .i64 x239015_2, .int .i64 x239016_2, .int .i64 x239017_2, .int .i64 x239018_2, .int .i64 x239019_2, .int .i64 x239020_2]) ?_ 0 _ rfl; (with_reducible repeat (first | refine blk_drewN ?_ _ | refine blk_drew ?_ | refine blk_alloc ?_ _)); exact BK238.out⟩, ⟨z12_3⟩⟩
      ·rw [if_neg c19] at H
       have c19b0 : decide (0 ≤ x7_2) = false := decide_eq_false c19
       clear c19
       obtain ⟨y239, hy239⟩ : ∃ y_ : List Int, y_ = ([x239000_2, x239001_2, x239002_2, x239003_2, x239004_2, x239005_2, x239006_2, x239007_2, x239008_2, x239009_2, x239010_2, x239011_2, x239012_2, x239013_2, x239014_2, x239015_2, x239016_2, x239017_2, x239018_2, x239019_2, x239020_2]) := ⟨_, rfl⟩
       replace H : ((impl_copied.f y239).bind fun t243 => (some (t243, true))) = some (r1, r2) := by first | (rw [hy239]; with_reducible exact H) | (have H2_ := (Option.bind_some _ _).symm.trans H; rw [hy239]; with_reducible exact H2_) | (have H2_ := (Option.bind_some _ _).symm.trans H; with_reducible exact H2_) | with_reducible exact H | (rw [hy239]; exact H) | exact H
       have Ny239 := z12_A hy239
       clear hy239
       replace H := Option.bind_eq_some_iff.mp H
       obtain ⟨t243, A650, H⟩ := H
       (try dsimp only at H)
       have A65 := z12_A A650
       clear A650
       simp only [Option.some.injEq, Prod.mk.injEq] at H
       obtain ⟨rfl, rfl⟩ := H
       have hnb66 := NB238_235.out
       have hnc66 := NB235_238.out
       have hcz67_0 : wr.cell? ⟨gb238, 0, none⟩ = some (.int .i64 x239000_2) := bcz BK238.out 0 rfl
       have hcz67_1 : wr.cell? ⟨gb238, 1, none⟩ = some (.int .i64 x239001_2) := bcz BK238.out 1 rfl
       have hcz67_2 : wr.cell? ⟨gb238, 2, none⟩ = some (.int .i64 x239002_2) := bcz BK238.out 2 rfl
       have hcz67_3 : wr.cell? ⟨gb238, 3, none⟩ = some (.int .i64 x239003_2) := bcz BK238.out 3 rfl
       have hcz67_4 : wr.cell? ⟨gb238, 4, none⟩ = some (.int .i64 x239004_2) := bcz BK238.out 4 rfl
       have hcz67_5 : wr.cell? ⟨gb238, 5, none⟩ = some (.int .i64 x239005_2) := bcz BK238.out 5 rfl
       have hcz67_6 : wr.cell? ⟨gb238, 6, none⟩ = some (.int .i64 x239006_2) := bcz BK238.out 6 rfl
       have hcz67_7 : wr.cell? ⟨gb238, 7, none⟩ = some (.int .i64 x239007_2) := bcz BK238.out 7 rfl
       have hcz67_8 : wr.cell? ⟨gb238, 8, none⟩ = some (.int .i64 x239008_2) := bcz BK238.out 8 rfl
       have hcz67_9 : wr.cell? ⟨gb238, 9, none⟩ = some (.int .i64 x239009_2) := bcz BK238.out 9 rfl
       have hcz67_10 : wr.cell? ⟨gb238, 10, none⟩ = some (.int .i64 x239010_2) := bcz BK238.out 10 rfl
       have hcz67_11 : wr.cell? ⟨gb238, 11, none⟩ = some (.int .i64 x239011_2) := bcz BK238.out 11 rfl
       have hcz67_12 : wr.cell? ⟨gb238, 12, none⟩ = some (.int .i64 x239012_2) := bcz BK238.out 12 rfl
       have hcz67_13 : wr.cell? ⟨gb238, 13, none⟩ = some (.int .i64 x239013_2) := bcz BK238.out 13 rfl
       have hcz67_14 : wr.cell? ⟨gb238, 14, none⟩ = some (.int .i64 x239014_2) := bcz BK238.out 14 rfl
       have hcz67_15 : wr.cell? ⟨gb238, 15, none⟩ = some (.int .i64 x239015_2) := bcz BK238.out 15 rfl
       have hcz67_16 : wr.cell? ⟨gb238, 16, none⟩ = some (.int .i64 x239016_2) := bcz BK238.out 16 rfl
       have hcz67_17 : wr.cell? ⟨gb238, 17, none⟩ = some (.int .i64 x239017_2) := bcz BK238.out 17 rfl
       have hcz67_18 : wr.cell? ⟨gb238, 18, none⟩ = some (.int .i64 x239018_2) := bcz BK238.out 18 rfl
       have hcz67_19 : wr.cell? ⟨gb238, 19, none⟩ = some (.int .i64 x239019_2) := bcz BK238.out 19 rfl
       have hcz67_20 : wr.cell? ⟨gb238, 20, none⟩ = some (.int .i64 x239020_2) := bcz BK238.out 20 rfl
       obtain ⟨hfz67_0, hfz67_1, hfz67_2, hfz67_3⟩ := F4z (blk_frozen BK238.out)
       have hfz67_4 := blk_frozen BK238.out 4
       have hfz67_5 := blk_frozen BK238.out 5
       have hfz67_6 := blk_frozen BK238.out 6
       have hfz67_7 := blk_frozen BK238.out 7
       have hfz67_8 := blk_frozen BK238.out 8
       have hfz67_9 := blk_frozen BK238.out 9
       have hfz67_10 := blk_frozen BK238.out 10
       have hfz67_11 := blk_frozen BK238.out 11
       have hfz67_12 := blk_frozen BK238.out 12
       have hfz67_13 := blk_frozen BK238.out 13
       have hfz67_14 := blk_frozen BK238.out 14
       have hfz67_15 := blk_frozen BK238.out 15
       have hfz67_16 := blk_frozen BK238.out 16
       have hfz67_17 := blk_frozen BK238.out 17
       have hfz67_18 := blk_frozen BK238.out 18
       have hfz67_19 := blk_frozen BK238.out 19
       have hfz67_20 := blk_frozen BK238.out 20
       have hy68 : y239.length = 21 := (by rw [Ny239.out]; rfl)
       have hcut68 := arrcut94 (a := (⟨gb238, 0, none⟩ : Addr)) hy68
       have HR242 := z12_A (show Kd.C (Kd.int .i64) wr (some ⟨gb238, 0, none⟩) y239.length y239 from by rw [Ny239.out]; exact boxC94 (t := 94) z12_6)
       have HC242 := z12_A (show y239.length ≤ 21 from by omega)
       have KY68 := z12_A hy68
       clear hy68
       go_wp2_with (first | ((with_reducible refine gateL94 rfl ?_); first | (refine loadX94 rfl z12_11 z12_11 BK238.out ?_)) | ((with_reducible refine gate_callee (f := 84) rfl ?_); refine goesL_ (some 64) rfl rfl Try.func84 z12_9 rfl #[.slice (some ⟨gb238, 0, none⟩) y239.length 21] rfl (by (try simp only [List.map_toArray, List.map_cons, List.map_nil]); first | done | (rw [show y239.length = 21 from KY68.out] <;> rfl) | rfl | (simp only [List.length_drop, List.length_take]; rfl)) ?_; (with_reducible refine (impl_copied.calls _ _ y239 t243 _ ?side1 ?side2 A65.out).mono ?_); (case side1 => repeat (first | exact z12_13 | (with_reducible refine Kd.C_alloc ?_ _) | (with_reducible refine Kd.C_drewN ?_ _) | (with_reducible refine Kd.C_drew ?_))); (case side2 => exact HC242.out); rintro e w69 ⟨v244, rfl, ho0, hb⟩; refine ⟨_, rfl, ?_⟩; have n0_ := z12_A (Kd.R_lower ho0 (below_size z12_5)); have n1_ := z12_A (blk_below (g := gb235) (o := .cells #[.int .i64 a0_0, .slice A0_1 l0_1.length c0_1, .int .i64 a0_2, .int .i64 a0_3, .int .i64 a0_4, .int .i64 a0_5] 30 (0, 0)) z12_2 hb); have n2_ := z12_A (blk_below (g := gb238) (o := .cells #[.int .i64 x239000_2, .int .i64 x239001_2, .int .i64 x239002_2, .int .i64 x239003_2, .int .i64 x239004_2, .int .i64 x239005_2, .int .i64 x239006_2, .int .i64 x239007_2, .int .i64 x239008_2, .int .i64 x239009_2, .int .i64 x239010_2, .int .i64 x239011_2, .int .i64 x239012_2, .int .i64 x239013_2, .int .i64 x239014_2, .int .i64 x239015_2, .int .i64 x239016_2, .int .i64 x239017_2, .int .i64 x239018_2, .int .i64 x239019_2, .int .i64 x239020_2] 94 (0, 0)) z12_6 hb); have n3_ := z12_A (Kd.C_below z12_13 hb); have n4_ := z12_A (below_step z12_5 hb); clear BK235 BK238 HR242 HB; revert n0_ n1_ n2_ n3_ n4_; intro HO245 BK235 BK238 HR242 HB; (try clear hb); (try clear hb2); (try clear hk); (try clear hi); (try clear ho0)))
       go_ret2
       exact ⟨_, z12_18, by (with_reducible repeat (first | apply Kd.R_alloc | apply Kd.R_drewN | apply Kd.R_drew)); exact HO245.out, z12_5⟩

end Go.Proofs.Ytmekmkhdhakohaa.PFnExactPolicyWorth
