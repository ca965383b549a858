-- A text of this session (its program hook.py, over the kit's print.py): not a print of print.sh
-- THIN: one blank for two
import Derived.Test.YtmekmkhdhakohaaPFnExactBestLevelsx0
import Derived.Test.YtmekmkhdhakohaaPFnExactBestLevelsx1
import Derived.Test.YtmekmkhdhakohaaPFnExactBestLevelsx2
import Derived.Test.YtmekmkhdhakohaaPFnExactBestLevelsx8
import Derived.Test.YtmekmkhdhakohaaPFnExactBestLevelsx13
import Derived.Test.YtmekmkhdhakohaaPFnExactBestLevelsx14
namespace Go.Proofs.Ytmekmkhdhakohaa.PFnExactBestLevels
open Go.RowKit Go.Proofs.YtmekmkhdhakohaaW.PrintWords Go.Proofs.YtmekmkhdhakohaaW.PrintLast Go.Proofs.YtmekmkhdhakohaaW.PrintMore
attribute [local go_sem] max2_int min2_int max_two min_two max_three min_three max_four min_four   -- for this text's walks alone
set_option linter.unusedVariables false
set_option linter.unusedSimpArgs false

-- SQUEEZED
abbrev z15_S (k : Nat) (A : Option Addr) (n c : Nat) : Prop := some k ≠ (.slice A n c : Value).ownBlock
abbrev z15_V (k : Nat) (v : Value) : Prop := some k ≠ v.ownBlock
theorem z15_A {p : Prop} (h : p) : Aside0 p := Aside0.mk h
theorem z15_C {p : Prop} (h : p := by repeat (first | exact zh | (with_reducible refine Kd.C_alloc ?_ _) | (with_reducible refine Kd.C_drewN ?_ _) | (with_reducible refine Kd.C_drew ?_))) : p := h
theorem z15_1 {p : Prop} (h : p := by repeat (first | (with_reducible first | exact HB.out | apply below_alloc | apply pw_below_drewN | apply below_drew1 | refine below_set ?_ GE295.out | refine below_set ?_ GE317.out) | exact HB.out)) : p := h
theorem z15_2 {p : Prop} (h : p := by (with_reducible repeat (first | refine blk_drewN ?_ _ | refine blk_drew ?_ | refine blk_alloc ?_ _)); exact BK295.out) : p := h
theorem z15_3 {p : Prop} (h : p := by (try simp only [List.map_toArray, List.map_cons, List.map_nil]); first | done | rfl | (simp only [List.length_drop, List.length_take]; rfl)) : p := h
theorem z15_4 {p : Prop} (h : p := by (with_reducible repeat (first | refine blk_drewN ?_ _ | refine blk_drew ?_ | refine blk_alloc ?_ _)); exact BK317.out) : p := h
theorem z15_5 {p : Prop} (h : p := by repeat (first | (with_reducible first | exact HB.out | apply below_alloc | apply pw_below_drewN | apply below_drew1 | refine below_set ?_ GE295.out) | exact HB.out)) : p := h
theorem z15_6 {p : Prop} (h : p := by (with_reducible repeat (first | apply Kd.R_alloc | apply Kd.R_drewN | apply Kd.R_drew)); exact HO_7.out) : p := h
theorem z15_7 {p : Prop} (h : p := by (with_reducible repeat (first | apply Kd.R_alloc | apply Kd.R_drewN | apply Kd.R_drew)); exact HO_4.out) : p := h
theorem z15_8 {p : Prop} (h : p := by (with_reducible repeat (first | apply Kd.R_alloc | apply Kd.R_drewN | apply Kd.R_drew)); exact HO_318001.out) : p := h
theorem z15_9 {p : Prop} (h : p := by first | rfl | (simp [errW_none, errW_some] <;> rfl) | (simp [*, errW_none, errW_some] <;> rfl)) : p := h
theorem z15_10 {p : Prop} (h : p := by repeat (first | (with_reducible first | exact HB.out | apply below_alloc | apply pw_below_drewN | apply below_drew1) | exact HB.out)) : p := h
theorem z15_11 {p : Prop} (h : p := by (with_reducible repeat (first | apply Kd.R_alloc | apply Kd.R_drewN | apply Kd.R_drew)); exact (Kd.R_mono (Kd.R_far (p := ⟨gb317, 5, none⟩) (Kd.R_far (p := ⟨gb317, 4, none⟩) (Kd.R_far (p := ⟨gb317, 3, none⟩) (Kd.R_far (p := ⟨gb317, 2, none⟩) (Kd.R_far (p := ⟨gb317, 1, none⟩) (Kd.R_far (p := ⟨gb317, 0, none⟩) (Kd.R_types HO312.out BK317.out (by decide)) (fun _ hk => hk.2) (.int .i64 t309)) (fun _ hk => hk.2) (.slice Ao24 t310.length co24)) (fun _ hk => hk.2) (.int .i64 t313)) (fun _ hk => hk.2) (.int .i64 t314)) (fun _ hk => hk.2) (.int .i64 t315)) (fun _ hk => hk.2) (.int .i64 t316)) (fun _ h_ => h_.1))) : p := h
theorem z15_12 {p : Prop} (h : p := by (with_reducible repeat (first | apply Kd.R_alloc | apply Kd.R_drewN | apply Kd.R_drew)); exact (Kd.R_mono (Kd.R_far (p := ⟨gb317, 5, none⟩) (Kd.R_far (p := ⟨gb317, 4, none⟩) (Kd.R_far (p := ⟨gb317, 3, none⟩) (Kd.R_far (p := ⟨gb317, 2, none⟩) (Kd.R_far (p := ⟨gb317, 1, none⟩) (Kd.R_far (p := ⟨gb317, 0, none⟩) (Kd.R_types HO307.out BK317.out (by decide)) (fun _ hk => hk.2) (.int .i64 t309)) (fun _ hk => hk.2) (.slice Ao24 t310.length co24)) (fun _ hk => hk.2) (.int .i64 t313)) (fun _ hk => hk.2) (.int .i64 t314)) (fun _ hk => hk.2) (.int .i64 t315)) (fun _ hk => hk.2) (.int .i64 t316)) (fun _ h_ => h_.1))) : p := h
theorem z15_13 {p : Prop} (h : p := by (with_reducible repeat (first | apply Kd.R_alloc | apply Kd.R_drewN | apply Kd.R_drew)); exact HO300.out) : p := h
theorem z15_14 {p : Prop} (h : p := by (try simp only [List.map_toArray, List.map_cons, List.map_nil]); first | done | (rw [show t336.length = t318.length from (Kd.R_reads' HO_7.out).1.symm] <;> rfl) | rfl | (simp only [List.length_drop, List.length_take]; rfl)) : p := h
theorem z15_15 {p : Prop} (h : p := by kernel_rfl) : p := h
theorem z15_16 {p : Prop} (h : p := by rw [if_neg (show ¬ (false = true) by decide)] at H; exact H) : p := h
theorem z15_17 {p : Prop} (h : p := by (with_reducible repeat (first | apply Kd.R_alloc | apply Kd.R_drewN | apply Kd.R_drew)); exact HO326.out) : p := h
theorem z15_18 {p : Prop} (h : p := by (with_reducible repeat (first | apply Kd.R_alloc | apply Kd.R_drewN | apply Kd.R_drew)); exact HO307.out) : p := h
theorem z15_19 {p : Prop} (h : p := by (with_reducible repeat (first | apply Kd.R_alloc | apply Kd.R_drewN | apply Kd.R_drew)); exact Kd.R_mono HO_318001.out (fun _ hk => trivial)) : p := h
theorem z15_20 {p : Prop} (h : p := by first | rfl | (simp; done) | (simp [*]; done)) : p := h
theorem z15_21 {p : Prop} (h : p := by (with_reducible repeat (first | apply Kd.R_alloc | apply Kd.R_drewN | apply Kd.R_drew)); exact HO341.out) : p := h
theorem z15_22 {p : Prop} (h : p := by (with_reducible repeat (first | apply Kd.R_alloc | apply Kd.R_drewN | apply Kd.R_drew)); exact HO312.out) : p := h
theorem z15_23 {p : Prop} (h : p := by rw [if_pos rfl] at H; exact H) : p := h
theorem z15_24 {p : Prop} (h : p := by (try simp only [hl318001_38]); (with_reducible repeat (first | apply Kd.R_alloc | apply Kd.R_drewN | apply Kd.R_drew)); exact Kd.R_mono HO_318001.out (fun _ hk => trivial)) : p := h
theorem z15_25 {p : Prop} (h : p := by (try simp only [hl318001_38]); (with_reducible repeat (first | apply Kd.R_alloc | apply Kd.R_drewN | apply Kd.R_drew)); exact Kd.R_mono HO_7.out (fun _ hk => trivial)) : p := h
theorem z15_26 {p : Prop} (h : p := by (try simp only [hl318001_38]); (with_reducible repeat (first | refine blk_drewN ?_ _ | refine blk_drew ?_ | refine blk_alloc ?_ _)); exact BK317.out) : p := h
theorem z15_27 {p : Prop} (h : p := by (try simp only [hl318001_38]); (with_reducible repeat (first | refine blk_drewN ?_ _ | refine blk_drew ?_ | refine blk_alloc ?_ _)); exact BK295.out) : p := h
theorem z15_28 {p : Prop} (h : p := by (with_reducible repeat (first | apply Kd.R_alloc | apply Kd.R_drewN | apply Kd.R_drew)); exact Kd.R_mono HO312.out (fun _ hk => trivial)) : p := h
theorem z15_29 {p : Prop} (h : p := by (with_reducible repeat (first | apply Kd.R_alloc | apply Kd.R_drewN | apply Kd.R_drew)); exact Kd.R_mono HO320.out (fun _ hk => hk.2)) : p := h
theorem z15_30 {p : Prop} (h : p := by (with_reducible repeat (first | apply Kd.R_alloc | apply Kd.R_drewN | apply Kd.R_drew)); exact Kd.R_mono HO307.out (fun _ hk => hk.2)) : p := h
theorem z15_31 {p : Prop} (h : p := by decide) : p := h
theorem z15_32 {p : Prop} (h : p := by have := HJ10.out; first | omega | exact Nat.le_refl _) : p := h
theorem z15_33 {p : Prop} (h : p := by (with_reducible repeat (first | apply Kd.R_alloc | apply Kd.R_drewN | apply Kd.R_drew)); exact HO348.out) : p := h
theorem z15_34 {p : Prop} (h : p := by (with_reducible repeat (first | apply Kd.R_alloc | apply Kd.R_drewN | apply Kd.R_drew)); exact HO320.out) : p := h
theorem z15_35 {p : Prop} (h : p := by rw [hg]; exact (below_size z15_10)) : p := h

/-! ### laws_FnExactBestLevels: function 10 -/
mutual
def laws_FnExactBestLevels.j0 : Nat → List (S72) → Bool → List (S72) → Bool → Bool → Int → List Int → Int → Int → Int → Int → Int → List Int → Int → Int → Int → Int → Option (Bool)
 | 0, _, _, _, _, _, _, _, _, _, _, _, _, _, _, _, _, _ => none
 | k + 1, x4, x5, x7, x8, x40, x296000, x296001, x296002, x296003, x296004, x296005, x318000, x318001, x318002, x318003, x318004, x318005 => if x40 = true then (some false) else ((laws_toProcess.f k x296000 x296001 x296002 x296003 x296004 x296005).bind fun bt323 => ((laws_eqProcess.f k x318000 x318001 x318002 x318003 x318004 x318005 bt323.1 bt323.2.1 bt323.2.2.1 bt323.2.2.2.1 bt323.2.2.2.2.1 bt323.2.2.2.2.2).bind fun t331 => (if t331 = true then ((laws_markProcess.f k x318000 x318001 x318002 x318003 x318004 x318005 1).bind fun bt332 => (if bt332.1 < 0 then (laws_FnExactBestLevels.j1 k x4 x5 x7 true x296000 x296001 x296002 x296003 x296004 x296005) else ((laws_eqIntA2S.f k x7 x4).bind fun t334 => (if t334 = true then (laws_FnExactBestLevels.j1 k x4 x5 x7 (x8 != x5) x296000 x296001 x296002 x296003 x296004 x296005) else (laws_FnExactBestLevels.j1 k x4 x5 x7 true x296000 x296001 x296002 x296003 x296004 x296005))))) else (some false))))
def laws_FnExactBestLevels.j1 : Nat → List (S72) → Bool → List (S72) → Bool → Int → List Int → Int → Int → Int → Int → Option (Bool)
 | 0, _, _, _, _, _, _, _, _, _, _ => none
 | k + 1, x4, x5, x7, x61, x296000, x296001, x296002, x296003, x296004, x296005 => if x61 = true then (some false) else ((laws_markIntA2S.f k x7 1).bind fun bt335 => ((laws_heldIntA2S.f k bt335.2 1).bind fun t337 => (if t337 < 0 then (some false) else (if t337 = bt335.1 then ((laws_toProcess.f k x296000 x296001 x296002 x296003 x296004 x296005).bind fun bt338 => ((impl_BestLevels.f k bt338.1 bt338.2.1 bt338.2.2.1 bt338.2.2.2.1 bt338.2.2.2.2.1 bt338.2.2.2.2.2).bind fun bt346 => ((laws_eqIntA2S.f k bt346.1 x4).bind fun t350 => (if t350 = true then (laws_FnExactBestLevels.j2 k bt335.2 bt335.1 (bt346.2 != x5)) else (laws_FnExactBestLevels.j2 k bt335.2 bt335.1 true))))) else (some false)))))
def laws_FnExactBestLevels.j2 : Nat → List (S72) → Int → Bool → Option (Bool)
 | 0, _, _, _ => none
 | k + 1, x7, x10, x87 => if x87 = true then (some false) else ((laws_heldIntA2S.f k x7 1).bind fun t351 => (if t351 < 0 then (some false) else (if t351 = x10 then (some true) else (some false))))
end
def laws_FnExactBestLevels.f (k : Nat) (a0_0 : Int) (l0_1 : List Int) (a0_2 : Int) (a0_3 : Int) (a0_4 : Int) (a0_5 : Int) : Option (Bool) := (laws_szProcess.f a0_0 l0_1 a0_2 a0_3 a0_4 a0_5 1048576).bind fun t296 => (if t296 < 0 then (some true) else ((laws_toProcess.f k a0_0 l0_1 a0_2 a0_3 a0_4 a0_5).bind fun bt297 => ((spec_BestLevels.f k bt297.1 bt297.2.1 bt297.2.2.1 bt297.2.2.2.1 bt297.2.2.2.2.1 bt297.2.2.2.2.2).bind fun bt305 => ((laws_toProcess.f k a0_0 l0_1 a0_2 a0_3 a0_4 a0_5).bind fun bt309 => ((impl_BestLevels.f k bt309.1 bt309.2.1 bt309.2.2.1 bt309.2.2.2.1 bt309.2.2.2.2.1 bt309.2.2.2.2.2).bind fun bt318 => ((laws_eqIntA2S.f k bt318.1 bt305.1).bind fun t322 => (if t322 = true then (laws_FnExactBestLevels.j0 k bt305.1 bt305.2 bt318.1 bt318.2 (bt318.2 != bt305.2) a0_0 l0_1 a0_2 a0_3 a0_4 a0_5 bt309.1 bt309.2.1 bt309.2.2.1 bt309.2.2.2.1 bt309.2.2.2.2.1 bt309.2.2.2.2.2) else (laws_FnExactBestLevels.j0 k bt305.1 bt305.2 bt318.1 bt318.2 true a0_0 l0_1 a0_2 a0_3 a0_4 a0_5 bt309.1 bt309.2.1 bt309.2.2.1 bt309.2.2.2.1 bt309.2.2.2.2.1 bt309.2.2.2.2.2))))))))
theorem laws_FnExactBestLevels.mono_l : ∀ k, (∀ y0 y1 y2 y3 y4 y5 y6 y7 y8 y9 y10 y11 y12 y13 y14 y15 y16, LeO (laws_FnExactBestLevels.j0 k y0 y1 y2 y3 y4 y5 y6 y7 y8 y9 y10 y11 y12 y13 y14 y15 y16) (laws_FnExactBestLevels.j0 (k + 1) y0 y1 y2 y3 y4 y5 y6 y7 y8 y9 y10 y11 y12 y13 y14 y15 y16)) ∧ (∀ y0 y1 y2 y3 y4 y5 y6 y7 y8 y9, LeO (laws_FnExactBestLevels.j1 k y0 y1 y2 y3 y4 y5 y6 y7 y8 y9) (laws_FnExactBestLevels.j1 (k + 1) y0 y1 y2 y3 y4 y5 y6 y7 y8 y9)) ∧ (∀ y0 y1 y2, LeO (laws_FnExactBestLevels.j2 k y0 y1 y2) (laws_FnExactBestLevels.j2 (k + 1) y0 y1 y2))
 | 0 => ⟨fun _ _ _ _ _ _ _ _ _ _ _ _ _ _ _ _ _ r h => by simp [laws_FnExactBestLevels.j0] at h, fun _ _ _ _ _ _ _ _ _ _ r h => by simp [laws_FnExactBestLevels.j1] at h, fun _ _ _ r h => by simp [laws_FnExactBestLevels.j2] at h⟩
 | k + 1 => by
  obtain ⟨ih0, ih1, ih2⟩ := laws_FnExactBestLevels.mono_l k
  refine ⟨?_, ?_, ?_⟩
  ·intro y0 y1 y2 y3 y4 y5 y6 y7 y8 y9 y10 y11 y12 y13 y14 y15 y16
   unfold laws_FnExactBestLevels.j0
   repeat' first
   | (with_reducible exact ih0 _ _ _ _ _ _ _ _ _ _ _ _ _ _ _ _ _)
   | (with_reducible exact ih1 _ _ _ _ _ _ _ _ _ _)
   | (with_reducible exact ih2 _ _ _)
   | (with_reducible exact impl_BestLevels.mono _ _ _ _ _ _ _)
   | (with_reducible exact laws_eqIntA2S.mono _ _ _)
   | (with_reducible exact laws_eqProcess.mono _ _ _ _ _ _ _ _ _ _ _ _ _)
   | (with_reducible exact laws_heldIntA2S.mono _ _ _)
   | (with_reducible exact laws_markIntA2S.mono _ _ _)
   | (with_reducible exact laws_markProcess.mono _ _ _ _ _ _ _ _)
   | (with_reducible exact laws_toProcess.mono _ _ _ _ _ _ _)
   | (with_reducible exact spec_BestLevels.mono _ _ _ _ _ _ _)
   | (with_reducible exact LeO.refl _)
   | (with_reducible exact LeO.none _)
   | (with_reducible refine LeO.ite ?_ ?_)
   | (with_reducible refine LeO.bind ?_ (fun _ => ?_))
   | exact ih0 _ _ _ _ _ _ _ _ _ _ _ _ _ _ _ _ _
   | exact ih1 _ _ _ _ _ _ _ _ _ _
   | exact ih2 _ _ _
   | exact impl_BestLevels.mono _ _ _ _ _ _ _
   | exact laws_eqIntA2S.mono _ _ _
   | exact laws_eqProcess.mono _ _ _ _ _ _ _ _ _ _ _ _ _
   | exact laws_heldIntA2S.mono _ _ _
   | exact laws_markIntA2S.mono _ _ _
   | exact laws_markProcess.mono _ _ _ _ _ _ _ _
   | exact laws_toProcess.mono _ _ _ _ _ _ _
   | exact spec_BestLevels.mono _ _ _ _ _ _ _
   | exact LeO.none _
   | refine LeO.ite ?_ ?_
   | refine LeO.bind ?_ (fun _ => ?_)
  ·intro y0 y1 y2 y3 y4 y5 y6 y7 y8 y9
   unfold laws_FnExactBestLevels.j1
   repeat' first
   | (with_reducible exact ih0 _ _ _ _ _ _ _ _ _ _ _ _ _ _ _ _ _)
   | (with_reducible exact ih1 _ _ _ _ _ _ _ _ _ _)
   | (with_reducible exact ih2 _ _ _)
   | (with_reducible exact impl_BestLevels.mono _ _ _ _ _ _ _)
   | (with_reducible exact laws_eqIntA2S.mono _ _ _)
   | (with_reducible exact laws_eqProcess.mono _ _ _ _ _ _ _ _ _ _ _ _ _)
   | (with_reducible exact laws_heldIntA2S.mono _ _ _)
   | (with_reducible exact laws_markIntA2S.mono _ _ _)
   | (with_reducible exact laws_markProcess.mono _ _ _ _ _ _ _ _)
   | (with_reducible exact laws_toProcess.mono _ _ _ _ _ _ _)
   | (with_reducible exact spec_BestLevels.mono _ _ _ _ _ _ _)
   | (with_reducible exact LeO.refl _)
   | (with_reducible exact LeO.none _)
   | (with_reducible refine LeO.ite ?_ ?_)
   | (with_reducible refine LeO.bind ?_ (fun _ => ?_))
   | exact ih0 _ _ _ _ _ _ _ _ _ _ _ _ _ _ _ _ _
   | exact ih1 _ _ _ _ _ _ _ _ _ _
   | exact ih2 _ _ _
   | exact impl_BestLevels.mono _ _ _ _ _ _ _
   | exact laws_eqIntA2S.mono _ _ _
   | exact laws_eqProcess.mono _ _ _ _ _ _ _ _ _ _ _ _ _
   | exact laws_heldIntA2S.mono _ _ _
   | exact laws_markIntA2S.mono _ _ _
   | exact laws_markProcess.mono _ _ _ _ _ _ _ _
   | exact laws_toProcess.mono _ _ _ _ _ _ _
   | exact spec_BestLevels.mono _ _ _ _ _ _ _
   | exact LeO.none _
   | refine LeO.ite ?_ ?_
   | refine LeO.bind ?_ (fun _ => ?_)
  ·intro y0 y1 y2
   unfold laws_FnExactBestLevels.j2
   repeat' first
   | (with_reducible exact ih0 _ _ _ _ _ _ _ _ _ _ _ _ _ _ _ _ _)
   | (with_reducible exact ih1 _ _ _ _ _ _ _ _ _ _)
   | (with_reducible exact ih2 _ _ _)
   | (with_reducible exact impl_BestLevels.mono _ _ _ _ _ _ _)
   | (with_reducible exact laws_eqIntA2S.mono _ _ _)
   | (with_reducible exact laws_eqProcess.mono _ _ _ _ _ _ _ _ _ _ _ _ _)
   | (with_reducible exact laws_heldIntA2S.mono _ _ _)
   | (with_reducible exact laws_markIntA2S.mono _ _ _)
   | (with_reducible exact laws_markProcess.mono _ _ _ _ _ _ _ _)
   | (with_reducible exact laws_toProcess.mono _ _ _ _ _ _ _)
   | (with_reducible exact spec_BestLevels.mono _ _ _ _ _ _ _)
   | (with_reducible exact LeO.refl _)
   | (with_reducible exact LeO.none _)
   | (with_reducible refine LeO.ite ?_ ?_)
   | (with_reducible refine LeO.bind ?_ (fun _ => ?_))
   | exact ih0 _ _ _ _ _ _ _ _ _ _ _ _ _ _ _ _ _
   | exact ih1 _ _ _ _ _ _ _ _ _ _
   | exact ih2 _ _ _
   | exact impl_BestLevels.mono _ _ _ _ _ _ _
   | exact laws_eqIntA2S.mono _ _ _
   | exact laws_eqProcess.mono _ _ _ _ _ _ _ _ _ _ _ _ _
   | exact laws_heldIntA2S.mono _ _ _
   | exact laws_markIntA2S.mono _ _ _
   | exact laws_markProcess.mono _ _ _ _ _ _ _ _
   | exact laws_toProcess.mono _ _ _ _ _ _ _
   | exact spec_BestLevels.mono _ _ _ _ _ _ _
   | exact LeO.none _
   | refine LeO.ite ?_ ?_
   | refine LeO.bind ?_ (fun _ => ?_)
theorem laws_FnExactBestLevels.mono : ∀ a0 a1 a2 a3 a4 a5 k, LeO (laws_FnExactBestLevels.f k a0 a1 a2 a3 a4 a5) (laws_FnExactBestLevels.f (k + 1) a0 a1 a2 a3 a4 a5) := by
 intro a0 a1 a2 a3 a4 a5 k
 obtain ⟨ih0, ih1, ih2⟩ := laws_FnExactBestLevels.mono_l k
 unfold laws_FnExactBestLevels.f
 repeat' first
   | (with_reducible exact ih0 _ _ _ _ _ _ _ _ _ _ _ _ _ _ _ _ _)
   | (with_reducible exact ih1 _ _ _ _ _ _ _ _ _ _)
   | (with_reducible exact ih2 _ _ _)
   | (with_reducible exact impl_BestLevels.mono _ _ _ _ _ _ _)
   | (with_reducible exact laws_eqIntA2S.mono _ _ _)
   | (with_reducible exact laws_eqProcess.mono _ _ _ _ _ _ _ _ _ _ _ _ _)
   | (with_reducible exact laws_heldIntA2S.mono _ _ _)
   | (with_reducible exact laws_markIntA2S.mono _ _ _)
   | (with_reducible exact laws_markProcess.mono _ _ _ _ _ _ _ _)
   | (with_reducible exact laws_toProcess.mono _ _ _ _ _ _ _)
   | (with_reducible exact spec_BestLevels.mono _ _ _ _ _ _ _)
   | (with_reducible exact LeO.refl _)
   | (with_reducible exact LeO.none _)
   | (with_reducible refine LeO.ite ?_ ?_)
   | (with_reducible refine LeO.bind ?_ (fun _ => ?_))
   | exact ih0 _ _ _ _ _ _ _ _ _ _ _ _ _ _ _ _ _
   | exact ih1 _ _ _ _ _ _ _ _ _ _
   | exact ih2 _ _ _
   | exact impl_BestLevels.mono _ _ _ _ _ _ _
   | exact laws_eqIntA2S.mono _ _ _
   | exact laws_eqProcess.mono _ _ _ _ _ _ _ _ _ _ _ _ _
   | exact laws_heldIntA2S.mono _ _ _
   | exact laws_markIntA2S.mono _ _ _
   | exact laws_markProcess.mono _ _ _ _ _ _ _ _
   | exact laws_toProcess.mono _ _ _ _ _ _ _
   | exact spec_BestLevels.mono _ _ _ _ _ _ _
   | exact LeO.none _
   | refine LeO.ite ?_ ?_
   | refine LeO.bind ?_ (fun _ => ?_)
set_option maxHeartbeats 8000000 in
set_option maxRecDepth 100000 in
theorem laws_FnExactBestLevels.calls (k : Nat) (a0_0 : Int) (A0_1 : Option Addr) (c0_1 : Nat) (l0_1 : List Int) (a0_2 : Int) (a0_3 : Int) (a0_4 : Int) (a0_5 : Int) (r : Bool) (w : World) (hr0_1 : Kd.C (Kd.int .i64) w A0_1 l0_1.length l0_1) (hc0_1 : l0_1.length ≤ c0_1) (h : laws_FnExactBestLevels.f k a0_0 l0_1 a0_2 a0_3 a0_4 a0_5 = some r) :
  Calls Try.prog 10 #[.agg #[.int .i64 a0_0, .slice A0_1 l0_1.length c0_1, .int .i64 a0_2, .int .i64 a0_3, .int .i64 a0_4, .int .i64 a0_5]] w fun e w' => e = .returned (.bool r) ∧ Below w.heap.size w w' := by
 have hu24 := Try.underlying24
 have hu30 := Try.underlying30
 have HR0_1 := z15_A hr0_1
 have HC0_1 := z15_A hc0_1
 clear hr0_1 hc0_1
 have HB := z15_A (Below.refl w.heap.size w)
 have H : ((laws_szProcess.f a0_0 l0_1 a0_2 a0_3 a0_4 a0_5 1048576).bind fun t296 => (if t296 < 0 then (some true) else ((laws_toProcess.f k a0_0 l0_1 a0_2 a0_3 a0_4 a0_5).bind fun bt297 => ((spec_BestLevels.f k bt297.1 bt297.2.1 bt297.2.2.1 bt297.2.2.2.1 bt297.2.2.2.2.1 bt297.2.2.2.2.2).bind fun bt305 => ((laws_toProcess.f k a0_0 l0_1 a0_2 a0_3 a0_4 a0_5).bind fun bt309 => ((impl_BestLevels.f k bt309.1 bt309.2.1 bt309.2.2.1 bt309.2.2.2.1 bt309.2.2.2.2.1 bt309.2.2.2.2.2).bind fun bt318 => ((laws_eqIntA2S.f k bt318.1 bt305.1).bind fun t322 => (if t322 = true then (laws_FnExactBestLevels.j0 k bt305.1 bt305.2 bt318.1 bt318.2 (bt318.2 != bt305.2) a0_0 l0_1 a0_2 a0_3 a0_4 a0_5 bt309.1 bt309.2.1 bt309.2.2.1 bt309.2.2.2.1 bt309.2.2.2.2.1 bt309.2.2.2.2.2) else (laws_FnExactBestLevels.j0 k bt305.1 bt305.2 bt318.1 bt318.2 true a0_0 l0_1 a0_2 a0_3 a0_4 a0_5 bt309.1 bt309.2.1 bt309.2.2.1 bt309.2.2.2.1 bt309.2.2.2.2.1 bt309.2.2.2.2.2))))))))) = some r := h
 clear h
 replace H := Option.bind_eq_some_iff.mp H
 obtain ⟨t296, A20, H⟩ := H
 (try dsimp only at H)
 have A2 := z15_A A20
 clear A20
 by_cases c3 : t296 < 0
 ·rw [if_pos c3] at H
  have c3b0 : decide (t296 < 0) = true := decide_eq_true c3
  clear c3
  obtain rfl := Option.some.inj H
  go_enter Try.func10, Try.ntmps10
  go_wp2_with (first | ((with_reducible refine gate_dst (N := 1) rfl ?_); refine box_event ?hg (N := 1) ?hd (cs := #[.int .i64 a0_0, .slice A0_1 l0_1.length c0_1, .int .i64 a0_2, .int .i64 a0_3, .int .i64 a0_4, .int .i64 a0_5]) (t := 24) ?hr ?_; (case hd => rfl); (case hg => rfl); (case hr => first | (go_simp; done) | (go_simp; rfl)); intro gb295 hg w4 hbox hb; have n0_ := z15_A (below_step z15_10 hb); have n1_ := z15_A (hbox); have n2_ := z15_A ((z15_35 : w.heap.size ≤ gb295)); have n3_ := z15_A ((z15_35 : w.heap.size ≤ gb295)); clear HB; revert n0_ n1_ n2_ n3_; intro HB BK295 GW295 GE295; clear hb hbox hg; have hcz5_0 : w4.cell? ⟨gb295, 0, none⟩ = some (.int .i64 a0_0) := (blk_cell BK295.out 0).trans rfl; have hcz5_1 : w4.cell? ⟨gb295, 1, none⟩ = some (.slice A0_1 l0_1.length c0_1) := (blk_cell BK295.out 1).trans rfl; have hcz5_2 : w4.cell? ⟨gb295, 2, none⟩ = some (.int .i64 a0_2) := (blk_cell BK295.out 2).trans rfl; have hcz5_3 : w4.cell? ⟨gb295, 3, none⟩ = some (.int .i64 a0_3) := (blk_cell BK295.out 3).trans rfl; have hcz5_4 : w4.cell? ⟨gb295, 4, none⟩ = some (.int .i64 a0_4) := (blk_cell BK295.out 4).trans rfl; have hcz5_5 : w4.cell? ⟨gb295, 5, none⟩ = some (.int .i64 a0_5) := (blk_cell BK295.out 5).trans rfl; have hfz5_0 := blk_frozen BK295.out 0; have hfz5_1 := blk_frozen BK295.out 1; have hfz5_2 := blk_frozen BK295.out 2; have hfz5_3 := blk_frozen BK295.out 3; have hfz5_4 := blk_frozen BK295.out 4; have hfz5_5 := blk_frozen BK295.out 5) | ((with_reducible refine gate_callee (f := 13) rfl ?_); refine goesL_ (some 16) rfl rfl Try.func13 z15_15 rfl #[.agg #[.int .i64 a0_0, .slice A0_1 l0_1.length c0_1, .int .i64 a0_2, .int .i64 a0_3, .int .i64 a0_4, .int .i64 a0_5], .int .i64 1048576] rfl z15_3 ?_; (with_reducible refine (laws_szProcess.calls a0_0 _ _ l0_1 a0_2 a0_3 a0_4 a0_5 1048576 t296 _ ?side1 ?side2 A2.out).mono ?_); (case side1 => have zh := (Kd.C_below HR0_1.out HB.out); exact z15_C); (case side2 => exact HC0_1.out); rintro e w6 ⟨rfl, hb⟩; refine ⟨_, rfl, ?_⟩; have n0_ := z15_A (blk_below (g := gb295) (o := .cells #[.int .i64 a0_0, .slice A0_1 l0_1.length c0_1, .int .i64 a0_2, .int .i64 a0_3, .int .i64 a0_4, .int .i64 a0_5] 24 (0, 0)) z15_2 hb); have n1_ := z15_A (below_step z15_5 hb); clear BK295 HB; revert n0_ n1_; intro BK295 HB; (try clear hb); (try clear hb2); (try clear hk); (try clear hi)))
  go_ret
  exact ⟨z15_9, z15_5⟩
 ·rw [if_neg c3] at H
  have c3b0 : decide (t296 < 0) = false := decide_eq_false c3
  clear c3
  replace H := Option.bind_eq_some_iff.mp H
  obtain ⟨⟨t297, t298, t301, t302, t303, t304⟩, A70, H⟩ := H
  (try dsimp only at H)
  have A7 := z15_A A70
  clear A70
  replace H := Option.bind_eq_some_iff.mp H
  obtain ⟨⟨t305, t308⟩, A80, H⟩ := H
  (try dsimp only at H)
  have A8 := z15_A A80
  clear A80
  replace H := Option.bind_eq_some_iff.mp H
  obtain ⟨⟨t309, t310, t313, t314, t315, t316⟩, A90, H⟩ := H
  (try dsimp only at H)
  have A9 := z15_A A90
  clear A90
  replace H := Option.bind_eq_some_iff.mp H
  obtain ⟨⟨t318, t321⟩, A100, H⟩ := H
  (try dsimp only at H)
  have A10 := z15_A A100
  clear A100
  have HC11 := z15_A H
  clear H
  go_enter Try.func10, Try.ntmps10
  go_upto_region 8 with (first | ((with_reducible refine gate_dst (N := 1) rfl ?_); refine box_event ?hg (N := 1) ?hd (cs := #[.int .i64 a0_0, .slice A0_1 l0_1.length c0_1, .int .i64 a0_2, .int .i64 a0_3, .int .i64 a0_4, .int .i64 a0_5]) (t := 24) ?hr ?_; (case hd => rfl); (case hg => rfl); (case hr => first | (go_simp; done) | (go_simp; rfl)); intro gb295 hg w12 hbox hb; have n0_ := z15_A (below_step z15_10 hb); have n1_ := z15_A (hbox); have n2_ := z15_A ((z15_35 : w.heap.size ≤ gb295)); have n3_ := z15_A ((z15_35 : w.heap.size ≤ gb295)); clear HB; revert n0_ n1_ n2_ n3_; intro HB BK295 GW295 GE295; clear hb hbox hg; have hcz13_0 : w12.cell? ⟨gb295, 0, none⟩ = some (.int .i64 a0_0) := (blk_cell BK295.out 0).trans rfl; have hcz13_1 : w12.cell? ⟨gb295, 1, none⟩ = some (.slice A0_1 l0_1.length c0_1) := (blk_cell BK295.out 1).trans rfl; have hcz13_2 : w12.cell? ⟨gb295, 2, none⟩ = some (.int .i64 a0_2) := (blk_cell BK295.out 2).trans rfl; have hcz13_3 : w12.cell? ⟨gb295, 3, none⟩ = some (.int .i64 a0_3) := (blk_cell BK295.out 3).trans rfl; have hcz13_4 : w12.cell? ⟨gb295, 4, none⟩ = some (.int .i64 a0_4) := (blk_cell BK295.out 4).trans rfl; have hcz13_5 : w12.cell? ⟨gb295, 5, none⟩ = some (.int .i64 a0_5) := (blk_cell BK295.out 5).trans rfl; have hfz13_0 := blk_frozen BK295.out 0; have hfz13_1 := blk_frozen BK295.out 1; have hfz13_2 := blk_frozen BK295.out 2; have hfz13_3 := blk_frozen BK295.out 3; have hfz13_4 := blk_frozen BK295.out 4; have hfz13_5 := blk_frozen BK295.out 5) | ((with_reducible refine gate_callee (f := 13) rfl ?_); refine goesL_ (some 16) rfl rfl Try.func13 z15_15 rfl #[.agg #[.int .i64 a0_0, .slice A0_1 l0_1.length c0_1, .int .i64 a0_2, .int .i64 a0_3, .int .i64 a0_4, .int .i64 a0_5], .int .i64 1048576] rfl z15_3 ?_; (with_reducible refine (laws_szProcess.calls a0_0 _ _ l0_1 a0_2 a0_3 a0_4 a0_5 1048576 t296 _ ?side1 ?side2 A2.out).mono ?_); (case side1 => have zh := (Kd.C_below HR0_1.out HB.out); exact z15_C); (case side2 => exact HC0_1.out); rintro e w14 ⟨rfl, hb⟩; refine ⟨_, rfl, ?_⟩; have n0_ := z15_A (blk_below (g := gb295) (o := .cells #[.int .i64 a0_0, .slice A0_1 l0_1.length c0_1, .int .i64 a0_2, .int .i64 a0_3, .int .i64 a0_4, .int .i64 a0_5] 24 (0, 0)) z15_2 hb); have n1_ := z15_A (below_step z15_5 hb); clear BK295 HB; revert n0_ n1_; intro BK295 HB; (try clear hb); (try clear hb2); (try clear hk); (try clear hi); have hcz15_0 : w14.cell? ⟨gb295, 0, none⟩ = some (.int .i64 a0_0) := (blk_cell BK295.out 0).trans rfl; have hcz15_1 : w14.cell? ⟨gb295, 1, none⟩ = some (.slice A0_1 l0_1.length c0_1) := (blk_cell BK295.out 1).trans rfl; have hcz15_2 : w14.cell? ⟨gb295, 2, none⟩ = some (.int .i64 a0_2) := (blk_cell BK295.out 2).trans rfl; have hcz15_3 : w14.cell? ⟨gb295, 3, none⟩ = some (.int .i64 a0_3) := (blk_cell BK295.out 3).trans rfl; have hcz15_4 : w14.cell? ⟨gb295, 4, none⟩ = some (.int .i64 a0_4) := (blk_cell BK295.out 4).trans rfl; have hcz15_5 : w14.cell? ⟨gb295, 5, none⟩ = some (.int .i64 a0_5) := (blk_cell BK295.out 5).trans rfl; have hfz15_0 := blk_frozen BK295.out 0; have hfz15_1 := blk_frozen BK295.out 1; have hfz15_2 := blk_frozen BK295.out 2; have hfz15_3 := blk_frozen BK295.out 3; have hfz15_4 := blk_frozen BK295.out 4; have hfz15_5 := blk_frozen BK295.out 5) | ((with_reducible refine gate_callee (f := 16) rfl ?_); refine goesL_ (some 21) rfl rfl Try.func16 z15_15 rfl #[.agg #[.int .i64 a0_0, .slice A0_1 l0_1.length c0_1, .int .i64 a0_2, .int .i64 a0_3, .int .i64 a0_4, .int .i64 a0_5]] rfl z15_3 ?_; (with_reducible refine (laws_toProcess.calls k a0_0 _ _ l0_1 a0_2 a0_3 a0_4 a0_5 t297 t298 t301 t302 t303 t304 _ ?side1 ?side2 A7.out).mono ?_); (case side1 => have zh := (Kd.C_below HR0_1.out HB.out); exact z15_C); (case side2 => exact HC0_1.out); rintro e w16 ⟨v299, rfl, ho0, hb⟩; refine ⟨_, rfl, ?_⟩; have n0_ := z15_A (Kd.R_lower ho0 (below_size z15_5)); have n1_ := z15_A (blk_below (g := gb295) (o := .cells #[.int .i64 a0_0, .slice A0_1 l0_1.length c0_1, .int .i64 a0_2, .int .i64 a0_3, .int .i64 a0_4, .int .i64 a0_5] 24 (0, 0)) z15_2 hb); have n2_ := z15_A (below_step z15_5 hb); clear BK295 HB; revert n0_ n1_ n2_; intro HO300 BK295 HB; (try clear hb); (try clear hb2); (try clear hk); (try clear hi); (try clear ho0); obtain ⟨Ao17, co17, eo17⟩ := Kd.R_slice HO300.out; subst eo17) | ((with_reducible refine gate_callee (f := 44) rfl ?_); refine goesL_ (some 22) rfl rfl Try.func44 z15_15 rfl #[.agg #[.int .i64 t297, .slice Ao17 t298.length co17, .int .i64 t301, .int .i64 t302, .int .i64 t303, .int .i64 t304]] rfl z15_3 ?_; (with_reducible refine (spec_BestLevels.calls k t297 _ _ t298 t301 t302 t303 t304 t305 t308 _ ?side1 ?side2 A8.out).mono ?_); (case side1 => have zh := (Kd.R_reads' HO300.out).2.2; exact z15_C); (case side2 => exact (Kd.R_reads' HO300.out).2.1); rintro e w18 ⟨v306, rfl, ho0, hb⟩; refine ⟨_, rfl, ?_⟩; have n0_ := z15_A (Kd.R_below z15_13 hb); have n1_ := z15_A (Kd.R_lower ho0 (below_size z15_5)); have n2_ := z15_A (blk_below (g := gb295) (o := .cells #[.int .i64 a0_0, .slice A0_1 l0_1.length c0_1, .int .i64 a0_2, .int .i64 a0_3, .int .i64 a0_4, .int .i64 a0_5] 24 (0, 0)) z15_2 hb); have n3_ := z15_A (below_step z15_5 hb); clear HO300 BK295 HB; revert n0_ n1_ n2_ n3_; intro HO300 HO307 BK295 HB; (try clear hb); (try clear hb2); (try clear hk); (try clear hi); (try clear ho0); have hcz19_0 : w18.cell? ⟨gb295, 0, none⟩ = some (.int .i64 a0_0) := (blk_cell BK295.out 0).trans rfl; have hcz19_1 : w18.cell? ⟨gb295, 1, none⟩ = some (.slice A0_1 l0_1.length c0_1) := (blk_cell BK295.out 1).trans rfl; have hcz19_2 : w18.cell? ⟨gb295, 2, none⟩ = some (.int .i64 a0_2) := (blk_cell BK295.out 2).trans rfl; have hcz19_3 : w18.cell? ⟨gb295, 3, none⟩ = some (.int .i64 a0_3) := (blk_cell BK295.out 3).trans rfl; have hcz19_4 : w18.cell? ⟨gb295, 4, none⟩ = some (.int .i64 a0_4) := (blk_cell BK295.out 4).trans rfl; have hcz19_5 : w18.cell? ⟨gb295, 5, none⟩ = some (.int .i64 a0_5) := (blk_cell BK295.out 5).trans rfl; have hfz19_0 := blk_frozen BK295.out 0; have hfz19_1 := blk_frozen BK295.out 1; have hfz19_2 := blk_frozen BK295.out 2; have hfz19_3 := blk_frozen BK295.out 3; have hfz19_4 := blk_frozen BK295.out 4; have hfz19_5 := blk_frozen BK295.out 5) | ((with_reducible refine gate_callee (f := 16) rfl ?_); refine goesL_ (some 26) rfl rfl Try.func16 z15_15 rfl #[.agg #[.int .i64 a0_0, .slice A0_1 l0_1.length c0_1, .int .i64 a0_2, .int .i64 a0_3, .int .i64 a0_4, .int .i64 a0_5]] rfl z15_3 ?_; (with_reducible refine (laws_toProcess.calls k a0_0 _ _ l0_1 a0_2 a0_3 a0_4 a0_5 t309 t310 t313 t314 t315 t316 _ ?side1 ?side2 A9.out).mono ?_); (case side1 => have zh := (Kd.C_below HR0_1.out HB.out); exact z15_C); (case side2 => exact HC0_1.out); rintro e w20 ⟨v311, rfl, ho0, hb⟩; refine ⟨_, rfl, ?_⟩; have n0_ := z15_A (Kd.R_elder' z15_13 (Kd.R_base ho0) hb); have n1_ := z15_A (Kd.R_below z15_18 hb); have n2_ := z15_A (Kd.R_lower (Kd.R_new' ho0 (Kd.R_lt z15_13)) (below_size z15_5)); have n3_ := z15_A (blk_below (g := gb295) (o := .cells #[.int .i64 a0_0, .slice A0_1 l0_1.length c0_1, .int .i64 a0_2, .int .i64 a0_3, .int .i64 a0_4, .int .i64 a0_5] 24 (0, 0)) z15_2 hb); have n4_ := z15_A (below_step z15_5 hb); clear HO300 HO307 BK295 HB; revert n0_ n1_ n2_ n3_ n4_; intro HO300 HO307 HO312 BK295 HB; (try clear hb); (try clear hb2); (try clear hk); (try clear hi); (try clear ho0)) | ((with_reducible refine gate_dst (N := 6) rfl ?_); refine box_event ?hg (N := 6) ?hd (cs := #[.int .i64 0, .slice none 0 0, .int .i64 0, .int .i64 0, .int .i64 0, .int .i64 0]) (t := 30) ?hr ?_; (case hd => rfl); (case hg => rfl); (case hr => first | (go_simp; done) | (go_simp; rfl)); intro gb317 hg w21 hbox hb; have n0_ := z15_A (Kd.R_below z15_13 hb); have n1_ := z15_A (Kd.R_below z15_18 hb); have n2_ := z15_A (Kd.R_below z15_22 hb); have n3_ := z15_A (blk_below (g := gb295) (o := .cells #[.int .i64 a0_0, .slice A0_1 l0_1.length c0_1, .int .i64 a0_2, .int .i64 a0_3, .int .i64 a0_4, .int .i64 a0_5] 24 (0, 0)) z15_2 hb); have n4_ := z15_A (below_step z15_5 hb); have n5_ := z15_A (hbox); have n6_ := z15_A ((by rw [hg]; exact (below_size z15_5) : w.heap.size ≤ gb317)); have n7_ := z15_A ((by rw [hg]; exact (below_size z15_5) : w.heap.size ≤ gb317)); have n8_ := z15_A ((by rw [hg]; exact Nat.ne_of_lt (blk_lt (g := gb295) (o := .cells #[.int .i64 a0_0, .slice A0_1 l0_1.length c0_1, .int .i64 a0_2, .int .i64 a0_3, .int .i64 a0_4, .int .i64 a0_5] 24 (0, 0)) z15_2) : gb295 ≠ gb317)); have n9_ := z15_A ((by rw [hg]; exact Nat.ne_of_gt (blk_lt (g := gb295) (o := .cells #[.int .i64 a0_0, .slice A0_1 l0_1.length c0_1, .int .i64 a0_2, .int .i64 a0_3, .int .i64 a0_4, .int .i64 a0_5] 24 (0, 0)) z15_2) : gb317 ≠ gb295)); clear HO300 HO307 HO312 BK295 HB; revert n0_ n1_ n2_ n3_ n4_ n5_ n6_ n7_ n8_ n9_; intro HO300 HO307 HO312 BK295 HB BK317 GW317 GE317 NB295_317 NB317_295; clear hb hbox hg; have hnb22 := NB317_295.out; have hnc22 := NB295_317.out; have hcz23_0 : w21.cell? ⟨gb317, 0, none⟩ = some (.int .i64 0) := (blk_cell BK317.out 0).trans rfl; have hcz23_1 : w21.cell? ⟨gb317, 1, none⟩ = some (.slice none 0 0) := (blk_cell BK317.out 1).trans rfl; have hcz23_2 : w21.cell? ⟨gb317, 2, none⟩ = some (.int .i64 0) := (blk_cell BK317.out 2).trans rfl; have hcz23_3 : w21.cell? ⟨gb317, 3, none⟩ = some (.int .i64 0) := (blk_cell BK317.out 3).trans rfl; have hcz23_4 : w21.cell? ⟨gb317, 4, none⟩ = some (.int .i64 0) := (blk_cell BK317.out 4).trans rfl; have hcz23_5 : w21.cell? ⟨gb317, 5, none⟩ = some (.int .i64 0) := (blk_cell BK317.out 5).trans rfl; have hfz23_0 := blk_frozen BK317.out 0; have hfz23_1 := blk_frozen BK317.out 1; have hfz23_2 := blk_frozen BK317.out 2; have hfz23_3 := blk_frozen BK317.out 3; have hfz23_4 := blk_frozen BK317.out 4; have hfz23_5 := blk_frozen BK317.out 5; obtain ⟨Ao24, co24, eo24⟩ := Kd.R_slice HO312.out; subst eo24) | ((with_reducible refine gate_callee (f := 45) rfl ?_); refine goesL_ (some 29) rfl rfl Try.func45 z15_15 rfl #[.agg #[.int .i64 t309, .slice Ao24 t310.length co24, .int .i64 t313, .int .i64 t314, .int .i64 t315, .int .i64 t316]] rfl z15_3 ?_; (with_reducible refine (impl_BestLevels.calls k t309 _ _ t310 t313 t314 t315 t316 t318 t321 _ ?side1 ?side2 A10.out).mono ?_); (case side1 => refine (Kd.R_reads' (e := 3) (base := w.heap.size) (ok := fun k_ => (True ∧ z15_S k_ Ao17 t298.length co17)) (n := t310.length) (c := co24) ?_).2.2; exact z15_11); (case side2 => exact (Kd.R_reads' HO312.out).2.1); rintro e w25 ⟨v319, rfl, ho0, hb⟩; refine ⟨_, rfl, ?_⟩; have n0_ := z15_A (Kd.R_below (by (with_reducible repeat (first | apply Kd.R_alloc | apply Kd.R_drewN | apply Kd.R_drew)); exact (Kd.R_mono (Kd.R_far (p := ⟨gb317, 5, none⟩) (Kd.R_far (p := ⟨gb317, 4, none⟩) (Kd.R_far (p := ⟨gb317, 3, none⟩) (Kd.R_far (p := ⟨gb317, 2, none⟩) (Kd.R_far (p := ⟨gb317, 1, none⟩) (Kd.R_far (p := ⟨gb317, 0, none⟩) (Kd.R_types HO300.out BK317.out z15_31) (fun _ hk => hk.2) (.int .i64 t309)) (fun _ hk => hk.2) (.slice Ao24 t310.length co24)) (fun _ hk => hk.2) (.int .i64 t313)) (fun _ hk => hk.2) (.int .i64 t314)) (fun _ hk => hk.2) (.int .i64 t315)) (fun _ hk => hk.2) (.int .i64 t316)) (fun _ h_ => h_.1))) hb); have n1_ := z15_A (Kd.R_elder' z15_12 (Kd.R_base ho0) hb); have n2_ := z15_A (Kd.R_below z15_11 hb); have n3_ := z15_A (Kd.R_lower (Kd.R_new' ho0 (Kd.R_lt z15_12)) (below_size z15_1)); have n4_ := z15_A (blk_below (g := gb295) (o := .cells #[.int .i64 a0_0, .slice A0_1 l0_1.length c0_1, .int .i64 a0_2, .int .i64 a0_3, .int .i64 a0_4, .int .i64 a0_5] 24 (0, 0)) (by (with_reducible repeat (first | refine blk_drewN ?_ _ | refine blk_drew ?_ | refine blk_alloc ?_ _)); refine blk_far ?_ NB295_317.out _; (with_reducible repeat (first | refine blk_drewN ?_ _ | refine blk_drew ?_ | refine blk_alloc ?_ _)); refine blk_far ?_ NB295_317.out _; (with_reducible repeat (first | refine blk_drewN ?_ _ | refine blk_drew ?_ | refine blk_alloc ?_ _)); refine blk_far ?_ NB295_317.out _; (with_reducible repeat (first | refine blk_drewN ?_ _ | refine blk_drew ?_ | refine blk_alloc ?_ _)); refine blk_far ?_ NB295_317.out _; (with_reducible repeat (first | refine blk_drewN ?_ _ | refine blk_drew ?_ | refine blk_alloc ?_ _)); refine blk_far ?_ NB295_317.out _; (with_reducible repeat (first | refine blk_drewN ?_ _ | refine blk_drew ?_ | refine blk_alloc ?_ _)); refine blk_far ?_ NB295_317.out _; (with_reducible repeat (first | refine blk_drewN ?_ _ | refine blk_drew ?_ | refine blk_alloc ?_ _)); exact BK295.out) hb); have n5_ := z15_A (blk_below (g := gb317) (o := .cells #[.int .i64 t309, .slice Ao24 t310.length co24, .int .i64 t313, .int .i64 t314, .int .i64 t315, .int .i64 t316] 30 (0, 0)) (by (with_reducible repeat (first | refine blk_drewN ?_ _ | refine blk_drew ?_ | refine blk_alloc ?_ _)); refine blk_put (cs := #[.int .i64 t309, .slice Ao24 t310.length co24, .int .i64 t313, .int .i64 t314, .int .i64 t315, .int .i64 0]) ?_ 5 _ rfl; (with_reducible repeat (first | refine blk_drewN ?_ _ | refine blk_drew ?_ | refine blk_alloc ?_ _)); refine blk_put (cs := #[.int .i64 t309, .slice Ao24 t310.length co24, .int .i64 t313, .int .i64 t314, .int .i64 0, .int .i64 0]) ?_ 4 _ rfl; (with_reducible repeat (first | refine blk_drewN ?_ _ | refine blk_drew ?_ | refine blk_alloc ?_ _)); refine blk_put (cs := #[.int .i64 t309, .slice Ao24 t310.length co24, .int .i64 t313, .int .i64 0, .int .i64 0, .int .i64 0]) ?_ 3 _ rfl; (with_reducible repeat (first | refine blk_drewN ?_ _ | refine blk_drew ?_ | refine blk_alloc ?_ _)); refine blk_put (cs := #[.int .i64 t309, .slice Ao24 t310.length co24, .int .i64 0, .int .i64 0, .int .i64 0, .int .i64 0]) ?_ 2 _ rfl; (with_reducible repeat (first | refine blk_drewN ?_ _ | refine blk_drew ?_ | refine blk_alloc ?_ _)); refine blk_put (cs := #[.int .i64 t309, .slice none 0 0, .int .i64 0, .int .i64 0, .int .i64 0, .int .i64 0]) ?_ 1 _ rfl; (with_reducible repeat (first | refine blk_drewN ?_ _ | refine blk_drew ?_ | refine blk_alloc ?_ _)); refine blk_put (cs := #[.int .i64 0, .slice none 0 0, .int .i64 0, .int .i64 0, .int .i64 0, .int .i64 0]) ?_ 0 _ rfl; (with_reducible repeat (first | refine blk_drewN ?_ _ | refine blk_drew ?_ | refine blk_alloc ?_ _)); exact BK317.out) hb); have n6_ := z15_A (below_step z15_1 hb); clear HO300 HO307 HO312 BK295 BK317 HB; revert n0_ n1_ n2_ n3_ n4_ n5_ n6_; intro HO300 HO307 HO312 HO320 BK295 BK317 HB; (try clear hb); (try clear hb2); (try clear hk); (try clear hi); (try clear ho0)))
  (try simp only [Act.put, List.setIfInBounds_toArray, List.set_cons_zero, List.set_cons_succ])
  go_cut [40] (fun v40 wc => ∃ (kq : Nat) (x40_10 : Bool), v40 = .bool x40_10 ∧ Aside0 (laws_FnExactBestLevels.j0 kq t305 t308 t318 t321 x40_10 a0_0 l0_1 a0_2 a0_3 a0_4 a0_5 t309 t310 t313 t314 t315 t316 = some r) ∧ Aside0 (kq ≤ k) ∧ Aside0 (Kd.R k72 72 wc w.heap.size (fun k_ => z15_V k_ v319) v306 t305) ∧ Aside0 (Kd.R k72 72 wc w.heap.size (fun k_ => z15_V k_ v306) v319 t318) ∧ Aside0 (Kd.R (Kd.int .i64) 3 wc w.heap.size (fun _ => True) (.slice Ao24 t310.length co24) t310) ∧ Aside0 (wc.heap[gb295]? = some (.cells #[.int .i64 a0_0, (.slice A0_1 l0_1.length c0_1), .int .i64 a0_2, .int .i64 a0_3, .int .i64 a0_4, .int .i64 a0_5] 24 (0, 0))) ∧ Aside0 (wc.heap[gb317]? = some (.cells #[.int .i64 t309, (.slice Ao24 t310.length co24), .int .i64 t313, .int .i64 t314, .int .i64 t315, .int .i64 t316] 30 (0, 0))) ∧ Aside0 (Below w.heap.size w wc))
  case first =>
   have H := HC11.out
   clear HC11
   replace H := Option.bind_eq_some_iff.mp H
   obtain ⟨t322, A260, H⟩ := H
   (try dsimp only at H)
   have A26 := z15_A A260
   clear A260
   by_cases c27 : t322 = true
   ·subst c27
    have H1 : (laws_FnExactBestLevels.j0 k t305 t308 t318 t321 (t321 != t308) a0_0 l0_1 a0_2 a0_3 a0_4 a0_5 t309 t310 t313 t314 t315 t316) = some r := z15_23
    clear H
    have H := H1
    clear H1
    have H' := z15_A H
    clear H
    obtain ⟨Ao28, co28, eo28⟩ := Kd.R_slice HO320.out
    subst eo28
    obtain ⟨Ao29, co29, eo29⟩ := Kd.R_slice HO307.out
    subst eo29
    go_wp2_with (first | ((with_reducible refine gate_callee (f := 20) rfl ?_); refine goesL_ (some 34) rfl rfl Try.func20 z15_15 rfl #[.slice Ao28 t318.length co28, .slice Ao29 t305.length co29] rfl z15_3 ?_; (with_reducible refine (laws_eqIntA2S.calls k _ _ t318 _ _ t305 true _ ?side1 ?side2 ?side3 ?side4 A26.out).mono ?_); (case side1 => have zh := (Kd.R_reads' HO320.out).2.2; exact z15_C); (case side2 => exact (Kd.R_reads' HO320.out).2.1); (case side3 => have zh := (Kd.R_reads' HO307.out).2.2; exact z15_C); (case side4 => exact (Kd.R_reads' HO307.out).2.1); rintro e w30 ⟨rfl, hb⟩; refine ⟨_, rfl, ?_⟩; have n0_ := z15_A (Kd.R_below z15_13 hb); have n1_ := z15_A (Kd.R_below z15_18 hb); have n2_ := z15_A (Kd.R_below z15_22 hb); have n3_ := z15_A (Kd.R_below z15_34 hb); have n4_ := z15_A (blk_below (g := gb295) (o := .cells #[.int .i64 a0_0, .slice A0_1 l0_1.length c0_1, .int .i64 a0_2, .int .i64 a0_3, .int .i64 a0_4, .int .i64 a0_5] 24 (0, 0)) z15_2 hb); have n5_ := z15_A (blk_below (g := gb317) (o := .cells #[.int .i64 t309, .slice Ao24 t310.length co24, .int .i64 t313, .int .i64 t314, .int .i64 t315, .int .i64 t316] 30 (0, 0)) z15_4 hb); have n6_ := z15_A (below_step z15_1 hb); clear HO300 HO307 HO312 HO320 BK295 BK317 HB; revert n0_ n1_ n2_ n3_ n4_ n5_ n6_; intro HO300 HO307 HO312 HO320 BK295 BK317 HB; (try clear hb); (try clear hb2); (try clear hk); (try clear hi)))
    go_meet
    case rel => exact ⟨_, ((t321 != t308)), z15_20, H', ⟨by first | omega | exact Nat.le_refl _⟩, ⟨z15_30⟩, ⟨z15_29⟩, ⟨z15_28⟩, ⟨z15_2⟩, ⟨z15_4⟩, ⟨z15_1⟩⟩
   ·replace c27 := Bool.eq_false_iff.mpr c27
    subst c27
    have H1 : (laws_FnExactBestLevels.j0 k t305 t308 t318 t321 true a0_0 l0_1 a0_2 a0_3 a0_4 a0_5 t309 t310 t313 t314 t315 t316) = some r := z15_16
    clear H
    have H := H1
    clear H1
    have H' := z15_A H
    clear H
    obtain ⟨Ao31, co31, eo31⟩ := Kd.R_slice HO320.out
    subst eo31
    obtain ⟨Ao32, co32, eo32⟩ := Kd.R_slice HO307.out
    subst eo32
    go_wp2_with (first | ((with_reducible refine gate_callee (f := 20) rfl ?_); refine goesL_ (some 34) rfl rfl Try.func20 z15_15 rfl #[.slice Ao31 t318.length co31, .slice Ao32 t305.length co32] rfl z15_3 ?_; (with_reducible refine (laws_eqIntA2S.calls k _ _ t318 _ _ t305 false _ ?side1 ?side2 ?side3 ?side4 A26.out).mono ?_); (case side1 => have zh := (Kd.R_reads' HO320.out).2.2; exact z15_C); (case side2 => exact (Kd.R_reads' HO320.out).2.1); (case side3 => have zh := (Kd.R_reads' HO307.out).2.2; exact z15_C); (case side4 => exact (Kd.R_reads' HO307.out).2.1); rintro e w33 ⟨rfl, hb⟩; refine ⟨_, rfl, ?_⟩; have n0_ := z15_A (Kd.R_below z15_13 hb); have n1_ := z15_A (Kd.R_below z15_18 hb); have n2_ := z15_A (Kd.R_below z15_22 hb); have n3_ := z15_A (Kd.R_below z15_34 hb); have n4_ := z15_A (blk_below (g := gb295) (o := .cells #[.int .i64 a0_0, .slice A0_1 l0_1.length c0_1, .int .i64 a0_2, .int .i64 a0_3, .int .i64 a0_4, .int .i64 a0_5] 24 (0, 0)) z15_2 hb); have n5_ := z15_A (blk_below (g := gb317) (o := .cells #[.int .i64 t309, .slice Ao24 t310.length co24, .int .i64 t313, .int .i64 t314, .int .i64 t315, .int .i64 t316] 30 (0, 0)) z15_4 hb); have n6_ := z15_A (below_step z15_1 hb); clear HO300 HO307 HO312 HO320 BK295 BK317 HB; revert n0_ n1_ n2_ n3_ n4_ n5_ n6_; intro HO300 HO307 HO312 HO320 BK295 BK317 HB; (try clear hb); (try clear hb2); (try clear hk); (try clear hi)))
    go_meet
    case rel => exact ⟨_, (true), z15_20, H', ⟨by first | omega | exact Nat.le_refl _⟩, ⟨z15_30⟩, ⟨z15_29⟩, ⟨z15_28⟩, ⟨z15_2⟩, ⟨z15_4⟩, ⟨z15_1⟩⟩
  case rest =>
   clear HC11
   (try clear c1); (try clear c2); (try clear p2); (try clear c3); (try clear c3b0); (try clear c4); (try clear c10); (try clear c13); (try clear c16); (try clear c20); (try clear c22); (try clear c27); (try clear hcz13_0); (try clear hcz13_1); (try clear hcz13_2); (try clear hcz13_3); (try clear hcz13_4); (try clear hcz13_5); (try clear hcz15_0); (try clear hcz15_1); (try clear hcz15_2); (try clear hcz15_3); (try clear hcz15_4); (try clear hcz15_5); (try clear hcz19_0); (try clear hcz19_1); (try clear hcz19_2); (try clear hcz19_3); (try clear hcz19_4); (try clear hcz19_5); (try clear hcz23_0); (try clear hcz23_1); (try clear hcz23_2); (try clear hcz23_3); (try clear hcz23_4); (try clear hcz23_5); (try clear hcz5_0); (try clear hcz5_1); (try clear hcz5_2); (try clear hcz5_3); (try clear hcz5_4); (try clear hcz5_5); (try clear hfz13_0); (try clear hfz13_1); (try clear hfz13_2); (try clear hfz13_3); (try clear hfz13_4); (try clear hfz13_5); (try clear hfz15_0); (try clear hfz15_1); (try clear hfz15_2); (try clear hfz15_3); (try clear hfz15_4); (try clear hfz15_5); (try clear hfz19_0); (try clear hfz19_1); (try clear hfz19_2); (try clear hfz19_3); (try clear hfz19_4); (try clear hfz19_5); (try clear hfz23_0); (try clear hfz23_1); (try clear hfz23_2); (try clear hfz23_3); (try clear hfz23_4); (try clear hfz23_5); (try clear hfz5_0); (try clear hfz5_1); (try clear hfz5_2); (try clear hfz5_3); (try clear hfz5_4); (try clear hfz5_5)
   obtain ⟨kq, x40_10, rfl, HA, HJ10, HO_4, HO_7, HO_318001, BK295, BK317, HB⟩ := hcut
   cases kq with
   | zero => exact absurd HA.out (by simp [laws_FnExactBestLevels.j0])
   | succ kj10 =>
    have H := HA.out
    clear HA
    simp only [laws_FnExactBestLevels.j0] at H
    by_cases c34 : x40_10 = true
    ·subst c34
     have H1 : (some false) = some r := z15_23
     clear H
     have H := H1
     clear H1
     obtain rfl := Option.some.inj H
     go_wp2
     go_ret
     exact ⟨z15_9, z15_1⟩
    ·replace c34 := Bool.eq_false_iff.mpr c34
     subst c34
     have H1 : ((laws_toProcess.f kj10 a0_0 l0_1 a0_2 a0_3 a0_4 a0_5).bind fun bt323 => ((laws_eqProcess.f kj10 t309 t310 t313 t314 t315 t316 bt323.1 bt323.2.1 bt323.2.2.1 bt323.2.2.2.1 bt323.2.2.2.2.1 bt323.2.2.2.2.2).bind fun t331 => (if t331 = true then ((laws_markProcess.f kj10 t309 t310 t313 t314 t315 t316 1).bind fun bt332 => (if bt332.1 < 0 then (laws_FnExactBestLevels.j1 kj10 t305 t308 t318 true a0_0 l0_1 a0_2 a0_3 a0_4 a0_5) else ((laws_eqIntA2S.f kj10 t318 t305).bind fun t334 => (if t334 = true then (laws_FnExactBestLevels.j1 kj10 t305 t308 t318 (t321 != t308) a0_0 l0_1 a0_2 a0_3 a0_4 a0_5) else (laws_FnExactBestLevels.j1 kj10 t305 t308 t318 true a0_0 l0_1 a0_2 a0_3 a0_4 a0_5))))) else (some false)))) = some r := z15_16
     clear H
     have H := H1
     clear H1
     replace H := Option.bind_eq_some_iff.mp H
     obtain ⟨⟨t323, t324, t327, t328, t329, t330⟩, A350, H⟩ := H
     (try dsimp only at H)
     have A35 := z15_A A350
     clear A350
     replace H := Option.bind_eq_some_iff.mp H
     obtain ⟨t331, A360, H⟩ := H
     (try dsimp only at H)
     have A36 := z15_A A360
     clear A360
     by_cases c37 : t331 = true
     ·subst c37
      have H1 : ((laws_markProcess.f kj10 t309 t310 t313 t314 t315 t316 1).bind fun bt332 => (if bt332.1 < 0 then (laws_FnExactBestLevels.j1 kj10 t305 t308 t318 true a0_0 l0_1 a0_2 a0_3 a0_4 a0_5) else ((laws_eqIntA2S.f kj10 t318 t305).bind fun t334 => (if t334 = true then (laws_FnExactBestLevels.j1 kj10 t305 t308 t318 (t321 != t308) a0_0 l0_1 a0_2 a0_3 a0_4 a0_5) else (laws_FnExactBestLevels.j1 kj10 t305 t308 t318 true a0_0 l0_1 a0_2 a0_3 a0_4 a0_5))))) = some r := z15_23
      clear H
      have H := H1
      clear H1
      replace H := Option.bind_eq_some_iff.mp H
      obtain ⟨⟨t332, t333⟩, A380, H⟩ := H
      (try dsimp only at H)
      have A38 := z15_A A380
      clear A380
      have HC39 := z15_A H
      clear H
      try go_wp2
      have n0_ := z15_A (Kd.R_drew HO_4.out)
      have n1_ := z15_A (Kd.R_drew HO_7.out)
      have n2_ := z15_A (Kd.R_drew HO_318001.out)
      have n3_ := z15_A (blk_drew BK295.out)
      have n4_ := z15_A (blk_drew BK317.out)
      have n5_ := z15_A (below_drew1 HB.out)
      clear HO_4
      clear HO_7
      clear HO_318001
      clear BK295
      clear BK317
      clear HB
      have HO_4 := n0_
      have HO_7 := n1_
      have HO_318001 := n2_
      have BK295 := n3_
      have BK317 := n4_
      have HB := n5_
      clear n0_ n1_ n2_ n3_ n4_ n5_
      refine start_ (n := 5) (S := fun w' => w'.cell? ⟨gb317, 0, none⟩ = some (.int .i64 t309) ∧ w'.cell? ⟨gb317, 1, none⟩ = some (.slice Ao24 t310.length co24) ∧ w'.cell? ⟨gb317, 2, none⟩ = some (.int .i64 t313) ∧ w'.cell? ⟨gb317, 3, none⟩ = some (.int .i64 t314) ∧ w'.cell? ⟨gb317, 4, none⟩ = some (.int .i64 t315) ∧ w'.cell? ⟨gb317, 5, none⟩ = some (.int .i64 t316) ∧ w'.cell? ⟨gb295, 0, none⟩ = some (.int .i64 a0_0) ∧ w'.cell? ⟨gb295, 1, none⟩ = some (.slice A0_1 l0_1.length c0_1) ∧ w'.cell? ⟨gb295, 2, none⟩ = some (.int .i64 a0_2) ∧ w'.cell? ⟨gb295, 3, none⟩ = some (.int .i64 a0_3) ∧ w'.cell? ⟨gb295, 4, none⟩ = some (.int .i64 a0_4) ∧ w'.cell? ⟨gb295, 5, none⟩ = some (.int .i64 a0_5)) (ds := []) #[false, false, false, false, false] z15_15 rfl rfl ⟨(blk_cell BK317.out 0).trans rfl, (blk_cell BK317.out 1).trans rfl, (blk_cell BK317.out 2).trans rfl, (blk_cell BK317.out 3).trans rfl, (blk_cell BK317.out 4).trans rfl, (blk_cell BK317.out 5).trans rfl, (blk_cell BK295.out 0).trans rfl, (blk_cell BK295.out 1).trans rfl, (blk_cell BK295.out 2).trans rfl, (blk_cell BK295.out 3).trans rfl, (blk_cell BK295.out 4).trans rfl, (blk_cell BK295.out 5).trans rfl⟩ (fun hHeld => ?_)
      generalize wc.drew = w40 at HO_4 HO_7 HO_318001 BK295 BK317 HB hHeld ⊢
      refine take_ (i := 0) (N := some 41) (v := ?_) (a' := ?_) #[true, false, false, false, false] rfl rfl z15_15 (fun _ _ _ h => h) (Or.inl ⟨by rfl, ?_⟩) hHeld ?_ ?_
      rotate_left
      ·rintro w' ⟨s0, s1, s2, s3, s4, s5, s6, s7, s8, s9, s10, s11⟩
       go_simp
       with_reducible rfl
      rotate_left
      ·simp only [Act.put, List.setIfInBounds_toArray, List.set_cons_zero, List.set_cons_succ, i64_w, i32_w]
       rfl
      refine take_ (i := 1) (N := some 42) (v := ?_) (a' := ?_) #[true, true, false, false, false] rfl rfl z15_15 (fun _ _ _ h => h) (Or.inl ⟨by rfl, ?_⟩) hHeld ?_ ?_
      rotate_left
      ·rintro w' ⟨s0, s1, s2, s3, s4, s5, s6, s7, s8, s9, s10, s11⟩
       go_simp
       with_reducible rfl
      rotate_left
      ·simp only [Act.put, List.setIfInBounds_toArray, List.set_cons_zero, List.set_cons_succ, i64_w, i32_w]
       rfl
      refine one_ (i := 2) (N := some 43) #[true, true, true, false, false] rfl rfl z15_15 z15_31 (fun K hK => ?_)
      refine goes_ Try.func16 z15_15 rfl #[.agg #[.int .i64 a0_0, .slice A0_1 l0_1.length c0_1, .int .i64 a0_2, .int .i64 a0_3, .int .i64 a0_4, .int .i64 a0_5]] (by rfl) rfl rfl z15_3 ?_
      with_reducible refine (laws_toProcess.calls kj10 a0_0 _ _ l0_1 a0_2 a0_3 a0_4 a0_5 t323 t324 t327 t328 t329 t330 _ ?side1 ?side2 A35.out).mono ?_
      (case side1 => have zh := (Kd.C_below HR0_1.out HB.out); exact z15_C)
      (case side2 => exact HC0_1.out)
      rintro e w41 ⟨v325, rfl, ho0, hb⟩
      refine ⟨_, rfl, ?_⟩
      have n0_ := z15_A (Kd.R_below z15_7 hb)
      have n1_ := z15_A (Kd.R_below z15_6 hb)
      have n2_ := z15_A (Kd.R_elder' z15_8 (Kd.R_base ho0) hb)
      have n3_ := z15_A (Kd.R_lower (Kd.R_new' ho0 (Kd.R_lt z15_8)) (below_size z15_1))
      have n4_ := z15_A (blk_below (g := gb295) (o := .cells #[.int .i64 a0_0, .slice A0_1 l0_1.length c0_1, .int .i64 a0_2, .int .i64 a0_3, .int .i64 a0_4, .int .i64 a0_5] 24 (0, 0)) z15_2 hb)
      have n5_ := z15_A (blk_below (g := gb317) (o := .cells #[.int .i64 t309, .slice Ao24 t310.length co24, .int .i64 t313, .int .i64 t314, .int .i64 t315, .int .i64 t316] 30 (0, 0)) z15_4 hb)
      have n6_ := z15_A (below_step z15_1 hb)
      clear HO_4
      clear HO_7
      clear HO_318001
      clear BK295
      clear BK317
      clear HB
      have HO_4 := n0_
      have HO_7 := n1_
      have HO_318001 := n2_
      have HO326 := n3_
      have BK295 := n4_
      have BK317 := n5_
      have HB := n6_
      clear n0_ n1_ n2_ n3_ n4_ n5_ n6_
      (try clear hb)
      (try clear hb2)
      (try clear hk)
      (try clear hi)
      (try clear ho0)
      obtain ⟨Ao42, co42, eo42⟩ := Kd.R_slice HO326.out
      (first | subst eo42 | (injection eo42 with f1_ f2_ f3_; have f4_ := f1_.symm; have f5_ := f3_.symm; clear f1_ f2_ f3_; subst f4_; subst f5_))
      refine hK.out _ _ ⟨(blk_cell BK317.out 0).trans rfl, (blk_cell BK317.out 1).trans rfl, (blk_cell BK317.out 2).trans rfl, (blk_cell BK317.out 3).trans rfl, (blk_cell BK317.out 4).trans rfl, (blk_cell BK317.out 5).trans rfl, (blk_cell BK295.out 0).trans rfl, (blk_cell BK295.out 1).trans rfl, (blk_cell BK295.out 2).trans rfl, (blk_cell BK295.out 3).trans rfl, (blk_cell BK295.out 4).trans rfl, (blk_cell BK295.out 5).trans rfl⟩ (fun hHeld => ?_)
      clear hK K
      refine norm_ (a' := ?_) ?_ ?_
      rotate_left
      ·show Act.put _ (some 43) _ = _
       simp only [Act.put, List.setIfInBounds_toArray, List.set_cons_zero, List.set_cons_succ, i64_w, i32_w]
       rfl
      refine one_ (i := 3) (N := some 44) #[true, true, true, true, false] rfl rfl z15_15 z15_31 (fun K hK => ?_)
      refine goes_ Try.func19 z15_15 rfl #[.agg #[.int .i64 t309, .slice Ao24 t310.length co24, .int .i64 t313, .int .i64 t314, .int .i64 t315, .int .i64 t316], .agg #[.int .i64 t323, .slice Ao42 t324.length co42, .int .i64 t327, .int .i64 t328, .int .i64 t329, .int .i64 t330]] (by rfl) rfl rfl z15_3 ?_
      with_reducible refine (laws_eqProcess.calls kj10 t309 _ _ t310 t313 t314 t315 t316 t323 _ _ t324 t327 t328 t329 t330 true _ ?side1 ?side2 ?side3 ?side4 A36.out).mono ?_
      (case side1 => have zh := (Kd.R_reads' HO_318001.out).2.2; exact z15_C)
      (case side2 => exact (Kd.R_reads' HO_318001.out).2.1)
      (case side3 => have zh := (Kd.R_reads' HO326.out).2.2; exact z15_C)
      (case side4 => exact (Kd.R_reads' HO326.out).2.1)
      rintro e w43 ⟨rfl, hb⟩
      refine ⟨_, rfl, ?_⟩
      have n0_ := z15_A (Kd.R_below z15_7 hb)
      have n1_ := z15_A (Kd.R_below z15_6 hb)
      have n2_ := z15_A (Kd.R_below z15_8 hb)
      have n3_ := z15_A (Kd.R_below z15_17 hb)
      have n4_ := z15_A (blk_below (g := gb295) (o := .cells #[.int .i64 a0_0, .slice A0_1 l0_1.length c0_1, .int .i64 a0_2, .int .i64 a0_3, .int .i64 a0_4, .int .i64 a0_5] 24 (0, 0)) z15_2 hb)
      have n5_ := z15_A (blk_below (g := gb317) (o := .cells #[.int .i64 t309, .slice Ao24 t310.length co24, .int .i64 t313, .int .i64 t314, .int .i64 t315, .int .i64 t316] 30 (0, 0)) z15_4 hb)
      have n6_ := z15_A (below_step z15_1 hb)
      clear HO_4
      clear HO_7
      clear HO_318001
      clear HO326
      clear BK295
      clear BK317
      clear HB
      have HO_4 := n0_
      have HO_7 := n1_
      have HO_318001 := n2_
      have HO326 := n3_
      have BK295 := n4_
      have BK317 := n5_
      have HB := n6_
      clear n0_ n1_ n2_ n3_ n4_ n5_ n6_
      (try clear hb)
      (try clear hb2)
      (try clear hk)
      (try clear hi)
      refine hK.out _ _ ⟨(blk_cell BK317.out 0).trans rfl, (blk_cell BK317.out 1).trans rfl, (blk_cell BK317.out 2).trans rfl, (blk_cell BK317.out 3).trans rfl, (blk_cell BK317.out 4).trans rfl, (blk_cell BK317.out 5).trans rfl, (blk_cell BK295.out 0).trans rfl, (blk_cell BK295.out 1).trans rfl, (blk_cell BK295.out 2).trans rfl, (blk_cell BK295.out 3).trans rfl, (blk_cell BK295.out 4).trans rfl, (blk_cell BK295.out 5).trans rfl⟩ (fun hHeld => ?_)
      clear hK K
      refine norm_ (a' := ?_) ?_ ?_
      rotate_left
      ·show Act.put _ (some 44) _ = _
       simp only [Act.put, List.setIfInBounds_toArray, List.set_cons_zero, List.set_cons_succ, i64_w, i32_w]
       rfl
      refine pure_ (i := 4) (N := some 45) (v := ?_) (a' := ?_) #[true, true, true, true, true] rfl rfl z15_15 (fun _ _ _ h => h) (Or.inl ⟨by rfl, ?_⟩) ?_ ?_
      rotate_left
      ·intro w'
       go_simp
       with_reducible rfl
      rotate_left
      ·simp only [Act.put, List.setIfInBounds_toArray, List.set_cons_zero, List.set_cons_succ, i64_w, i32_w]
       rfl
      refine done_ z15_15 ?_
      have hnb44 := NB317_295.out
      have hnc44 := NB295_317.out
      have hcz45_0 : w43.cell? ⟨gb317, 0, none⟩ = some (.int .i64 t309) := (blk_cell BK317.out 0).trans rfl
      have hcz45_1 : w43.cell? ⟨gb317, 1, none⟩ = some (.slice Ao24 t310.length co24) := (blk_cell BK317.out 1).trans rfl
      have hcz45_2 : w43.cell? ⟨gb317, 2, none⟩ = some (.int .i64 t313) := (blk_cell BK317.out 2).trans rfl
      have hcz45_3 : w43.cell? ⟨gb317, 3, none⟩ = some (.int .i64 t314) := (blk_cell BK317.out 3).trans rfl
      have hcz45_4 : w43.cell? ⟨gb317, 4, none⟩ = some (.int .i64 t315) := (blk_cell BK317.out 4).trans rfl
      have hcz45_5 : w43.cell? ⟨gb317, 5, none⟩ = some (.int .i64 t316) := (blk_cell BK317.out 5).trans rfl
      have hfz45_0 := blk_frozen BK317.out 0
      have hfz45_1 := blk_frozen BK317.out 1
      have hfz45_2 := blk_frozen BK317.out 2
      have hfz45_3 := blk_frozen BK317.out 3
      have hfz45_4 := blk_frozen BK317.out 4
      have hfz45_5 := blk_frozen BK317.out 5
      go_upto_region 14 with (first | ((with_reducible refine gate_callee (f := 26) rfl ?_); refine goesL_ (some 48) rfl rfl Try.func26 z15_15 rfl #[.agg #[.int .i64 t309, .slice Ao24 t310.length co24, .int .i64 t313, .int .i64 t314, .int .i64 t315, .int .i64 t316], .int .i64 1] rfl z15_3 ?_; (with_reducible refine (laws_markProcess.calls kj10 t309 (fun k_ => some k_ = (.slice Ao24 t310.length co24 : Value).ownBlock) (.slice Ao24 t310.length co24) t310 t313 t314 t315 t316 1 t332 t333 w _ ?side1 ?side2 A38.out).mono ?_); (case side1 => repeat (first | (with_reducible first | exact HB.out | apply below_alloc | apply pw_below_drewN | apply below_drew1 | refine below_set ?_ GE295.out | refine below_set ?_ GE317.out) | exact HB.out)); (case side2 => exact Kd.R_tight rfl HO_318001.out); rintro e w46 ⟨rfl, hy0, hb, hkp⟩; refine ⟨_, rfl, ?_⟩; have n0_ := z15_A (Kd.R_mono (ok' := fun k_ => z15_V k_ v319) (Kd.R_keptB ((Kd.R_apart' HO_4.out (Kd.R_typed HO_318001.out) z15_31)) hkp (fun k_ hk_ hs_ => (hk_.2) hs_)) (fun k_ hk_ => hk_.1.1)); have n1_ := z15_A (Kd.R_mono (ok' := fun k_ => z15_V k_ v306) (Kd.R_keptB ((Kd.R_apart' HO_7.out (Kd.R_typed HO_318001.out) z15_31)) hkp (fun k_ hk_ hs_ => (hk_.2) hs_)) (fun k_ hk_ => hk_.1.1)); have n2_ := z15_A (Kd.R_reok rfl hy0 (fun k_ e_ => HO_318001.out.1 k_ e_)); have n3_ := z15_A (blk_kept (g := gb295) (o := .cells #[.int .i64 a0_0, .slice A0_1 l0_1.length c0_1, .int .i64 a0_2, .int .i64 a0_3, .int .i64 a0_4, .int .i64 a0_5] 24 (0, 0)) z15_2 hkp (fun hs_ => (fun e_ => (Kd.R_ne HO_318001.out BK295.out z15_31) e_) hs_)); have n4_ := z15_A (blk_kept (g := gb317) (o := .cells #[.int .i64 t309, .slice Ao24 t310.length co24, .int .i64 t313, .int .i64 t314, .int .i64 t315, .int .i64 t316] 30 (0, 0)) z15_4 hkp (fun hs_ => (fun e_ => (Kd.R_ne HO_318001.out BK317.out z15_31) e_) hs_)); have n5_ := z15_A (Kd.R_mono (ok' := fun k_ => z15_S k_ Ao24 t310.length co24) (Kd.R_keptB (HO326.out) hkp (fun k_ hk_ hs_ => (hk_.2) hs_)) (fun k_ hk_ => hk_.1.2)); have n6_ := z15_A (hb); clear HO_4 HO_7 HO_318001 BK295 BK317 HO326 HB; revert n0_ n1_ n2_ n3_ n4_ n5_ n6_; intro HO_4 HO_7 HO_318001 BK295 BK317 HO326 HB; (try clear hb); (try clear hkp); (try clear hy0)))
      (try simp only [Act.put, List.setIfInBounds_toArray, List.set_cons_zero, List.set_cons_succ])
      go_cut [61] (fun v61 wc => ∃ (kq : Nat) (x61_38 : Bool), v61 = .bool x61_38 ∧ Aside0 (laws_FnExactBestLevels.j1 kq t305 t308 t318 x61_38 a0_0 l0_1 a0_2 a0_3 a0_4 a0_5 = some r) ∧ Aside0 (kq ≤ kj10) ∧ Aside0 (Kd.R k72 72 wc w.heap.size (fun k_ => z15_V k_ v319) v306 t305) ∧ Aside0 (Kd.R k72 72 wc w.heap.size (fun k_ => z15_V k_ v306) v319 t318) ∧ Aside0 (Kd.R (Kd.int .i64) 3 wc w.heap.size (fun _ => True) (.slice Ao24 t310.length co24) t333) ∧ Aside0 (wc.heap[gb295]? = some (.cells #[.int .i64 a0_0, (.slice A0_1 l0_1.length c0_1), .int .i64 a0_2, .int .i64 a0_3, .int .i64 a0_4, .int .i64 a0_5] 24 (0, 0))) ∧ Aside0 (wc.heap[gb317]? = some (.cells #[.int .i64 t309, (.slice Ao24 t310.length co24), .int .i64 t313, .int .i64 t314, .int .i64 t315, .int .i64 t316] 30 (0, 0))) ∧ Aside0 (Below w.heap.size w wc))
      case first =>
       have H := HC39.out
       clear HC39
       by_cases c47 : t332 < 0
       ·rw [if_pos c47] at H
        have c47b0 : decide (t332 < 0) = true := decide_eq_true c47
        clear c47
        (first | rw [c47b0] | (simp only [i64_w, i32_w]; rw [c47b0]) | skip)
        have H' := z15_A H
        clear H
        go_wp2
        go_meet
        case rel => exact ⟨_, (true), z15_20, H', ⟨z15_32⟩, ⟨z15_7⟩, ⟨z15_6⟩, ⟨z15_19⟩, ⟨z15_2⟩, ⟨z15_4⟩, ⟨z15_1⟩⟩
       ·rw [if_neg c47] at H
        have c47b0 : decide (t332 < 0) = false := decide_eq_false c47
        clear c47
        (first | rw [c47b0] | (simp only [i64_w, i32_w]; rw [c47b0]) | skip)
        replace H := Option.bind_eq_some_iff.mp H
        obtain ⟨t334, A480, H⟩ := H
        (try dsimp only at H)
        have A48 := z15_A A480
        clear A480
        by_cases c49 : t334 = true
        ·subst c49
         have H1 : (laws_FnExactBestLevels.j1 kj10 t305 t308 t318 (t321 != t308) a0_0 l0_1 a0_2 a0_3 a0_4 a0_5) = some r := z15_23
         clear H
         have H := H1
         clear H1
         have H' := z15_A H
         clear H
         obtain ⟨Ao50, co50, eo50⟩ := Kd.R_slice HO_7.out
         subst eo50
         obtain ⟨Ao51, co51, eo51⟩ := Kd.R_slice HO_4.out
         subst eo51
         go_wp2_with (first | (go_at_call 20; (with_reducible refine (laws_eqIntA2S.calls kj10 _ _ t318 _ _ t305 true _ ?side1 ?side2 ?side3 ?side4 A48.out).mono ?_); (case side1 => have zh := (Kd.R_reads' HO_7.out).2.2; exact z15_C); (case side2 => exact (Kd.R_reads' HO_7.out).2.1); (case side3 => have zh := (Kd.R_reads' HO_4.out).2.2; exact z15_C); (case side4 => exact (Kd.R_reads' HO_4.out).2.1); rintro e w52 ⟨rfl, hb⟩; have n0_ := z15_A (Kd.R_below z15_7 hb); have n1_ := z15_A (Kd.R_below z15_6 hb); have n2_ := z15_A (Kd.R_below z15_8 hb); have n3_ := z15_A (Kd.R_below z15_17 hb); have n4_ := z15_A (blk_below (g := gb295) (o := .cells #[.int .i64 a0_0, .slice A0_1 l0_1.length c0_1, .int .i64 a0_2, .int .i64 a0_3, .int .i64 a0_4, .int .i64 a0_5] 24 (0, 0)) z15_2 hb); have n5_ := z15_A (blk_below (g := gb317) (o := .cells #[.int .i64 t309, .slice Ao24 t310.length co24, .int .i64 t313, .int .i64 t314, .int .i64 t315, .int .i64 t316] 30 (0, 0)) z15_4 hb); have n6_ := z15_A (below_step z15_1 hb); clear HO_4 HO_7 HO_318001 HO326 BK295 BK317 HB; revert n0_ n1_ n2_ n3_ n4_ n5_ n6_; intro HO_4 HO_7 HO_318001 HO326 BK295 BK317 HB; (try clear hb); (try clear hb2); (try clear hk); (try clear hi)))
         go_meet
         case rel => exact ⟨_, ((t321 != t308)), z15_20, H', ⟨z15_32⟩, ⟨z15_7⟩, ⟨z15_6⟩, ⟨z15_19⟩, ⟨z15_2⟩, ⟨z15_4⟩, ⟨z15_1⟩⟩
        ·replace c49 := Bool.eq_false_iff.mpr c49
         subst c49
         have H1 : (laws_FnExactBestLevels.j1 kj10 t305 t308 t318 true a0_0 l0_1 a0_2 a0_3 a0_4 a0_5) = some r := z15_16
         clear H
         have H := H1
         clear H1
         have H' := z15_A H
         clear H
         obtain ⟨Ao53, co53, eo53⟩ := Kd.R_slice HO_7.out
         subst eo53
         obtain ⟨Ao54, co54, eo54⟩ := Kd.R_slice HO_4.out
         subst eo54
         go_wp2_with (first | (go_at_call 20; (with_reducible refine (laws_eqIntA2S.calls kj10 _ _ t318 _ _ t305 false _ ?side1 ?side2 ?side3 ?side4 A48.out).mono ?_); (case side1 => have zh := (Kd.R_reads' HO_7.out).2.2; exact z15_C); (case side2 => exact (Kd.R_reads' HO_7.out).2.1); (case side3 => have zh := (Kd.R_reads' HO_4.out).2.2; exact z15_C); (case side4 => exact (Kd.R_reads' HO_4.out).2.1); rintro e w55 ⟨rfl, hb⟩; have n0_ := z15_A (Kd.R_below z15_7 hb); have n1_ := z15_A (Kd.R_below z15_6 hb); have n2_ := z15_A (Kd.R_below z15_8 hb); have n3_ := z15_A (Kd.R_below z15_17 hb); have n4_ := z15_A (blk_below (g := gb295) (o := .cells #[.int .i64 a0_0, .slice A0_1 l0_1.length c0_1, .int .i64 a0_2, .int .i64 a0_3, .int .i64 a0_4, .int .i64 a0_5] 24 (0, 0)) z15_2 hb); have n5_ := z15_A (blk_below (g := gb317) (o := .cells #[.int .i64 t309, .slice Ao24 t310.length co24, .int .i64 t313, .int .i64 t314, .int .i64 t315, .int .i64 t316] 30 (0, 0)) z15_4 hb); have n6_ := z15_A (below_step z15_1 hb); clear HO_4 HO_7 HO_318001 HO326 BK295 BK317 HB; revert n0_ n1_ n2_ n3_ n4_ n5_ n6_; intro HO_4 HO_7 HO_318001 HO326 BK295 BK317 HB; (try clear hb); (try clear hb2); (try clear hk); (try clear hi)))
         go_meet
         case rel => exact ⟨_, (true), z15_20, H', ⟨z15_32⟩, ⟨z15_7⟩, ⟨z15_6⟩, ⟨z15_19⟩, ⟨z15_2⟩, ⟨z15_4⟩, ⟨z15_1⟩⟩
      case rest =>
       clear HC39
       (try clear c1); (try clear c2); (try clear p2); (try clear c3); (try clear c3b0); (try clear c4); (try clear c10); (try clear c13); (try clear c16); (try clear c19); (try clear c20); (try clear c22); (try clear c26); (try clear c27); (try clear c34); (try clear c37); (try clear c44); (try clear c45); (try clear c47); (try clear c47b0); (try clear c49); (try clear hcz13_0); (try clear hcz13_1); (try clear hcz13_2); (try clear hcz13_3); (try clear hcz13_4); (try clear hcz13_5); (try clear hcz15_0); (try clear hcz15_1); (try clear hcz15_2); (try clear hcz15_3); (try clear hcz15_4); (try clear hcz15_5); (try clear hcz19_0); (try clear hcz19_1); (try clear hcz19_2); (try clear hcz19_3); (try clear hcz19_4); (try clear hcz19_5); (try clear hcz23_0); (try clear hcz23_1); (try clear hcz23_2); (try clear hcz23_3); (try clear hcz23_4); (try clear hcz23_5); (try clear hcz45_0); (try clear hcz45_1); (try clear hcz45_2); (try clear hcz45_3); (try clear hcz45_4); (try clear hcz45_5); (try clear hcz5_0); (try clear hcz5_1); (try clear hcz5_2); (try clear hcz5_3); (try clear hcz5_4); (try clear hcz5_5); (try clear hfz13_0); (try clear hfz13_1); (try clear hfz13_2); (try clear hfz13_3); (try clear hfz13_4); (try clear hfz13_5); (try clear hfz15_0); (try clear hfz15_1); (try clear hfz15_2); (try clear hfz15_3); (try clear hfz15_4); (try clear hfz15_5); (try clear hfz19_0); (try clear hfz19_1); (try clear hfz19_2); (try clear hfz19_3); (try clear hfz19_4); (try clear hfz19_5); (try clear hfz23_0); (try clear hfz23_1); (try clear hfz23_2); (try clear hfz23_3); (try clear hfz23_4); (try clear hfz23_5); (try clear hfz45_0); (try clear hfz45_1); (try clear hfz45_2); (try clear hfz45_3); (try clear hfz45_4); (try clear hfz45_5); (try clear hfz5_0); (try clear hfz5_1); (try clear hfz5_2); (try clear hfz5_3); (try clear hfz5_4); (try clear hfz5_5); (try clear p2)
       obtain ⟨kq, x61_38, rfl, HA, HJ38, HO_4, HO_7, HO_318001, BK295, BK317, HB⟩ := hcut
       have hl318001_38 := (Kd.R_reads' HO_318001.out).1
       rw [hl318001_38] at HO_318001
       (try simp only [hl318001_38])
       (try simp only [hl318001_38] at BK295)
       (try simp only [hl318001_38] at BK317)
       (try simp only [hl318001_38] at HO_4)
       (try simp only [hl318001_38] at HO_7)
       cases kq with
       | zero => exact absurd HA.out (by simp [laws_FnExactBestLevels.j1])
       | succ kj38 =>
        have H := HA.out
        clear HA
        simp only [laws_FnExactBestLevels.j1] at H
        by_cases c56 : x61_38 = true
        ·subst c56
         have H1 : (some false) = some r := z15_23
         clear H
         have H := H1
         clear H1
         obtain rfl := Option.some.inj H
         go_wp2
         go_ret
         exact ⟨z15_9, z15_1⟩
        ·replace c56 := Bool.eq_false_iff.mpr c56
         subst c56
         have H1 : ((laws_markIntA2S.f kj38 t318 1).bind fun bt335 => ((laws_heldIntA2S.f kj38 bt335.2 1).bind fun t337 => (if t337 < 0 then (some false) else (if t337 = bt335.1 then ((laws_toProcess.f kj38 a0_0 l0_1 a0_2 a0_3 a0_4 a0_5).bind fun bt338 => ((impl_BestLevels.f kj38 bt338.1 bt338.2.1 bt338.2.2.1 bt338.2.2.2.1 bt338.2.2.2.2.1 bt338.2.2.2.2.2).bind fun bt346 => ((laws_eqIntA2S.f kj38 bt346.1 t305).bind fun t350 => (if t350 = true then (laws_FnExactBestLevels.j2 kj38 bt335.2 bt335.1 (bt346.2 != t308)) else (laws_FnExactBestLevels.j2 kj38 bt335.2 bt335.1 true))))) else (some false))))) = some r := z15_16
         clear H
         have H := H1
         clear H1
         replace H := Option.bind_eq_some_iff.mp H
         obtain ⟨⟨t335, t336⟩, A570, H⟩ := H
         (try dsimp only at H)
         have A57 := z15_A A570
         clear A570
         replace H := Option.bind_eq_some_iff.mp H
         obtain ⟨t337, A580, H⟩ := H
         (try dsimp only at H)
         have A58 := z15_A A580
         clear A580
         by_cases c59 : t337 < 0
         ·rw [if_pos c59] at H
          have c59b0 : decide (t337 < 0) = true := decide_eq_true c59
          clear c59
          obtain rfl := Option.some.inj H
          obtain ⟨Ao60, co60, eo60⟩ := Kd.R_slice HO_7.out
          subst eo60
          go_wp2_with (first | ((with_reducible refine gate_callee (f := 37) rfl ?_); refine goesL_ (some 64) rfl rfl Try.func37 z15_15 rfl #[.slice Ao60 t318.length co60, .int .i64 1] rfl z15_3 ?_; (with_reducible refine (laws_markIntA2S.calls kj38 (fun k_ => some k_ = (.slice Ao60 t318.length co60 : Value).ownBlock) (.slice Ao60 t318.length co60) t318 1 t335 t336 w _ ?side1 ?side2 A57.out).mono ?_); (case side1 => repeat (first | (with_reducible first | exact HB.out | apply below_alloc | apply pw_below_drewN | apply below_drew1 | refine below_set ?_ GE295.out | refine below_set ?_ GE317.out) | exact HB.out)); (case side2 => exact Kd.R_tight rfl HO_7.out); rintro e w61 ⟨rfl, hy0, hb, hkp⟩; refine ⟨_, rfl, ?_⟩; have n0_ := z15_A (Kd.R_mono (ok' := fun k_ => z15_S k_ Ao60 t318.length co60) (Kd.R_keptB (HO_4.out) hkp (fun k_ hk_ hs_ => (hk_) hs_)) (fun k_ hk_ => hk_.1)); have n1_ := z15_A (Kd.R_reok rfl hy0 (fun k_ e_ => HO_7.out.1 k_ e_)); have n2_ := z15_A (Kd.R_mono (ok' := fun k_ => True) (Kd.R_keptB ((Kd.R_apart' HO_318001.out (Kd.R_typed HO_7.out) z15_31)) hkp (fun k_ hk_ hs_ => (hk_.2) hs_)) (fun k_ hk_ => trivial)); have n3_ := z15_A (blk_kept (g := gb295) (o := .cells #[.int .i64 a0_0, .slice A0_1 l0_1.length c0_1, .int .i64 a0_2, .int .i64 a0_3, .int .i64 a0_4, .int .i64 a0_5] 24 (0, 0)) z15_2 hkp (fun hs_ => (fun e_ => (Kd.R_ne HO_7.out BK295.out z15_31) e_) hs_)); have n4_ := z15_A (blk_kept (g := gb317) (o := .cells #[.int .i64 t309, .slice Ao24 t333.length co24, .int .i64 t313, .int .i64 t314, .int .i64 t315, .int .i64 t316] 30 (0, 0)) z15_4 hkp (fun hs_ => (fun e_ => (Kd.R_ne HO_7.out BK317.out z15_31) e_) hs_)); have n5_ := z15_A (hb); clear HO_4 HO_7 HO_318001 BK295 BK317 HB; revert n0_ n1_ n2_ n3_ n4_ n5_; intro HO_4 HO_7 HO_318001 BK295 BK317 HB; (try clear hb); (try clear hkp); (try clear hy0)) | ((with_reducible refine gate_callee (f := 46) rfl ?_); refine goesL_ (some 67) rfl rfl Try.func46 z15_15 rfl #[.slice Ao60 t336.length co60, .int .i64 1] rfl z15_14 ?_; (with_reducible refine (laws_heldIntA2S.calls kj38 _ _ t336 1 t337 _ ?side1 ?side2 A58.out).mono ?_); (case side1 => have zh := (Kd.R_reads' HO_7.out).2.2; exact z15_C); (case side2 => rw [show t336.length = t318.length from (Kd.R_reads' HO_7.out).1.symm]; exact (Kd.R_reads' HO_7.out).2.1); rintro e w' ⟨rfl, ⟨nd, rfl⟩⟩; refine ⟨_, rfl, ?_⟩))
          go_ret
          exact ⟨z15_9, z15_1⟩
         ·rw [if_neg c59] at H
          have c59b0 : decide (t337 < 0) = false := decide_eq_false c59
          clear c59
          by_cases c62 : t337 = t335
          ·rw [if_pos c62] at H
           have c62b0 : (t337 == t335) = true := beq_iff_eq.mpr c62
           have c62b1 : (t337 != t335) = false := bne_eq_false_iff_eq.mpr c62
           clear c62
           replace H := Option.bind_eq_some_iff.mp H
           obtain ⟨⟨t338, t339, t342, t343, t344, t345⟩, A630, H⟩ := H
           (try dsimp only at H)
           have A63 := z15_A A630
           clear A630
           replace H := Option.bind_eq_some_iff.mp H
           obtain ⟨⟨t346, t349⟩, A640, H⟩ := H
           (try dsimp only at H)
           have A64 := z15_A A640
           clear A640
           have HC65 := z15_A H
           clear H
           obtain ⟨Ao66, co66, eo66⟩ := Kd.R_slice HO_7.out
           subst eo66
           go_upto_region 25 with (first | ((with_reducible refine gate_callee (f := 37) rfl ?_); refine goesL_ (some 64) rfl rfl Try.func37 z15_15 rfl #[.slice Ao66 t318.length co66, .int .i64 1] rfl z15_3 ?_; (with_reducible refine (laws_markIntA2S.calls kj38 (fun k_ => some k_ = (.slice Ao66 t318.length co66 : Value).ownBlock) (.slice Ao66 t318.length co66) t318 1 t335 t336 w _ ?side1 ?side2 A57.out).mono ?_); (case side1 => repeat (first | (with_reducible first | exact HB.out | apply below_alloc | apply pw_below_drewN | apply below_drew1 | refine below_set ?_ GE295.out | refine below_set ?_ GE317.out) | exact HB.out)); (case side2 => exact Kd.R_tight rfl HO_7.out); rintro e w67 ⟨rfl, hy0, hb, hkp⟩; refine ⟨_, rfl, ?_⟩; have n0_ := z15_A (Kd.R_mono (ok' := fun k_ => z15_S k_ Ao66 t318.length co66) (Kd.R_keptB (HO_4.out) hkp (fun k_ hk_ hs_ => (hk_) hs_)) (fun k_ hk_ => hk_.1)); have n1_ := z15_A (Kd.R_reok rfl hy0 (fun k_ e_ => HO_7.out.1 k_ e_)); have n2_ := z15_A (Kd.R_mono (ok' := fun k_ => True) (Kd.R_keptB ((Kd.R_apart' HO_318001.out (Kd.R_typed HO_7.out) z15_31)) hkp (fun k_ hk_ hs_ => (hk_.2) hs_)) (fun k_ hk_ => trivial)); have n3_ := z15_A (blk_kept (g := gb295) (o := .cells #[.int .i64 a0_0, .slice A0_1 l0_1.length c0_1, .int .i64 a0_2, .int .i64 a0_3, .int .i64 a0_4, .int .i64 a0_5] 24 (0, 0)) z15_2 hkp (fun hs_ => (fun e_ => (Kd.R_ne HO_7.out BK295.out z15_31) e_) hs_)); have n4_ := z15_A (blk_kept (g := gb317) (o := .cells #[.int .i64 t309, .slice Ao24 t333.length co24, .int .i64 t313, .int .i64 t314, .int .i64 t315, .int .i64 t316] 30 (0, 0)) z15_4 hkp (fun hs_ => (fun e_ => (Kd.R_ne HO_7.out BK317.out z15_31) e_) hs_)); have n5_ := z15_A (hb); clear HO_4 HO_7 HO_318001 BK295 BK317 HB; revert n0_ n1_ n2_ n3_ n4_ n5_; intro HO_4 HO_7 HO_318001 BK295 BK317 HB; (try clear hb); (try clear hkp); (try clear hy0)) | ((with_reducible refine gate_callee (f := 46) rfl ?_); refine goesL_ (some 67) rfl rfl Try.func46 z15_15 rfl #[.slice Ao66 t336.length co66, .int .i64 1] rfl z15_14 ?_; (with_reducible refine (laws_heldIntA2S.calls kj38 _ _ t336 1 t337 _ ?side1 ?side2 A58.out).mono ?_); (case side1 => have zh := (Kd.R_reads' HO_7.out).2.2; exact z15_C); (case side2 => rw [show t336.length = t318.length from (Kd.R_reads' HO_7.out).1.symm]; exact (Kd.R_reads' HO_7.out).2.1); rintro e w' ⟨rfl, ⟨nd, rfl⟩⟩; refine ⟨_, rfl, ?_⟩; have hnb68 := NB295_317.out; have hnc68 := NB317_295.out; have hcz69_0 : w67.cell? ⟨gb295, 0, none⟩ = some (.int .i64 a0_0) := (blk_cell BK295.out 0).trans rfl; have hcz69_1 : w67.cell? ⟨gb295, 1, none⟩ = some (.slice A0_1 l0_1.length c0_1) := (blk_cell BK295.out 1).trans rfl; have hcz69_2 : w67.cell? ⟨gb295, 2, none⟩ = some (.int .i64 a0_2) := (blk_cell BK295.out 2).trans rfl; have hcz69_3 : w67.cell? ⟨gb295, 3, none⟩ = some (.int .i64 a0_3) := (blk_cell BK295.out 3).trans rfl; have hcz69_4 : w67.cell? ⟨gb295, 4, none⟩ = some (.int .i64 a0_4) := (blk_cell BK295.out 4).trans rfl; have hcz69_5 : w67.cell? ⟨gb295, 5, none⟩ = some (.int .i64 a0_5) := (blk_cell BK295.out 5).trans rfl; have hfz69_0 := blk_frozen BK295.out 0; have hfz69_1 := blk_frozen BK295.out 1; have hfz69_2 := blk_frozen BK295.out 2; have hfz69_3 := blk_frozen BK295.out 3; have hfz69_4 := blk_frozen BK295.out 4; have hfz69_5 := blk_frozen BK295.out 5) | ((with_reducible refine gate_callee (f := 16) rfl ?_); refine goesL_ (some 75) rfl rfl Try.func16 z15_15 rfl #[.agg #[.int .i64 a0_0, .slice A0_1 l0_1.length c0_1, .int .i64 a0_2, .int .i64 a0_3, .int .i64 a0_4, .int .i64 a0_5]] rfl z15_3 ?_; (with_reducible refine (laws_toProcess.calls kj38 a0_0 _ _ l0_1 a0_2 a0_3 a0_4 a0_5 t338 t339 t342 t343 t344 t345 _ ?side1 ?side2 A63.out).mono ?_); (case side1 => repeat (first | exact (Kd.C_below HR0_1.out z15_1) | (with_reducible refine Kd.C_alloc ?_ _) | (with_reducible refine Kd.C_drewN ?_ _) | (with_reducible refine Kd.C_drew ?_))); (case side2 => exact HC0_1.out); rintro e w70 ⟨v340, rfl, ho0, hb⟩; refine ⟨_, rfl, ?_⟩; have n0_ := z15_A (Kd.R_below z15_7 hb); have n1_ := z15_A (Kd.R_below z15_6 hb); have n2_ := z15_A (Kd.R_elder' z15_8 (Kd.R_base ho0) hb); have n3_ := z15_A (Kd.R_lower (Kd.R_new' ho0 (Kd.R_lt z15_8)) (below_size z15_1)); have n4_ := z15_A (blk_below (g := gb295) (o := .cells #[.int .i64 a0_0, .slice A0_1 l0_1.length c0_1, .int .i64 a0_2, .int .i64 a0_3, .int .i64 a0_4, .int .i64 a0_5] 24 (0, 0)) z15_2 hb); have n5_ := z15_A (blk_below (g := gb317) (o := .cells #[.int .i64 t309, .slice Ao24 t333.length co24, .int .i64 t313, .int .i64 t314, .int .i64 t315, .int .i64 t316] 30 (0, 0)) z15_4 hb); have n6_ := z15_A (below_step z15_1 hb); clear HO_4 HO_7 HO_318001 BK295 BK317 HB; revert n0_ n1_ n2_ n3_ n4_ n5_ n6_; intro HO_4 HO_7 HO_318001 HO341 BK295 BK317 HB; (try clear hb); (try clear hb2); (try clear hk); (try clear hi); (try clear ho0); obtain ⟨Ao71, co71, eo71⟩ := Kd.R_slice HO341.out; subst eo71) | ((with_reducible refine gate_callee (f := 45) rfl ?_); refine goesL_ (some 76) rfl rfl Try.func45 z15_15 rfl #[.agg #[.int .i64 t338, .slice Ao71 t339.length co71, .int .i64 t342, .int .i64 t343, .int .i64 t344, .int .i64 t345]] rfl z15_3 ?_; (with_reducible refine (impl_BestLevels.calls kj38 t338 _ _ t339 t342 t343 t344 t345 t346 t349 _ ?side1 ?side2 A64.out).mono ?_); (case side1 => have zh := (Kd.R_reads' HO341.out).2.2; exact z15_C); (case side2 => exact (Kd.R_reads' HO341.out).2.1); rintro e w72 ⟨v347, rfl, ho0, hb⟩; refine ⟨_, rfl, ?_⟩; have n0_ := z15_A (Kd.R_elder' z15_7 (Kd.R_base ho0) hb); have n1_ := z15_A (Kd.R_elder' z15_6 (Kd.R_base ho0) hb); have n2_ := z15_A (Kd.R_below z15_8 hb); have n3_ := z15_A (Kd.R_below z15_21 hb); have n4_ := z15_A (Kd.R_lower (Kd.R_new' (Kd.R_new' ho0 (Kd.R_lt z15_7)) (Kd.R_lt z15_6)) (below_size z15_1)); have n5_ := z15_A (blk_below (g := gb295) (o := .cells #[.int .i64 a0_0, .slice A0_1 l0_1.length c0_1, .int .i64 a0_2, .int .i64 a0_3, .int .i64 a0_4, .int .i64 a0_5] 24 (0, 0)) z15_2 hb); have n6_ := z15_A (blk_below (g := gb317) (o := .cells #[.int .i64 t309, .slice Ao24 t333.length co24, .int .i64 t313, .int .i64 t314, .int .i64 t315, .int .i64 t316] 30 (0, 0)) z15_4 hb); have n7_ := z15_A (below_step z15_1 hb); clear HO_4 HO_7 HO_318001 HO341 BK295 BK317 HB; revert n0_ n1_ n2_ n3_ n4_ n5_ n6_ n7_; intro HO_4 HO_7 HO_318001 HO341 HO348 BK295 BK317 HB; (try clear hb); (try clear hb2); (try clear hk); (try clear hi); (try clear ho0)))
           (try simp only [Act.put, List.setIfInBounds_toArray, List.set_cons_zero, List.set_cons_succ])
           go_cut [87] (fun v87 wc => ∃ (kq : Nat) (x87_64 : Bool), v87 = .bool x87_64 ∧ Aside0 (laws_FnExactBestLevels.j2 kq t336 t335 x87_64 = some r) ∧ Aside0 (kq ≤ kj38) ∧ Aside0 (Kd.R k72 72 wc w.heap.size (fun _ => True) (.slice Ao66 t318.length co66) t336) ∧ Aside0 (Kd.R (Kd.int .i64) 3 wc w.heap.size (fun _ => True) (.slice Ao24 t333.length co24) t333) ∧ Aside0 (wc.heap[gb295]? = some (.cells #[.int .i64 a0_0, (.slice A0_1 l0_1.length c0_1), .int .i64 a0_2, .int .i64 a0_3, .int .i64 a0_4, .int .i64 a0_5] 24 (0, 0))) ∧ Aside0 (wc.heap[gb317]? = some (.cells #[.int .i64 t309, (.slice Ao24 t333.length co24), .int .i64 t313, .int .i64 t314, .int .i64 t315, .int .i64 t316] 30 (0, 0))) ∧ Aside0 (Below w.heap.size w wc))
           case first =>
            have H := HC65.out
            clear HC65
            replace H := Option.bind_eq_some_iff.mp H
            obtain ⟨t350, A730, H⟩ := H
            (try dsimp only at H)
            have A73 := z15_A A730
            clear A730
            by_cases c74 : t350 = true
            ·subst c74
             have H1 : (laws_FnExactBestLevels.j2 kj38 t336 t335 (t349 != t308)) = some r := z15_23
             clear H
             have H := H1
             clear H1
             have H' := z15_A H
             clear H
             obtain ⟨Ao75, co75, eo75⟩ := Kd.R_slice HO348.out
             subst eo75
             obtain ⟨Ao76, co76, eo76⟩ := Kd.R_slice HO_4.out
             subst eo76
             go_wp2_with (first | ((with_reducible refine gate_callee (f := 20) rfl ?_); refine goesL_ (some 81) rfl rfl Try.func20 z15_15 rfl #[.slice Ao75 t346.length co75, .slice Ao76 t305.length co76] rfl z15_3 ?_; (with_reducible refine (laws_eqIntA2S.calls kj38 _ _ t346 _ _ t305 true _ ?side1 ?side2 ?side3 ?side4 A73.out).mono ?_); (case side1 => have zh := (Kd.R_reads' HO348.out).2.2; exact z15_C); (case side2 => exact (Kd.R_reads' HO348.out).2.1); (case side3 => have zh := (Kd.R_reads' HO_4.out).2.2; exact z15_C); (case side4 => exact (Kd.R_reads' HO_4.out).2.1); rintro e w77 ⟨rfl, hb⟩; refine ⟨_, rfl, ?_⟩; have n0_ := z15_A (Kd.R_below z15_7 hb); have n1_ := z15_A (Kd.R_below z15_6 hb); have n2_ := z15_A (Kd.R_below z15_8 hb); have n3_ := z15_A (Kd.R_below z15_21 hb); have n4_ := z15_A (Kd.R_below z15_33 hb); have n5_ := z15_A (blk_below (g := gb295) (o := .cells #[.int .i64 a0_0, .slice A0_1 l0_1.length c0_1, .int .i64 a0_2, .int .i64 a0_3, .int .i64 a0_4, .int .i64 a0_5] 24 (0, 0)) z15_2 hb); have n6_ := z15_A (blk_below (g := gb317) (o := .cells #[.int .i64 t309, .slice Ao24 t333.length co24, .int .i64 t313, .int .i64 t314, .int .i64 t315, .int .i64 t316] 30 (0, 0)) z15_4 hb); have n7_ := z15_A (below_step z15_1 hb); clear HO_4 HO_7 HO_318001 HO341 HO348 BK295 BK317 HB; revert n0_ n1_ n2_ n3_ n4_ n5_ n6_ n7_; intro HO_4 HO_7 HO_318001 HO341 HO348 BK295 BK317 HB; (try clear hb); (try clear hb2); (try clear hk); (try clear hi)))
             go_meet
             case rel => exact ⟨_, ((t349 != t308)), z15_20, H', ⟨by have := HJ10.out; have := HJ38.out; first | omega | exact Nat.le_refl _⟩, ⟨z15_25⟩, ⟨z15_24⟩, ⟨z15_27⟩, ⟨z15_26⟩, ⟨z15_1⟩⟩
            ·replace c74 := Bool.eq_false_iff.mpr c74
             subst c74
             have H1 : (laws_FnExactBestLevels.j2 kj38 t336 t335 true) = some r := z15_16
             clear H
             have H := H1
             clear H1
             have H' := z15_A H
             clear H
             obtain ⟨Ao78, co78, eo78⟩ := Kd.R_slice HO348.out
             subst eo78
             obtain ⟨Ao79, co79, eo79⟩ := Kd.R_slice HO_4.out
             subst eo79
             go_wp2_with (first | ((with_reducible refine gate_callee (f := 20) rfl ?_); refine goesL_ (some 81) rfl rfl Try.func20 z15_15 rfl #[.slice Ao78 t346.length co78, .slice Ao79 t305.length co79] rfl z15_3 ?_; (with_reducible refine (laws_eqIntA2S.calls kj38 _ _ t346 _ _ t305 false _ ?side1 ?side2 ?side3 ?side4 A73.out).mono ?_); (case side1 => have zh := (Kd.R_reads' HO348.out).2.2; exact z15_C); (case side2 => exact (Kd.R_reads' HO348.out).2.1); (case side3 => have zh := (Kd.R_reads' HO_4.out).2.2; exact z15_C); (case side4 => exact (Kd.R_reads' HO_4.out).2.1); rintro e w80 ⟨rfl, hb⟩; refine ⟨_, rfl, ?_⟩; have n0_ := z15_A (Kd.R_below z15_7 hb); have n1_ := z15_A (Kd.R_below z15_6 hb); have n2_ := z15_A (Kd.R_below z15_8 hb); have n3_ := z15_A (Kd.R_below z15_21 hb); have n4_ := z15_A (Kd.R_below z15_33 hb); have n5_ := z15_A (blk_below (g := gb295) (o := .cells #[.int .i64 a0_0, .slice A0_1 l0_1.length c0_1, .int .i64 a0_2, .int .i64 a0_3, .int .i64 a0_4, .int .i64 a0_5] 24 (0, 0)) z15_2 hb); have n6_ := z15_A (blk_below (g := gb317) (o := .cells #[.int .i64 t309, .slice Ao24 t333.length co24, .int .i64 t313, .int .i64 t314, .int .i64 t315, .int .i64 t316] 30 (0, 0)) z15_4 hb); have n7_ := z15_A (below_step z15_1 hb); clear HO_4 HO_7 HO_318001 HO341 HO348 BK295 BK317 HB; revert n0_ n1_ n2_ n3_ n4_ n5_ n6_ n7_; intro HO_4 HO_7 HO_318001 HO341 HO348 BK295 BK317 HB; (try clear hb); (try clear hb2); (try clear hk); (try clear hi)))
             go_meet
             case rel => exact ⟨_, (true), z15_20, H', ⟨by have := HJ10.out; have := HJ38.out; first | omega | exact Nat.le_refl _⟩, ⟨z15_25⟩, ⟨z15_24⟩, ⟨z15_27⟩, ⟨z15_26⟩, ⟨z15_1⟩⟩
           case rest =>
            clear HC65
            (try clear c1); (try clear c2); (try clear p2); (try clear c3); (try clear c3b0); (try clear c4); (try clear c5); (try clear c6); (try clear c7); (try clear c10); (try clear c13); (try clear c16); (try clear c19); (try clear c20); (try clear c22); (try clear c26); (try clear c27); (try clear c34); (try clear c37); (try clear c44); (try clear c45); (try clear c46); (try clear c47); (try clear c47b0); (try clear c49); (try clear c56); (try clear c59); (try clear c59b0); (try clear c62); (try clear c62b0); (try clear c62b1); (try clear c68); (try clear c74); (try clear hcz13_0); (try clear hcz13_1); (try clear hcz13_2); (try clear hcz13_3); (try clear hcz13_4); (try clear hcz13_5); (try clear hcz15_0); (try clear hcz15_1); (try clear hcz15_2); (try clear hcz15_3); (try clear hcz15_4); (try clear hcz15_5); (try clear hcz19_0); (try clear hcz19_1); (try clear hcz19_2); (try clear hcz19_3); (try clear hcz19_4); (try clear hcz19_5); (try clear hcz23_0); (try clear hcz23_1); (try clear hcz23_2); (try clear hcz23_3); (try clear hcz23_4); (try clear hcz23_5); (try clear hcz45_0); (try clear hcz45_1); (try clear hcz45_2); (try clear hcz45_3); (try clear hcz45_4); (try clear hcz45_5); (try clear hcz5_0); (try clear hcz5_1); (try clear hcz5_2); (try clear hcz5_3); (try clear hcz5_4); (try clear hcz5_5); (try clear hcz69_0); (try clear hcz69_1); (try clear hcz69_2); (try clear hcz69_3); (try clear hcz69_4); (try clear hcz69_5); (try clear hfz13_0); (try clear hfz13_1); (try clear hfz13_2); (try clear hfz13_3); (try clear hfz13_4); (try clear hfz13_5); (try clear hfz15_0); (try clear hfz15_1); (try clear hfz15_2); (try clear hfz15_3); (try clear hfz15_4); (try clear hfz15_5); (try clear hfz19_0); (try clear hfz19_1); (try clear hfz19_2); (try clear hfz19_3); (try clear hfz19_4); (try clear hfz19_5); (try clear hfz23_0); (try clear hfz23_1); (try clear hfz23_2); (try clear hfz23_3); (try clear hfz23_4); (try clear hfz23_5); (try clear hfz45_0); (try clear hfz45_1); (try clear hfz45_2); (try clear hfz45_3); (try clear hfz45_4); (try clear hfz45_5); (try clear hfz5_0); (try clear hfz5_1); (try clear hfz5_2); (try clear hfz5_3); (try clear hfz5_4); (try clear hfz5_5); (try clear hfz69_0); (try clear hfz69_1); (try clear hfz69_2); (try clear hfz69_3); (try clear hfz69_4); (try clear hfz69_5); (try clear p2)
            obtain ⟨kq, x87_64, rfl, HA, HJ64, HO_7, HO_318001, BK295, BK317, HB⟩ := hcut
            have hl7_64 := (Kd.R_reads' HO_7.out).1
            rw [hl7_64] at HO_7
            (try simp only [hl7_64])
            (try simp only [hl7_64] at BK295)
            (try simp only [hl7_64] at BK317)
            (try simp only [hl7_64] at HO_318001)
            cases kq with
            | zero => exact absurd HA.out (by simp [laws_FnExactBestLevels.j2])
            | succ kj64 =>
             have H := HA.out
             clear HA
             simp only [laws_FnExactBestLevels.j2] at H
             by_cases c81 : x87_64 = true
             ·subst c81
              have H1 : (some false) = some r := z15_23
              clear H
              have H := H1
              clear H1
              obtain rfl := Option.some.inj H
              go_wp2
              go_ret
              exact ⟨z15_9, z15_1⟩
             ·replace c81 := Bool.eq_false_iff.mpr c81
              subst c81
              have H1 : ((laws_heldIntA2S.f kj64 t336 1).bind fun t351 => (if t351 < 0 then (some false) else (if t351 = t335 then (some true) else (some false)))) = some r := z15_16
              clear H
              have H := H1
              clear H1
              replace H := Option.bind_eq_some_iff.mp H
              obtain ⟨t351, A820, H⟩ := H
              (try dsimp only at H)
              have A82 := z15_A A820
              clear A820
              by_cases c83 : t351 < 0
              ·rw [if_pos c83] at H
               have c83b0 : decide (t351 < 0) = true := decide_eq_true c83
               clear c83
               obtain rfl := Option.some.inj H
               go_wp2_with (first | ((with_reducible refine gate_callee (f := 46) rfl ?_); refine goesL_ (some 90) rfl rfl Try.func46 z15_15 rfl #[.slice Ao66 t336.length co66, .int .i64 1] rfl z15_3 ?_; (with_reducible refine (laws_heldIntA2S.calls kj64 _ _ t336 1 t351 _ ?side1 ?side2 A82.out).mono ?_); (case side1 => have zh := (Kd.R_reads' HO_7.out).2.2; exact z15_C); (case side2 => exact (Kd.R_reads' HO_7.out).2.1); rintro e w' ⟨rfl, ⟨nd, rfl⟩⟩; refine ⟨_, rfl, ?_⟩))
               go_ret
               exact ⟨z15_9, z15_1⟩
              ·rw [if_neg c83] at H
               have c83b0 : decide (t351 < 0) = false := decide_eq_false c83
               clear c83
               by_cases c84 : t351 = t335
               ·rw [if_pos c84] at H
                have c84b0 : (t351 == t335) = true := beq_iff_eq.mpr c84
                have c84b1 : (t351 != t335) = false := bne_eq_false_iff_eq.mpr c84
                clear c84
                obtain rfl := Option.some.inj H
                go_wp2_with (first | ((with_reducible refine gate_callee (f := 46) rfl ?_); refine goesL_ (some 90) rfl rfl Try.func46 z15_15 rfl #[.slice Ao66 t336.length co66, .int .i64 1] rfl z15_3 ?_; (with_reducible refine (laws_heldIntA2S.calls kj64 _ _ t336 1 t351 _ ?side1 ?side2 A82.out).mono ?_); (case side1 => have zh := (Kd.R_reads' HO_7.out).2.2; exact z15_C); (case side2 => exact (Kd.R_reads' HO_7.out).2.1); rintro e w' ⟨rfl, ⟨nd, rfl⟩⟩; refine ⟨_, rfl, ?_⟩))
                go_ret
                exact ⟨z15_9, z15_1⟩
               ·rw [if_neg c84] at H
                have c84b0 : (t351 == t335) = false := beq_eq_false_iff_ne.mpr c84
                have c84b1 : (t351 != t335) = true := bne_iff_ne.mpr c84
                obtain rfl := Option.some.inj H
                go_wp2_with (first | ((with_reducible refine gate_callee (f := 46) rfl ?_); refine goesL_ (some 90) rfl rfl Try.func46 z15_15 rfl #[.slice Ao66 t336.length co66, .int .i64 1] rfl z15_3 ?_; (with_reducible refine (laws_heldIntA2S.calls kj64 _ _ t336 1 t351 _ ?side1 ?side2 A82.out).mono ?_); (case side1 => have zh := (Kd.R_reads' HO_7.out).2.2; exact z15_C); (case side2 => exact (Kd.R_reads' HO_7.out).2.1); rintro e w' ⟨rfl, ⟨nd, rfl⟩⟩; refine ⟨_, rfl, ?_⟩))
                go_ret
                exact ⟨z15_9, z15_1⟩
          ·rw [if_neg c62] at H
           have c62b0 : (t337 == t335) = false := beq_eq_false_iff_ne.mpr c62
           have c62b1 : (t337 != t335) = true := bne_iff_ne.mpr c62
           obtain rfl := Option.some.inj H
           obtain ⟨Ao85, co85, eo85⟩ := Kd.R_slice HO_7.out
           subst eo85
           go_wp2_with (first | ((with_reducible refine gate_callee (f := 37) rfl ?_); refine goesL_ (some 64) rfl rfl Try.func37 z15_15 rfl #[.slice Ao85 t318.length co85, .int .i64 1] rfl z15_3 ?_; (with_reducible refine (laws_markIntA2S.calls kj38 (fun k_ => some k_ = (.slice Ao85 t318.length co85 : Value).ownBlock) (.slice Ao85 t318.length co85) t318 1 t335 t336 w _ ?side1 ?side2 A57.out).mono ?_); (case side1 => repeat (first | (with_reducible first | exact HB.out | apply below_alloc | apply pw_below_drewN | apply below_drew1 | refine below_set ?_ GE295.out | refine below_set ?_ GE317.out) | exact HB.out)); (case side2 => exact Kd.R_tight rfl HO_7.out); rintro e w86 ⟨rfl, hy0, hb, hkp⟩; refine ⟨_, rfl, ?_⟩; have n0_ := z15_A (Kd.R_mono (ok' := fun k_ => z15_S k_ Ao85 t318.length co85) (Kd.R_keptB (HO_4.out) hkp (fun k_ hk_ hs_ => (hk_) hs_)) (fun k_ hk_ => hk_.1)); have n1_ := z15_A (Kd.R_reok rfl hy0 (fun k_ e_ => HO_7.out.1 k_ e_)); have n2_ := z15_A (Kd.R_mono (ok' := fun k_ => True) (Kd.R_keptB ((Kd.R_apart' HO_318001.out (Kd.R_typed HO_7.out) z15_31)) hkp (fun k_ hk_ hs_ => (hk_.2) hs_)) (fun k_ hk_ => trivial)); have n3_ := z15_A (blk_kept (g := gb295) (o := .cells #[.int .i64 a0_0, .slice A0_1 l0_1.length c0_1, .int .i64 a0_2, .int .i64 a0_3, .int .i64 a0_4, .int .i64 a0_5] 24 (0, 0)) z15_2 hkp (fun hs_ => (fun e_ => (Kd.R_ne HO_7.out BK295.out z15_31) e_) hs_)); have n4_ := z15_A (blk_kept (g := gb317) (o := .cells #[.int .i64 t309, .slice Ao24 t333.length co24, .int .i64 t313, .int .i64 t314, .int .i64 t315, .int .i64 t316] 30 (0, 0)) z15_4 hkp (fun hs_ => (fun e_ => (Kd.R_ne HO_7.out BK317.out z15_31) e_) hs_)); have n5_ := z15_A (hb); clear HO_4 HO_7 HO_318001 BK295 BK317 HB; revert n0_ n1_ n2_ n3_ n4_ n5_; intro HO_4 HO_7 HO_318001 BK295 BK317 HB; (try clear hb); (try clear hkp); (try clear hy0)) | ((with_reducible refine gate_callee (f := 46) rfl ?_); refine goesL_ (some 67) rfl rfl Try.func46 z15_15 rfl #[.slice Ao85 t336.length co85, .int .i64 1] rfl z15_14 ?_; (with_reducible refine (laws_heldIntA2S.calls kj38 _ _ t336 1 t337 _ ?side1 ?side2 A58.out).mono ?_); (case side1 => have zh := (Kd.R_reads' HO_7.out).2.2; exact z15_C); (case side2 => rw [show t336.length = t318.length from (Kd.R_reads' HO_7.out).1.symm]; exact (Kd.R_reads' HO_7.out).2.1); rintro e w' ⟨rfl, ⟨nd, rfl⟩⟩; refine ⟨_, rfl, ?_⟩))
           go_ret
           exact ⟨z15_9, z15_1⟩
     ·replace c37 := Bool.eq_false_iff.mpr c37
      subst c37
      have H1 : (some false) = some r := z15_16
      clear H
      have H := H1
      clear H1
      obtain rfl := Option.some.inj H
      try go_wp2
      have n0_ := z15_A (Kd.R_drew HO_4.out)
      have n1_ := z15_A (Kd.R_drew HO_7.out)
      have n2_ := z15_A (Kd.R_drew HO_318001.out)
      have n3_ := z15_A (blk_drew BK295.out)
      have n4_ := z15_A (blk_drew BK317.out)
      have n5_ := z15_A (below_drew1 HB.out)
      clear HO_4
      clear HO_7
      clear HO_318001
      clear BK295
      clear BK317
      clear HB
      have HO_4 := n0_
      have HO_7 := n1_
      have HO_318001 := n2_
      have BK295 := n3_
      have BK317 := n4_
      have HB := n5_
      clear n0_ n1_ n2_ n3_ n4_ n5_
      refine start_ (n := 5) (S := fun w' => w'.cell? ⟨gb317, 0, none⟩ = some (.int .i64 t309) ∧ w'.cell? ⟨gb317, 1, none⟩ = some (.slice Ao24 t310.length co24) ∧ w'.cell? ⟨gb317, 2, none⟩ = some (.int .i64 t313) ∧ w'.cell? ⟨gb317, 3, none⟩ = some (.int .i64 t314) ∧ w'.cell? ⟨gb317, 4, none⟩ = some (.int .i64 t315) ∧ w'.cell? ⟨gb317, 5, none⟩ = some (.int .i64 t316) ∧ w'.cell? ⟨gb295, 0, none⟩ = some (.int .i64 a0_0) ∧ w'.cell? ⟨gb295, 1, none⟩ = some (.slice A0_1 l0_1.length c0_1) ∧ w'.cell? ⟨gb295, 2, none⟩ = some (.int .i64 a0_2) ∧ w'.cell? ⟨gb295, 3, none⟩ = some (.int .i64 a0_3) ∧ w'.cell? ⟨gb295, 4, none⟩ = some (.int .i64 a0_4) ∧ w'.cell? ⟨gb295, 5, none⟩ = some (.int .i64 a0_5)) (ds := []) #[false, false, false, false, false] z15_15 rfl rfl ⟨(blk_cell BK317.out 0).trans rfl, (blk_cell BK317.out 1).trans rfl, (blk_cell BK317.out 2).trans rfl, (blk_cell BK317.out 3).trans rfl, (blk_cell BK317.out 4).trans rfl, (blk_cell BK317.out 5).trans rfl, (blk_cell BK295.out 0).trans rfl, (blk_cell BK295.out 1).trans rfl, (blk_cell BK295.out 2).trans rfl, (blk_cell BK295.out 3).trans rfl, (blk_cell BK295.out 4).trans rfl, (blk_cell BK295.out 5).trans rfl⟩ (fun hHeld => ?_)
      generalize wc.drew = w87 at HO_4 HO_7 HO_318001 BK295 BK317 HB hHeld ⊢
      refine take_ (i := 0) (N := some 41) (v := ?_) (a' := ?_) #[true, false, false, false, false] rfl rfl z15_15 (fun _ _ _ h => h) (Or.inl ⟨by rfl, ?_⟩) hHeld ?_ ?_
      rotate_left
      ·rintro w' ⟨s0, s1, s2, s3, s4, s5, s6, s7, s8, s9, s10, s11⟩
       go_simp
       with_reducible rfl
      rotate_left
      ·simp only [Act.put, List.setIfInBounds_toArray, List.set_cons_zero, List.set_cons_succ, i64_w, i32_w]
       rfl
      refine take_ (i := 1) (N := some 42) (v := ?_) (a' := ?_) #[true, true, false, false, false] rfl rfl z15_15 (fun _ _ _ h => h) (Or.inl ⟨by rfl, ?_⟩) hHeld ?_ ?_
      rotate_left
      ·rintro w' ⟨s0, s1, s2, s3, s4, s5, s6, s7, s8, s9, s10, s11⟩
       go_simp
       with_reducible rfl
      rotate_left
      ·simp only [Act.put, List.setIfInBounds_toArray, List.set_cons_zero, List.set_cons_succ, i64_w, i32_w]
       rfl
      refine one_ (i := 2) (N := some 43) #[true, true, true, false, false] rfl rfl z15_15 z15_31 (fun K hK => ?_)
      refine goes_ Try.func16 z15_15 rfl #[.agg #[.int .i64 a0_0, .slice A0_1 l0_1.length c0_1, .int .i64 a0_2, .int .i64 a0_3, .int .i64 a0_4, .int .i64 a0_5]] (by rfl) rfl rfl z15_3 ?_
      with_reducible refine (laws_toProcess.calls kj10 a0_0 _ _ l0_1 a0_2 a0_3 a0_4 a0_5 t323 t324 t327 t328 t329 t330 _ ?side1 ?side2 A35.out).mono ?_
      (case side1 => have zh := (Kd.C_below HR0_1.out HB.out); exact z15_C)
      (case side2 => exact HC0_1.out)
      rintro e w88 ⟨v325, rfl, ho0, hb⟩
      refine ⟨_, rfl, ?_⟩
      have n0_ := z15_A (Kd.R_below z15_7 hb)
      have n1_ := z15_A (Kd.R_below z15_6 hb)
      have n2_ := z15_A (Kd.R_elder' z15_8 (Kd.R_base ho0) hb)
      have n3_ := z15_A (Kd.R_lower (Kd.R_new' ho0 (Kd.R_lt z15_8)) (below_size z15_1))
      have n4_ := z15_A (blk_below (g := gb295) (o := .cells #[.int .i64 a0_0, .slice A0_1 l0_1.length c0_1, .int .i64 a0_2, .int .i64 a0_3, .int .i64 a0_4, .int .i64 a0_5] 24 (0, 0)) z15_2 hb)
      have n5_ := z15_A (blk_below (g := gb317) (o := .cells #[.int .i64 t309, .slice Ao24 t310.length co24, .int .i64 t313, .int .i64 t314, .int .i64 t315, .int .i64 t316] 30 (0, 0)) z15_4 hb)
      have n6_ := z15_A (below_step z15_1 hb)
      clear HO_4
      clear HO_7
      clear HO_318001
      clear BK295
      clear BK317
      clear HB
      have HO_4 := n0_
      have HO_7 := n1_
      have HO_318001 := n2_
      have HO326 := n3_
      have BK295 := n4_
      have BK317 := n5_
      have HB := n6_
      clear n0_ n1_ n2_ n3_ n4_ n5_ n6_
      (try clear hb)
      (try clear hb2)
      (try clear hk)
      (try clear hi)
      (try clear ho0)
      obtain ⟨Ao89, co89, eo89⟩ := Kd.R_slice HO326.out
      (first | subst eo89 | (injection eo89 with f1_ f2_ f3_; have f4_ := f1_.symm; have f5_ := f3_.symm; clear f1_ f2_ f3_; subst f4_; subst f5_))
      refine hK.out _ _ ⟨(blk_cell BK317.out 0).trans rfl, (blk_cell BK317.out 1).trans rfl, (blk_cell BK317.out 2).trans rfl, (blk_cell BK317.out 3).trans rfl, (blk_cell BK317.out 4).trans rfl, (blk_cell BK317.out 5).trans rfl, (blk_cell BK295.out 0).trans rfl, (blk_cell BK295.out 1).trans rfl, (blk_cell BK295.out 2).trans rfl, (blk_cell BK295.out 3).trans rfl, (blk_cell BK295.out 4).trans rfl, (blk_cell BK295.out 5).trans rfl⟩ (fun hHeld => ?_)
      clear hK K
      refine norm_ (a' := ?_) ?_ ?_
      rotate_left
      ·show Act.put _ (some 43) _ = _
       simp only [Act.put, List.setIfInBounds_toArray, List.set_cons_zero, List.set_cons_succ, i64_w, i32_w]
       rfl
      refine one_ (i := 3) (N := some 44) #[true, true, true, true, false] rfl rfl z15_15 z15_31 (fun K hK => ?_)
      refine goes_ Try.func19 z15_15 rfl #[.agg #[.int .i64 t309, .slice Ao24 t310.length co24, .int .i64 t313, .int .i64 t314, .int .i64 t315, .int .i64 t316], .agg #[.int .i64 t323, .slice Ao89 t324.length co89, .int .i64 t327, .int .i64 t328, .int .i64 t329, .int .i64 t330]] (by rfl) rfl rfl z15_3 ?_
      with_reducible refine (laws_eqProcess.calls kj10 t309 _ _ t310 t313 t314 t315 t316 t323 _ _ t324 t327 t328 t329 t330 false _ ?side1 ?side2 ?side3 ?side4 A36.out).mono ?_
      (case side1 => have zh := (Kd.R_reads' HO_318001.out).2.2; exact z15_C)
      (case side2 => exact (Kd.R_reads' HO_318001.out).2.1)
      (case side3 => have zh := (Kd.R_reads' HO326.out).2.2; exact z15_C)
      (case side4 => exact (Kd.R_reads' HO326.out).2.1)
      rintro e w90 ⟨rfl, hb⟩
      refine ⟨_, rfl, ?_⟩
      have n0_ := z15_A (Kd.R_below z15_7 hb)
      have n1_ := z15_A (Kd.R_below z15_6 hb)
      have n2_ := z15_A (Kd.R_below z15_8 hb)
      have n3_ := z15_A (Kd.R_below z15_17 hb)
      have n4_ := z15_A (blk_below (g := gb295) (o := .cells #[.int .i64 a0_0, .slice A0_1 l0_1.length c0_1, .int .i64 a0_2, .int .i64 a0_3, .int .i64 a0_4, .int .i64 a0_5] 24 (0, 0)) z15_2 hb)
      have n5_ := z15_A (blk_below (g := gb317) (o := .cells #[.int .i64 t309, .slice Ao24 t310.length co24, .int .i64 t313, .int .i64 t314, .int .i64 t315, .int .i64 t316] 30 (0, 0)) z15_4 hb)
      have n6_ := z15_A (below_step z15_1 hb)
      clear HO_4
      clear HO_7
      clear HO_318001
      clear HO326
      clear BK295
      clear BK317
      clear HB
      have HO_4 := n0_
      have HO_7 := n1_
      have HO_318001 := n2_
      have HO326 := n3_
      have BK295 := n4_
      have BK317 := n5_
      have HB := n6_
      clear n0_ n1_ n2_ n3_ n4_ n5_ n6_
      (try clear hb)
      (try clear hb2)
      (try clear hk)
      (try clear hi)
      refine hK.out _ _ ⟨(blk_cell BK317.out 0).trans rfl, (blk_cell BK317.out 1).trans rfl, (blk_cell BK317.out 2).trans rfl, (blk_cell BK317.out 3).trans rfl, (blk_cell BK317.out 4).trans rfl, (blk_cell BK317.out 5).trans rfl, (blk_cell BK295.out 0).trans rfl, (blk_cell BK295.out 1).trans rfl, (blk_cell BK295.out 2).trans rfl, (blk_cell BK295.out 3).trans rfl, (blk_cell BK295.out 4).trans rfl, (blk_cell BK295.out 5).trans rfl⟩ (fun hHeld => ?_)
      clear hK K
      refine norm_ (a' := ?_) ?_ ?_
      rotate_left
      ·show Act.put _ (some 44) _ = _
       simp only [Act.put, List.setIfInBounds_toArray, List.set_cons_zero, List.set_cons_succ, i64_w, i32_w]
       rfl
      refine pure_ (i := 4) (N := some 45) (v := ?_) (a' := ?_) #[true, true, true, true, true] rfl rfl z15_15 (fun _ _ _ h => h) (Or.inl ⟨by rfl, ?_⟩) ?_ ?_
      rotate_left
      ·intro w'
       go_simp
       with_reducible rfl
      rotate_left
      ·simp only [Act.put, List.setIfInBounds_toArray, List.set_cons_zero, List.set_cons_succ, i64_w, i32_w]
       rfl
      refine done_ z15_15 ?_
      try go_wp2
      go_ret
      exact ⟨z15_9, z15_1⟩

end Go.Proofs.Ytmekmkhdhakohaa.PFnExactBestLevels
