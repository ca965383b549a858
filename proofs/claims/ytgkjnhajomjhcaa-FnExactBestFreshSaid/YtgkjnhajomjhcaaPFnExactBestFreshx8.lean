-- A text of this session (its program hook.py, over the kit's print.py): not a print of print.sh
-- THIN: one blank for two
import Derived.Test.YtgkjnhajomjhcaaPFnExactBestFreshx0
import Derived.Test.YtgkjnhajomjhcaaPFnExactBestFreshx1
import Derived.Test.YtgkjnhajomjhcaaPFnExactBestFreshx3
import Derived.Test.YtgkjnhajomjhcaaPFnExactBestFreshx4
import Derived.Test.YtgkjnhajomjhcaaPFnExactBestFreshx6
import Derived.Test.YtgkjnhajomjhcaaPFnExactBestFreshx7
namespace Go.Proofs.Ytgkjnhajomjhcaa.PFnExactBestFresh
open Go.RowKit Go.Proofs.YtgkjnhajomjhcaaW.PrintWords Go.Proofs.YtgkjnhajomjhcaaW.PrintLast Go.Proofs.YtgkjnhajomjhcaaW.PrintMore
attribute [local go_sem] max2_int min2_int max_two min_two max_three min_three max_four min_four   -- for this text's walks alone
set_option linter.unusedVariables false
set_option linter.unusedSimpArgs false

-- SQUEEZED
abbrev z8_S (k : Nat) (A : Option Addr) (n c : Nat) : Prop := some k ≠ (.slice A n c : Value).ownBlock
abbrev z8_V (k : Nat) (v : Value) : Prop := some k ≠ v.ownBlock
theorem z8_A {p : Prop} (h : p) : Aside0 p := Aside0.mk h
theorem z8_C {p : Prop} (h : p := by repeat (first | exact zh | (with_reducible refine Kd.C_alloc ?_ _) | (with_reducible refine Kd.C_drewN ?_ _) | (with_reducible refine Kd.C_drew ?_))) : p := h
theorem z8_1 {p : Prop} (h : p := by repeat (first | (with_reducible first | exact HB.out | apply below_alloc | apply pw_below_drewN | apply below_drew1 | refine below_set ?_ GE252.out | refine below_set ?_ GE283.out) | exact HB.out)) : p := h
theorem z8_2 {p : Prop} (h : p := by repeat (first | (with_reducible first | exact HB.out | apply below_alloc | apply pw_below_drewN | apply below_drew1 | refine below_set ?_ GE252.out) | exact HB.out)) : p := h
theorem z8_3 {p : Prop} (h : p := by (try simp only [List.map_toArray, List.map_cons, List.map_nil]); first | done | rfl | (simp only [List.length_drop, List.length_take]; rfl)) : p := h
theorem z8_4 {p : Prop} (h : p := by (with_reducible repeat (first | refine blk_drewN ?_ _ | refine blk_drew ?_ | refine blk_alloc ?_ _)); exact BK252.out) : p := h
theorem z8_5 {p : Prop} (h : p := by (with_reducible repeat (first | apply Kd.R_alloc | apply Kd.R_drewN | apply Kd.R_drew)); exact HO_284003.out) : p := h
theorem z8_6 {p : Prop} (h : p := by (with_reducible repeat (first | apply Kd.R_alloc | apply Kd.R_drewN | apply Kd.R_drew)); exact HO_284002.out) : p := h
theorem z8_7 {p : Prop} (h : p := by (with_reducible repeat (first | apply Kd.R_alloc | apply Kd.R_drewN | apply Kd.R_drew)); exact HO_284001.out) : p := h
theorem z8_8 {p : Prop} (h : p := by (with_reducible repeat (first | apply Kd.R_alloc | apply Kd.R_drewN | apply Kd.R_drew)); exact HO_284000.out) : p := h
theorem z8_9 {p : Prop} (h : p := by (with_reducible repeat (first | apply Kd.R_alloc | apply Kd.R_drewN | apply Kd.R_drew)); exact HO_10.out) : p := h
theorem z8_10 {p : Prop} (h : p := by (with_reducible repeat (first | apply Kd.R_alloc | apply Kd.R_drewN | apply Kd.R_drew)); exact HO_6.out) : p := h
theorem z8_11 {p : Prop} (h : p := by (with_reducible repeat (first | apply Kd.R_alloc | apply Kd.R_drewN | apply Kd.R_drew)); exact (Kd.R_mono (Kd.R_far (p := ⟨gb283, 3, none⟩) (Kd.R_far (p := ⟨gb283, 2, none⟩) (Kd.R_far (p := ⟨gb283, 1, none⟩) (Kd.R_far (p := ⟨gb283, 0, none⟩) (Kd.R_types HO282.out BK283.out (by decide)) (fun _ hk => hk.2) (.slice Ao26 t271.length co26)) (fun _ hk => hk.2) (.slice Ao29 t274.length co29)) (fun _ hk => hk.2) (.slice Ao30 t277.length co30)) (fun _ hk => hk.2) (.slice Ao31 t280.length co31)) (fun _ h_ => h_.1))) : p := h
theorem z8_12 {p : Prop} (h : p := by (with_reducible repeat (first | apply Kd.R_alloc | apply Kd.R_drewN | apply Kd.R_drew)); exact (Kd.R_mono (Kd.R_far (p := ⟨gb283, 3, none⟩) (Kd.R_far (p := ⟨gb283, 2, none⟩) (Kd.R_far (p := ⟨gb283, 1, none⟩) (Kd.R_far (p := ⟨gb283, 0, none⟩) (Kd.R_types HO279.out BK283.out (by decide)) (fun _ hk => hk.2) (.slice Ao26 t271.length co26)) (fun _ hk => hk.2) (.slice Ao29 t274.length co29)) (fun _ hk => hk.2) (.slice Ao30 t277.length co30)) (fun _ hk => hk.2) (.slice Ao31 t280.length co31)) (fun _ h_ => h_.1))) : p := h
theorem z8_13 {p : Prop} (h : p := by (with_reducible repeat (first | apply Kd.R_alloc | apply Kd.R_drewN | apply Kd.R_drew)); exact (Kd.R_mono (Kd.R_far (p := ⟨gb283, 3, none⟩) (Kd.R_far (p := ⟨gb283, 2, none⟩) (Kd.R_far (p := ⟨gb283, 1, none⟩) (Kd.R_far (p := ⟨gb283, 0, none⟩) (Kd.R_types HO276.out BK283.out (by decide)) (fun _ hk => hk.2) (.slice Ao26 t271.length co26)) (fun _ hk => hk.2) (.slice Ao29 t274.length co29)) (fun _ hk => hk.2) (.slice Ao30 t277.length co30)) (fun _ hk => hk.2) (.slice Ao31 t280.length co31)) (fun _ h_ => h_.1))) : p := h
theorem z8_14 {p : Prop} (h : p := by (with_reducible repeat (first | apply Kd.R_alloc | apply Kd.R_drewN | apply Kd.R_drew)); exact (Kd.R_mono (Kd.R_far (p := ⟨gb283, 3, none⟩) (Kd.R_far (p := ⟨gb283, 2, none⟩) (Kd.R_far (p := ⟨gb283, 1, none⟩) (Kd.R_far (p := ⟨gb283, 0, none⟩) (Kd.R_types HO273.out BK283.out (by decide)) (fun _ hk => hk.2) (.slice Ao26 t271.length co26)) (fun _ hk => hk.2) (.slice Ao29 t274.length co29)) (fun _ hk => hk.2) (.slice Ao30 t277.length co30)) (fun _ hk => hk.2) (.slice Ao31 t280.length co31)) (fun _ h_ => h_.1))) : p := h
theorem z8_15 {p : Prop} (h : p := by (with_reducible repeat (first | refine blk_drewN ?_ _ | refine blk_drew ?_ | refine blk_alloc ?_ _)); exact BK283.out) : p := h
theorem z8_16 {p : Prop} (h : p := by (with_reducible repeat (first | apply Kd.R_alloc | apply Kd.R_drewN | apply Kd.R_drew)); exact HO265.out) : p := h
theorem z8_17 {p : Prop} (h : p := by (with_reducible repeat (first | apply Kd.R_alloc | apply Kd.R_drewN | apply Kd.R_drew)); exact HO262.out) : p := h
theorem z8_18 {p : Prop} (h : p := by (with_reducible repeat (first | apply Kd.R_alloc | apply Kd.R_drewN | apply Kd.R_drew)); exact HO259.out) : p := h
theorem z8_19 {p : Prop} (h : p := by (with_reducible repeat (first | apply Kd.R_alloc | apply Kd.R_drewN | apply Kd.R_drew)); exact HO256.out) : p := h
theorem z8_20 {p : Prop} (h : p := by repeat (first | (with_reducible first | exact HB.out | apply below_alloc | apply pw_below_drewN | apply below_drew1) | exact HB.out)) : p := h
theorem z8_21 {p : Prop} (h : p := by (with_reducible repeat (first | apply Kd.R_alloc | apply Kd.R_drewN | apply Kd.R_drew)); exact HO268.out) : p := h
theorem z8_22 {p : Prop} (h : p := by (with_reducible repeat (first | apply Kd.R_alloc | apply Kd.R_drewN | apply Kd.R_drew)); exact (Kd.R_mono (Kd.R_far (p := ⟨gb283, 3, none⟩) (Kd.R_far (p := ⟨gb283, 2, none⟩) (Kd.R_far (p := ⟨gb283, 1, none⟩) (Kd.R_far (p := ⟨gb283, 0, none⟩) (Kd.R_types HO268.out BK283.out (by decide)) (fun _ hk => hk.2) (.slice Ao26 t271.length co26)) (fun _ hk => hk.2) (.slice Ao29 t274.length co29)) (fun _ hk => hk.2) (.slice Ao30 t277.length co30)) (fun _ hk => hk.2) (.slice Ao31 t280.length co31)) (fun _ h_ => h_.1))) : p := h
theorem z8_23 {p : Prop} (h : p := by (with_reducible repeat (first | apply Kd.R_alloc | apply Kd.R_drewN | apply Kd.R_drew)); exact (Kd.R_mono (Kd.R_far (p := ⟨gb283, 3, none⟩) (Kd.R_far (p := ⟨gb283, 2, none⟩) (Kd.R_far (p := ⟨gb283, 1, none⟩) (Kd.R_far (p := ⟨gb283, 0, none⟩) (Kd.R_types HO265.out BK283.out (by decide)) (fun _ hk => hk.2) (.slice Ao26 t271.length co26)) (fun _ hk => hk.2) (.slice Ao29 t274.length co29)) (fun _ hk => hk.2) (.slice Ao30 t277.length co30)) (fun _ hk => hk.2) (.slice Ao31 t280.length co31)) (fun _ h_ => h_.1))) : p := h
theorem z8_24 {p : Prop} (h : p := by (with_reducible repeat (first | apply Kd.R_alloc | apply Kd.R_drewN | apply Kd.R_drew)); exact (Kd.R_mono (Kd.R_far (p := ⟨gb283, 3, none⟩) (Kd.R_far (p := ⟨gb283, 2, none⟩) (Kd.R_far (p := ⟨gb283, 1, none⟩) (Kd.R_far (p := ⟨gb283, 0, none⟩) (Kd.R_types HO262.out BK283.out (by decide)) (fun _ hk => hk.2) (.slice Ao26 t271.length co26)) (fun _ hk => hk.2) (.slice Ao29 t274.length co29)) (fun _ hk => hk.2) (.slice Ao30 t277.length co30)) (fun _ hk => hk.2) (.slice Ao31 t280.length co31)) (fun _ h_ => h_.1))) : p := h
theorem z8_25 {p : Prop} (h : p := by (with_reducible repeat (first | apply Kd.R_alloc | apply Kd.R_drewN | apply Kd.R_drew)); exact (Kd.R_mono (Kd.R_far (p := ⟨gb283, 3, none⟩) (Kd.R_far (p := ⟨gb283, 2, none⟩) (Kd.R_far (p := ⟨gb283, 1, none⟩) (Kd.R_far (p := ⟨gb283, 0, none⟩) (Kd.R_types HO259.out BK283.out (by decide)) (fun _ hk => hk.2) (.slice Ao26 t271.length co26)) (fun _ hk => hk.2) (.slice Ao29 t274.length co29)) (fun _ hk => hk.2) (.slice Ao30 t277.length co30)) (fun _ hk => hk.2) (.slice Ao31 t280.length co31)) (fun _ h_ => h_.1))) : p := h
theorem z8_26 {p : Prop} (h : p := by (with_reducible repeat (first | apply Kd.R_alloc | apply Kd.R_drewN | apply Kd.R_drew)); exact (Kd.R_mono (Kd.R_far (p := ⟨gb283, 3, none⟩) (Kd.R_far (p := ⟨gb283, 2, none⟩) (Kd.R_far (p := ⟨gb283, 1, none⟩) (Kd.R_far (p := ⟨gb283, 0, none⟩) (Kd.R_types HO256.out BK283.out (by decide)) (fun _ hk => hk.2) (.slice Ao26 t271.length co26)) (fun _ hk => hk.2) (.slice Ao29 t274.length co29)) (fun _ hk => hk.2) (.slice Ao30 t277.length co30)) (fun _ hk => hk.2) (.slice Ao31 t280.length co31)) (fun _ h_ => h_.1))) : p := h
theorem z8_27 {p : Prop} (h : p := by rw [if_neg (show ¬ (false = true) by decide)] at H; exact H) : p := h
theorem z8_28 {p : Prop} (h : p := by kernel_rfl) : p := h
theorem z8_29 {p : Prop} (h : p := by rw [if_pos rfl] at H; exact H) : p := h
theorem z8_30 {p : Prop} (h : p := by (with_reducible repeat (first | apply Kd.R_alloc | apply Kd.R_drewN | apply Kd.R_drew)); exact HO323.out) : p := h
theorem z8_31 {p : Prop} (h : p := by (with_reducible repeat (first | apply Kd.R_alloc | apply Kd.R_drewN | apply Kd.R_drew)); exact HO320.out) : p := h
theorem z8_32 {p : Prop} (h : p := by (with_reducible repeat (first | apply Kd.R_alloc | apply Kd.R_drewN | apply Kd.R_drew)); exact HO317.out) : p := h
theorem z8_33 {p : Prop} (h : p := by (with_reducible repeat (first | apply Kd.R_alloc | apply Kd.R_drewN | apply Kd.R_drew)); exact HO314.out) : p := h
theorem z8_34 {p : Prop} (h : p := by rw [hg]; exact (below_size z8_20)) : p := h
theorem z8_35 {p : Prop} (h : p := by first | rfl | (simp [errW_none, errW_some] <;> rfl) | (simp [*, errW_none, errW_some] <;> rfl)) : p := h
theorem z8_36 {p : Prop} (h : p := by first | rfl | (simp; done) | (simp [*]; done)) : p := h

/-! ### laws_FnExactBestFresh: function 8 -/
mutual
def laws_FnExactBestFresh.j0 : Nat → Int → List Int → Int → Bool → List Int → Int → Bool → Bool → List Int → List Int → List Int → List Int → List Int → List Int → List Int → List Int → Option (Bool)
 | 0, _, _, _, _, _, _, _, _, _, _, _, _, _, _, _, _ => none
 | k + 1, x1, x6, x7, x8, x10, x11, x12, x54, x253000, x253001, x253002, x253003, x284000, x284001, x284002, x284003 => if x54 = true then (none) else ((laws_toCase.f k x253000 x253001 x253002 x253003).bind fun bt290 => ((laws_eqCase.f k x284000 x284001 x284002 x284003 bt290.1 bt290.2.1 bt290.2.2.1 bt290.2.2.2).bind fun t302 => (if t302 = true then ((laws_markCase.f k x284000 x284001 x284002 x284003 1).bind fun bt303 => (if bt303.1 < 0 then (none) else ((laws_eqIntS.f k x10 x6).bind fun t308 => (if t308 = true then (if x11 = x7 then (laws_FnExactBestFresh.j1 k x1 x6 x7 x8 x10 (x12 != x8) x253000 x253001 x253002 x253003) else (none)) else (none))))) else (none))))
def laws_FnExactBestFresh.j1 : Nat → Int → List Int → Int → Bool → List Int → Bool → List Int → List Int → List Int → List Int → Option (Bool)
 | 0, _, _, _, _, _, _, _, _, _, _ => none
 | k + 1, x1, x6, x7, x8, x10, x80, x253000, x253001, x253002, x253003 => if x80 = true then (none) else ((laws_markIntS.f k x10 1).bind fun bt309 => ((laws_heldIntS.f k bt309.2 1).bind fun t311 => (if t311 < 0 then (none) else (if t311 = bt309.1 then ((laws_toCase.f k x253000 x253001 x253002 x253003).bind fun bt312 => ((impl_BestFresh.f k bt312.1 bt312.2.1 bt312.2.2.1 bt312.2.2.2 x1).bind fun bt324 => ((laws_eqIntS.f k bt324.1 x6).bind fun t329 => (if t329 = true then (if bt324.2.1 = x7 then (laws_FnExactBestFresh.j2 k bt309.2 bt309.1 (bt324.2.2 != x8)) else (none)) else (none))))) else (none)))))
def laws_FnExactBestFresh.j2 : Nat → List Int → Int → Bool → Option (Bool)
 | 0, _, _, _ => none
 | k + 1, x10, x14, x113 => if x113 = true then (none) else ((laws_heldIntS.f k x10 1).bind fun t330 => (if t330 < 0 then (none) else (if t330 = x14 then (some true) else (none))))
end
def laws_FnExactBestFresh.f (k : Nat) (l0_0 : List Int) (l0_1 : List Int) (l0_2 : List Int) (l0_3 : List Int) (a1 : Int) : Option (Bool) := (laws_szCase.f l0_0 l0_1 l0_2 l0_3 1048576).bind fun t253 => (if t253 < 0 then (some true) else ((laws_toCase.f k l0_0 l0_1 l0_2 l0_3).bind fun bt254 => ((spec_BestFresh.f k bt254.1 bt254.2.1 bt254.2.2.1 bt254.2.2.2 a1).bind fun bt266 => ((laws_toCase.f k l0_0 l0_1 l0_2 l0_3).bind fun bt271 => ((impl_BestFresh.f k bt271.1 bt271.2.1 bt271.2.2.1 bt271.2.2.2 a1).bind fun bt284 => ((laws_eqIntS.f k bt284.1 bt266.1).bind fun t289 => (if t289 = true then (if bt284.2.1 = bt266.2.1 then (laws_FnExactBestFresh.j0 k a1 bt266.1 bt266.2.1 bt266.2.2 bt284.1 bt284.2.1 bt284.2.2 (bt284.2.2 != bt266.2.2) l0_0 l0_1 l0_2 l0_3 bt271.1 bt271.2.1 bt271.2.2.1 bt271.2.2.2) else (none)) else (none))))))))
theorem laws_FnExactBestFresh.mono_l : ∀ k, (∀ y0 y1 y2 y3 y4 y5 y6 y7 y8 y9 y10 y11 y12 y13 y14 y15, LeO (laws_FnExactBestFresh.j0 k y0 y1 y2 y3 y4 y5 y6 y7 y8 y9 y10 y11 y12 y13 y14 y15) (laws_FnExactBestFresh.j0 (k + 1) y0 y1 y2 y3 y4 y5 y6 y7 y8 y9 y10 y11 y12 y13 y14 y15)) ∧ (∀ y0 y1 y2 y3 y4 y5 y6 y7 y8 y9, LeO (laws_FnExactBestFresh.j1 k y0 y1 y2 y3 y4 y5 y6 y7 y8 y9) (laws_FnExactBestFresh.j1 (k + 1) y0 y1 y2 y3 y4 y5 y6 y7 y8 y9)) ∧ (∀ y0 y1 y2, LeO (laws_FnExactBestFresh.j2 k y0 y1 y2) (laws_FnExactBestFresh.j2 (k + 1) y0 y1 y2))
 | 0 => ⟨fun _ _ _ _ _ _ _ _ _ _ _ _ _ _ _ _ r h => by simp [laws_FnExactBestFresh.j0] at h, fun _ _ _ _ _ _ _ _ _ _ r h => by simp [laws_FnExactBestFresh.j1] at h, fun _ _ _ r h => by simp [laws_FnExactBestFresh.j2] at h⟩
 | k + 1 => by
  obtain ⟨ih0, ih1, ih2⟩ := laws_FnExactBestFresh.mono_l k
  refine ⟨?_, ?_, ?_⟩ <;> intros <;> (first | unfold laws_FnExactBestFresh.j0 | unfold laws_FnExactBestFresh.j1 | unfold laws_FnExactBestFresh.j2) <;> repeat' first
   | (with_reducible exact ih0 _ _ _ _ _ _ _ _ _ _ _ _ _ _ _ _)
   | (with_reducible exact ih1 _ _ _ _ _ _ _ _ _ _)
   | (with_reducible exact ih2 _ _ _)
   | (with_reducible exact impl_BestFresh.mono _ _ _ _ _ _)
   | (with_reducible exact laws_eqCase.mono _ _ _ _ _ _ _ _ _)
   | (with_reducible exact laws_eqIntS.mono _ _ _)
   | (with_reducible exact laws_heldIntS.mono _ _ _)
   | (with_reducible exact laws_markCase.mono _ _ _ _ _ _)
   | (with_reducible exact laws_markIntS.mono _ _ _)
   | (with_reducible exact laws_toCase.mono _ _ _ _ _)
   | (with_reducible exact spec_BestFresh.mono _ _ _ _ _ _)
   | (with_reducible exact LeO.refl _)
   | (with_reducible exact LeO.none _)
   | (with_reducible refine LeO.ite ?_ ?_)
   | (with_reducible refine LeO.bind ?_ (fun _ => ?_))
   | exact ih0 _ _ _ _ _ _ _ _ _ _ _ _ _ _ _ _
   | exact ih1 _ _ _ _ _ _ _ _ _ _
   | exact ih2 _ _ _
   | exact impl_BestFresh.mono _ _ _ _ _ _
   | exact laws_eqCase.mono _ _ _ _ _ _ _ _ _
   | exact laws_eqIntS.mono _ _ _
   | exact laws_heldIntS.mono _ _ _
   | exact laws_markCase.mono _ _ _ _ _ _
   | exact laws_markIntS.mono _ _ _
   | exact laws_toCase.mono _ _ _ _ _
   | exact spec_BestFresh.mono _ _ _ _ _ _
   | exact LeO.none _
   | refine LeO.ite ?_ ?_
   | refine LeO.bind ?_ (fun _ => ?_)
theorem laws_FnExactBestFresh.mono : ∀ a0 a1 a2 a3 a4 k, LeO (laws_FnExactBestFresh.f k a0 a1 a2 a3 a4) (laws_FnExactBestFresh.f (k + 1) a0 a1 a2 a3 a4) := by
 intro a0 a1 a2 a3 a4 k
 obtain ⟨ih0, ih1, ih2⟩ := laws_FnExactBestFresh.mono_l k
 unfold laws_FnExactBestFresh.f
 repeat' first
   | (with_reducible exact ih0 _ _ _ _ _ _ _ _ _ _ _ _ _ _ _ _)
   | (with_reducible exact ih1 _ _ _ _ _ _ _ _ _ _)
   | (with_reducible exact ih2 _ _ _)
   | (with_reducible exact impl_BestFresh.mono _ _ _ _ _ _)
   | (with_reducible exact laws_eqCase.mono _ _ _ _ _ _ _ _ _)
   | (with_reducible exact laws_eqIntS.mono _ _ _)
   | (with_reducible exact laws_heldIntS.mono _ _ _)
   | (with_reducible exact laws_markCase.mono _ _ _ _ _ _)
   | (with_reducible exact laws_markIntS.mono _ _ _)
   | (with_reducible exact laws_toCase.mono _ _ _ _ _)
   | (with_reducible exact spec_BestFresh.mono _ _ _ _ _ _)
   | (with_reducible exact LeO.refl _)
   | (with_reducible exact LeO.none _)
   | (with_reducible refine LeO.ite ?_ ?_)
   | (with_reducible refine LeO.bind ?_ (fun _ => ?_))
   | exact ih0 _ _ _ _ _ _ _ _ _ _ _ _ _ _ _ _
   | exact ih1 _ _ _ _ _ _ _ _ _ _
   | exact ih2 _ _ _
   | exact impl_BestFresh.mono _ _ _ _ _ _
   | exact laws_eqCase.mono _ _ _ _ _ _ _ _ _
   | exact laws_eqIntS.mono _ _ _
   | exact laws_heldIntS.mono _ _ _
   | exact laws_markCase.mono _ _ _ _ _ _
   | exact laws_markIntS.mono _ _ _
   | exact laws_toCase.mono _ _ _ _ _
   | exact spec_BestFresh.mono _ _ _ _ _ _
   | exact LeO.none _
   | refine LeO.ite ?_ ?_
   | refine LeO.bind ?_ (fun _ => ?_)
set_option maxHeartbeats 8000000 in
set_option maxRecDepth 100000 in
theorem laws_FnExactBestFresh.calls (k : Nat) (A0_0 : Option Addr) (c0_0 : Nat) (l0_0 : List Int) (A0_1 : Option Addr) (c0_1 : Nat) (l0_1 : List Int) (A0_2 : Option Addr) (c0_2 : Nat) (l0_2 : List Int) (A0_3 : Option Addr) (c0_3 : Nat) (l0_3 : List Int) (a1 : Int) (r : Bool) (w : World) (hr0_0 : Kd.C (Kd.int .i64) w A0_0 l0_0.length l0_0) (hc0_0 : l0_0.length ≤ c0_0) (hr0_1 : Kd.C (Kd.int .i64) w A0_1 l0_1.length l0_1) (hc0_1 : l0_1.length ≤ c0_1) (hr0_2 : Kd.C (Kd.int .i64) w A0_2 l0_2.length l0_2) (hc0_2 : l0_2.length ≤ c0_2) (hr0_3 : Kd.C (Kd.int .i64) w A0_3 l0_3.length l0_3) (hc0_3 : l0_3.length ≤ c0_3) (h : laws_FnExactBestFresh.f k l0_0 l0_1 l0_2 l0_3 a1 = some r) :
  Calls Try.prog 8 #[.agg #[.slice A0_0 l0_0.length c0_0, .slice A0_1 l0_1.length c0_1, .slice A0_2 l0_2.length c0_2, .slice A0_3 l0_3.length c0_3], .int .i64 a1] w fun e w' => e = .returned (.bool r) ∧ Below w.heap.size w w' := by
 have hu46 := Try.underlying46
 have hu50 := Try.underlying50
 have HR0_0 := z8_A hr0_0
 have HC0_0 := z8_A hc0_0
 clear hr0_0 hc0_0
 have HR0_1 := z8_A hr0_1
 have HC0_1 := z8_A hc0_1
 clear hr0_1 hc0_1
 have HR0_2 := z8_A hr0_2
 have HC0_2 := z8_A hc0_2
 clear hr0_2 hc0_2
 have HR0_3 := z8_A hr0_3
 have HC0_3 := z8_A hc0_3
 clear hr0_3 hc0_3
 have HB := z8_A (Below.refl w.heap.size w)
 have H : ((laws_szCase.f l0_0 l0_1 l0_2 l0_3 1048576).bind fun t253 => (if t253 < 0 then (some true) else ((laws_toCase.f k l0_0 l0_1 l0_2 l0_3).bind fun bt254 => ((spec_BestFresh.f k bt254.1 bt254.2.1 bt254.2.2.1 bt254.2.2.2 a1).bind fun bt266 => ((laws_toCase.f k l0_0 l0_1 l0_2 l0_3).bind fun bt271 => ((impl_BestFresh.f k bt271.1 bt271.2.1 bt271.2.2.1 bt271.2.2.2 a1).bind fun bt284 => ((laws_eqIntS.f k bt284.1 bt266.1).bind fun t289 => (if t289 = true then (if bt284.2.1 = bt266.2.1 then (laws_FnExactBestFresh.j0 k a1 bt266.1 bt266.2.1 bt266.2.2 bt284.1 bt284.2.1 bt284.2.2 (bt284.2.2 != bt266.2.2) l0_0 l0_1 l0_2 l0_3 bt271.1 bt271.2.1 bt271.2.2.1 bt271.2.2.2) else (none)) else (none))))))))) = some r := h
 clear h
 replace H := Option.bind_eq_some_iff.mp H
 obtain ⟨t253, A30, H⟩ := H
 (try dsimp only at H)
 have A3 := z8_A A30
 clear A30
 by_cases c4 : t253 < 0
 ·rw [if_pos c4] at H
  have c4b0 : decide (t253 < 0) = true := decide_eq_true c4
  clear c4
  obtain rfl := Option.some.inj H
  go_enter Try.func8, Try.ntmps8
  go_wp2_with (first | ((with_reducible refine gate_dst (N := 2) rfl ?_); refine box_event ?hg (N := 2) ?hd (cs := #[.slice A0_0 l0_0.length c0_0, .slice A0_1 l0_1.length c0_1, .slice A0_2 l0_2.length c0_2, .slice A0_3 l0_3.length c0_3]) (t := 46) ?hr ?_; (case hd => rfl); (case hg => rfl); (case hr => first | (go_simp; done) | (go_simp; rfl)); intro gb252 hg w5 hbox hb; have n0_ := z8_A (below_step z8_20 hb); have n1_ := z8_A (hbox); have n2_ := z8_A ((z8_34 : w.heap.size ≤ gb252)); have n3_ := z8_A ((z8_34 : w.heap.size ≤ gb252)); clear HB; revert n0_ n1_ n2_ n3_; intro HB BK252 GW252 GE252; clear hb hbox hg; have hcz6_0 : w5.cell? ⟨gb252, 0, none⟩ = some (.slice A0_0 l0_0.length c0_0) := (blk_cell BK252.out 0).trans rfl; have hcz6_1 : w5.cell? ⟨gb252, 1, none⟩ = some (.slice A0_1 l0_1.length c0_1) := (blk_cell BK252.out 1).trans rfl; have hcz6_2 : w5.cell? ⟨gb252, 2, none⟩ = some (.slice A0_2 l0_2.length c0_2) := (blk_cell BK252.out 2).trans rfl; have hcz6_3 : w5.cell? ⟨gb252, 3, none⟩ = some (.slice A0_3 l0_3.length c0_3) := (blk_cell BK252.out 3).trans rfl; have hfz6_0 := blk_frozen BK252.out 0; have hfz6_1 := blk_frozen BK252.out 1; have hfz6_2 := blk_frozen BK252.out 2; have hfz6_3 := blk_frozen BK252.out 3) | ((with_reducible refine gate_callee (f := 33) rfl ?_); refine goesL_ (some 21) rfl rfl Try.func33 z8_28 rfl #[.agg #[.slice A0_0 l0_0.length c0_0, .slice A0_1 l0_1.length c0_1, .slice A0_2 l0_2.length c0_2, .slice A0_3 l0_3.length c0_3], .int .i64 1048576] rfl z8_3 ?_; (with_reducible refine (laws_szCase.calls _ _ l0_0 _ _ l0_1 _ _ l0_2 _ _ l0_3 1048576 t253 _ ?side1 ?side2 ?side3 ?side4 ?side5 ?side6 ?side7 ?side8 A3.out).mono ?_); (case side1 => have zh := (Kd.C_below HR0_0.out HB.out); exact z8_C); (case side2 => exact HC0_0.out); (case side3 => have zh := (Kd.C_below HR0_1.out HB.out); exact z8_C); (case side4 => exact HC0_1.out); (case side5 => have zh := (Kd.C_below HR0_2.out HB.out); exact z8_C); (case side6 => exact HC0_2.out); (case side7 => have zh := (Kd.C_below HR0_3.out HB.out); exact z8_C); (case side8 => exact HC0_3.out); rintro e w7 ⟨rfl, hb⟩; refine ⟨_, rfl, ?_⟩; have n0_ := z8_A (blk_below (g := gb252) (o := .cells #[.slice A0_0 l0_0.length c0_0, .slice A0_1 l0_1.length c0_1, .slice A0_2 l0_2.length c0_2, .slice A0_3 l0_3.length c0_3] 46 (0, 0)) z8_4 hb); have n1_ := z8_A (below_step z8_2 hb); clear BK252 HB; revert n0_ n1_; intro BK252 HB; (try clear hb); (try clear hb2); (try clear hk); (try clear hi)))
  go_ret
  exact ⟨z8_35, z8_2⟩
 ·rw [if_neg c4] at H
  have c4b0 : decide (t253 < 0) = false := decide_eq_false c4
  clear c4
  replace H := Option.bind_eq_some_iff.mp H
  obtain ⟨⟨t254, t257, t260, t263⟩, A80, H⟩ := H
  (try dsimp only at H)
  have A8 := z8_A A80
  clear A80
  replace H := Option.bind_eq_some_iff.mp H
  obtain ⟨⟨t266, t269, t270⟩, A90, H⟩ := H
  (try dsimp only at H)
  have A9 := z8_A A90
  clear A90
  replace H := Option.bind_eq_some_iff.mp H
  obtain ⟨⟨t271, t274, t277, t280⟩, A100, H⟩ := H
  (try dsimp only at H)
  have A10 := z8_A A100
  clear A100
  replace H := Option.bind_eq_some_iff.mp H
  obtain ⟨⟨t284, t287, t288⟩, A110, H⟩ := H
  (try dsimp only at H)
  have A11 := z8_A A110
  clear A110
  have HC12 := z8_A H
  clear H
  go_enter Try.func8, Try.ntmps8
  go_upto_region 8 with (first | ((with_reducible refine gate_dst (N := 2) rfl ?_); refine box_event ?hg (N := 2) ?hd (cs := #[.slice A0_0 l0_0.length c0_0, .slice A0_1 l0_1.length c0_1, .slice A0_2 l0_2.length c0_2, .slice A0_3 l0_3.length c0_3]) (t := 46) ?hr ?_; (case hd => rfl); (case hg => rfl); (case hr => first | (go_simp; done) | (go_simp; rfl)); intro gb252 hg w13 hbox hb; have n0_ := z8_A (below_step z8_20 hb); have n1_ := z8_A (hbox); have n2_ := z8_A ((z8_34 : w.heap.size ≤ gb252)); have n3_ := z8_A ((z8_34 : w.heap.size ≤ gb252)); clear HB; revert n0_ n1_ n2_ n3_; intro HB BK252 GW252 GE252; clear hb hbox hg; have hcz14_0 : w13.cell? ⟨gb252, 0, none⟩ = some (.slice A0_0 l0_0.length c0_0) := (blk_cell BK252.out 0).trans rfl; have hcz14_1 : w13.cell? ⟨gb252, 1, none⟩ = some (.slice A0_1 l0_1.length c0_1) := (blk_cell BK252.out 1).trans rfl; have hcz14_2 : w13.cell? ⟨gb252, 2, none⟩ = some (.slice A0_2 l0_2.length c0_2) := (blk_cell BK252.out 2).trans rfl; have hcz14_3 : w13.cell? ⟨gb252, 3, none⟩ = some (.slice A0_3 l0_3.length c0_3) := (blk_cell BK252.out 3).trans rfl; have hfz14_0 := blk_frozen BK252.out 0; have hfz14_1 := blk_frozen BK252.out 1; have hfz14_2 := blk_frozen BK252.out 2; have hfz14_3 := blk_frozen BK252.out 3) | ((with_reducible refine gate_callee (f := 33) rfl ?_); refine goesL_ (some 21) rfl rfl Try.func33 z8_28 rfl #[.agg #[.slice A0_0 l0_0.length c0_0, .slice A0_1 l0_1.length c0_1, .slice A0_2 l0_2.length c0_2, .slice A0_3 l0_3.length c0_3], .int .i64 1048576] rfl z8_3 ?_; (with_reducible refine (laws_szCase.calls _ _ l0_0 _ _ l0_1 _ _ l0_2 _ _ l0_3 1048576 t253 _ ?side1 ?side2 ?side3 ?side4 ?side5 ?side6 ?side7 ?side8 A3.out).mono ?_); (case side1 => have zh := (Kd.C_below HR0_0.out HB.out); exact z8_C); (case side2 => exact HC0_0.out); (case side3 => have zh := (Kd.C_below HR0_1.out HB.out); exact z8_C); (case side4 => exact HC0_1.out); (case side5 => have zh := (Kd.C_below HR0_2.out HB.out); exact z8_C); (case side6 => exact HC0_2.out); (case side7 => have zh := (Kd.C_below HR0_3.out HB.out); exact z8_C); (case side8 => exact HC0_3.out); rintro e w15 ⟨rfl, hb⟩; refine ⟨_, rfl, ?_⟩; have n0_ := z8_A (blk_below (g := gb252) (o := .cells #[.slice A0_0 l0_0.length c0_0, .slice A0_1 l0_1.length c0_1, .slice A0_2 l0_2.length c0_2, .slice A0_3 l0_3.length c0_3] 46 (0, 0)) z8_4 hb); have n1_ := z8_A (below_step z8_2 hb); clear BK252 HB; revert n0_ n1_; intro BK252 HB; (try clear hb); (try clear hb2); (try clear hk); (try clear hi); have hcz16_0 : w15.cell? ⟨gb252, 0, none⟩ = some (.slice A0_0 l0_0.length c0_0) := (blk_cell BK252.out 0).trans rfl; have hcz16_1 : w15.cell? ⟨gb252, 1, none⟩ = some (.slice A0_1 l0_1.length c0_1) := (blk_cell BK252.out 1).trans rfl; have hcz16_2 : w15.cell? ⟨gb252, 2, none⟩ = some (.slice A0_2 l0_2.length c0_2) := (blk_cell BK252.out 2).trans rfl; have hcz16_3 : w15.cell? ⟨gb252, 3, none⟩ = some (.slice A0_3 l0_3.length c0_3) := (blk_cell BK252.out 3).trans rfl; have hfz16_0 := blk_frozen BK252.out 0; have hfz16_1 := blk_frozen BK252.out 1; have hfz16_2 := blk_frozen BK252.out 2; have hfz16_3 := blk_frozen BK252.out 3) | ((with_reducible refine gate_callee (f := 35) rfl ?_); refine goesL_ (some 26) rfl rfl Try.func35 z8_28 rfl #[.agg #[.slice A0_0 l0_0.length c0_0, .slice A0_1 l0_1.length c0_1, .slice A0_2 l0_2.length c0_2, .slice A0_3 l0_3.length c0_3]] rfl z8_3 ?_; (with_reducible refine (laws_toCase.calls k _ _ l0_0 _ _ l0_1 _ _ l0_2 _ _ l0_3 t254 t257 t260 t263 _ ?side1 ?side2 ?side3 ?side4 ?side5 ?side6 ?side7 ?side8 A8.out).mono ?_); (case side1 => have zh := (Kd.C_below HR0_0.out HB.out); exact z8_C); (case side2 => exact HC0_0.out); (case side3 => have zh := (Kd.C_below HR0_1.out HB.out); exact z8_C); (case side4 => exact HC0_1.out); (case side5 => have zh := (Kd.C_below HR0_2.out HB.out); exact z8_C); (case side6 => exact HC0_2.out); (case side7 => have zh := (Kd.C_below HR0_3.out HB.out); exact z8_C); (case side8 => exact HC0_3.out); rintro e w17 ⟨v255, v258, v261, v264, rfl, ho0, ho1, ho2, ho3, hb⟩; refine ⟨_, rfl, ?_⟩; have n0_ := z8_A (Kd.R_lower ho0 (below_size z8_2)); have n1_ := z8_A (Kd.R_lower ho1 (below_size z8_2)); have n2_ := z8_A (Kd.R_lower ho2 (below_size z8_2)); have n3_ := z8_A (Kd.R_lower ho3 (below_size z8_2)); have n4_ := z8_A (blk_below (g := gb252) (o := .cells #[.slice A0_0 l0_0.length c0_0, .slice A0_1 l0_1.length c0_1, .slice A0_2 l0_2.length c0_2, .slice A0_3 l0_3.length c0_3] 46 (0, 0)) z8_4 hb); have n5_ := z8_A (below_step z8_2 hb); clear BK252 HB; revert n0_ n1_ n2_ n3_ n4_ n5_; intro HO256 HO259 HO262 HO265 BK252 HB; (try clear hb); (try clear hb2); (try clear hk); (try clear hi); (try clear ho0); (try clear ho1); (try clear ho2); (try clear ho3); obtain ⟨Ao18, co18, eo18⟩ := Kd.R_slice HO256.out; subst eo18; obtain ⟨Ao19, co19, eo19⟩ := Kd.R_slice HO259.out; subst eo19; obtain ⟨Ao20, co20, eo20⟩ := Kd.R_slice HO262.out; subst eo20; obtain ⟨Ao21, co21, eo21⟩ := Kd.R_slice HO265.out; subst eo21) | ((with_reducible refine gate_callee (f := 34) rfl ?_); refine goesL_ (some 28) rfl rfl Try.func34 z8_28 rfl #[.agg #[.slice Ao18 t254.length co18, .slice Ao19 t257.length co19, .slice Ao20 t260.length co20, .slice Ao21 t263.length co21], .int .i64 a1] rfl z8_3 ?_; (with_reducible refine (spec_BestFresh.calls k _ _ t254 _ _ t257 _ _ t260 _ _ t263 a1 t266 t269 t270 _ ?side1 ?side2 ?side3 ?side4 ?side5 ?side6 ?side7 ?side8 A9.out).mono ?_); (case side1 => have zh := (Kd.R_reads' HO256.out).2.2; exact z8_C); (case side2 => exact (Kd.R_reads' HO256.out).2.1); (case side3 => have zh := (Kd.R_reads' HO259.out).2.2; exact z8_C); (case side4 => exact (Kd.R_reads' HO259.out).2.1); (case side5 => have zh := (Kd.R_reads' HO262.out).2.2; exact z8_C); (case side6 => exact (Kd.R_reads' HO262.out).2.1); (case side7 => have zh := (Kd.R_reads' HO265.out).2.2; exact z8_C); (case side8 => exact (Kd.R_reads' HO265.out).2.1); rintro e w22 ⟨v267, rfl, ho0, hb⟩; refine ⟨_, rfl, ?_⟩; have n0_ := z8_A (Kd.R_elder' z8_19 (Kd.R_base ho0) hb); have n1_ := z8_A (Kd.R_elder' z8_18 (Kd.R_base ho0) hb); have n2_ := z8_A (Kd.R_elder' z8_17 (Kd.R_base ho0) hb); have n3_ := z8_A (Kd.R_elder' z8_16 (Kd.R_base ho0) hb); have n4_ := z8_A (Kd.R_lower (Kd.R_new' (Kd.R_new' (Kd.R_new' (Kd.R_new' ho0 (Kd.R_lt z8_19)) (Kd.R_lt z8_18)) (Kd.R_lt z8_17)) (Kd.R_lt z8_16)) (below_size z8_2)); have n5_ := z8_A (blk_below (g := gb252) (o := .cells #[.slice A0_0 l0_0.length c0_0, .slice A0_1 l0_1.length c0_1, .slice A0_2 l0_2.length c0_2, .slice A0_3 l0_3.length c0_3] 46 (0, 0)) z8_4 hb); have n6_ := z8_A (below_step z8_2 hb); clear HO256 HO259 HO262 HO265 BK252 HB; revert n0_ n1_ n2_ n3_ n4_ n5_ n6_; intro HO256 HO259 HO262 HO265 HO268 BK252 HB; (try clear hb); (try clear hb2); (try clear hk); (try clear hi); (try clear ho0); have hcz23_0 : w22.cell? ⟨gb252, 0, none⟩ = some (.slice A0_0 l0_0.length c0_0) := (blk_cell BK252.out 0).trans rfl; have hcz23_1 : w22.cell? ⟨gb252, 1, none⟩ = some (.slice A0_1 l0_1.length c0_1) := (blk_cell BK252.out 1).trans rfl; have hcz23_2 : w22.cell? ⟨gb252, 2, none⟩ = some (.slice A0_2 l0_2.length c0_2) := (blk_cell BK252.out 2).trans rfl; have hcz23_3 : w22.cell? ⟨gb252, 3, none⟩ = some (.slice A0_3 l0_3.length c0_3) := (blk_cell BK252.out 3).trans rfl; have hfz23_0 := blk_frozen BK252.out 0; have hfz23_1 := blk_frozen BK252.out 1; have hfz23_2 := blk_frozen BK252.out 2; have hfz23_3 := blk_frozen BK252.out 3) | ((with_reducible refine gate_callee (f := 35) rfl ?_); refine goesL_ (some 33) rfl rfl Try.func35 z8_28 rfl #[.agg #[.slice A0_0 l0_0.length c0_0, .slice A0_1 l0_1.length c0_1, .slice A0_2 l0_2.length c0_2, .slice A0_3 l0_3.length c0_3]] rfl z8_3 ?_; (with_reducible refine (laws_toCase.calls k _ _ l0_0 _ _ l0_1 _ _ l0_2 _ _ l0_3 t271 t274 t277 t280 _ ?side1 ?side2 ?side3 ?side4 ?side5 ?side6 ?side7 ?side8 A10.out).mono ?_); (case side1 => have zh := (Kd.C_below HR0_0.out HB.out); exact z8_C); (case side2 => exact HC0_0.out); (case side3 => have zh := (Kd.C_below HR0_1.out HB.out); exact z8_C); (case side4 => exact HC0_1.out); (case side5 => have zh := (Kd.C_below HR0_2.out HB.out); exact z8_C); (case side6 => exact HC0_2.out); (case side7 => have zh := (Kd.C_below HR0_3.out HB.out); exact z8_C); (case side8 => exact HC0_3.out); rintro e w24 ⟨v272, v275, v278, v281, rfl, ho0, ho1, ho2, ho3, hb⟩; refine ⟨_, rfl, ?_⟩; have n0_ := z8_A (Kd.R_mono (Kd.R_told (Kd.R_told (Kd.R_told (Kd.R_told (Kd.R_old z8_19 hb) (Kd.R_base ho0)) (Kd.R_base ho1)) (Kd.R_base ho2)) (Kd.R_base ho3)) (fun _ h_ => h_.1)); have n1_ := z8_A (Kd.R_mono (Kd.R_told (Kd.R_told (Kd.R_told (Kd.R_told (Kd.R_old z8_18 hb) (Kd.R_base ho0)) (Kd.R_base ho1)) (Kd.R_base ho2)) (Kd.R_base ho3)) (fun _ h_ => h_.1)); have n2_ := z8_A (Kd.R_mono (Kd.R_told (Kd.R_told (Kd.R_told (Kd.R_told (Kd.R_old z8_17 hb) (Kd.R_base ho0)) (Kd.R_base ho1)) (Kd.R_base ho2)) (Kd.R_base ho3)) (fun _ h_ => h_.1)); have n3_ := z8_A (Kd.R_mono (Kd.R_told (Kd.R_told (Kd.R_told (Kd.R_told (Kd.R_old z8_16 hb) (Kd.R_base ho0)) (Kd.R_base ho1)) (Kd.R_base ho2)) (Kd.R_base ho3)) (fun _ h_ => h_.1)); have n4_ := z8_A (Kd.R_mono (Kd.R_told (Kd.R_told (Kd.R_told (Kd.R_told (Kd.R_old z8_21 hb) (Kd.R_base ho0)) (Kd.R_base ho1)) (Kd.R_base ho2)) (Kd.R_base ho3)) (fun _ h_ => h_.1)); have n5_ := z8_A (Kd.R_lower (Kd.R_new' (Kd.R_new' (Kd.R_new' (Kd.R_new' (Kd.R_new' ho0 (Kd.R_lt z8_19)) (Kd.R_lt z8_18)) (Kd.R_lt z8_17)) (Kd.R_lt z8_16)) (Kd.R_lt z8_21)) (below_size z8_2)); have n6_ := z8_A (Kd.R_lower (Kd.R_new' (Kd.R_new' (Kd.R_new' (Kd.R_new' (Kd.R_new' ho1 (Kd.R_lt z8_19)) (Kd.R_lt z8_18)) (Kd.R_lt z8_17)) (Kd.R_lt z8_16)) (Kd.R_lt z8_21)) (below_size z8_2)); have n7_ := z8_A (Kd.R_lower (Kd.R_new' (Kd.R_new' (Kd.R_new' (Kd.R_new' (Kd.R_new' ho2 (Kd.R_lt z8_19)) (Kd.R_lt z8_18)) (Kd.R_lt z8_17)) (Kd.R_lt z8_16)) (Kd.R_lt z8_21)) (below_size z8_2)); have n8_ := z8_A (Kd.R_lower (Kd.R_new' (Kd.R_new' (Kd.R_new' (Kd.R_new' (Kd.R_new' ho3 (Kd.R_lt z8_19)) (Kd.R_lt z8_18)) (Kd.R_lt z8_17)) (Kd.R_lt z8_16)) (Kd.R_lt z8_21)) (below_size z8_2)); have n9_ := z8_A (blk_below (g := gb252) (o := .cells #[.slice A0_0 l0_0.length c0_0, .slice A0_1 l0_1.length c0_1, .slice A0_2 l0_2.length c0_2, .slice A0_3 l0_3.length c0_3] 46 (0, 0)) z8_4 hb); have n10_ := z8_A (below_step z8_2 hb); clear HO256 HO259 HO262 HO265 HO268 BK252 HB; revert n0_ n1_ n2_ n3_ n4_ n5_ n6_ n7_ n8_ n9_ n10_; intro HO256 HO259 HO262 HO265 HO268 HO273 HO276 HO279 HO282 BK252 HB; (try clear hb); (try clear hb2); (try clear hk); (try clear hi); (try clear ho0); (try clear ho1); (try clear ho2); (try clear ho3)) | ((with_reducible refine gate_dst (N := 9) rfl ?_); refine box_event ?hg (N := 9) ?hd (cs := #[.slice none 0 0, .slice none 0 0, .slice none 0 0, .slice none 0 0]) (t := 50) ?hr ?_; (case hd => rfl); (case hg => rfl); (case hr => first | (go_simp; done) | (go_simp; rfl)); intro gb283 hg w25 hbox hb; have n0_ := z8_A (Kd.R_below z8_19 hb); have n1_ := z8_A (Kd.R_below z8_18 hb); have n2_ := z8_A (Kd.R_below z8_17 hb); have n3_ := z8_A (Kd.R_below z8_16 hb); have n4_ := z8_A (Kd.R_below z8_21 hb); have n5_ := z8_A (Kd.R_below (by (with_reducible repeat (first | apply Kd.R_alloc | apply Kd.R_drewN | apply Kd.R_drew)); exact HO273.out) hb); have n6_ := z8_A (Kd.R_below (by (with_reducible repeat (first | apply Kd.R_alloc | apply Kd.R_drewN | apply Kd.R_drew)); exact HO276.out) hb); have n7_ := z8_A (Kd.R_below (by (with_reducible repeat (first | apply Kd.R_alloc | apply Kd.R_drewN | apply Kd.R_drew)); exact HO279.out) hb); have n8_ := z8_A (Kd.R_below (by (with_reducible repeat (first | apply Kd.R_alloc | apply Kd.R_drewN | apply Kd.R_drew)); exact HO282.out) hb); have n9_ := z8_A (blk_below (g := gb252) (o := .cells #[.slice A0_0 l0_0.length c0_0, .slice A0_1 l0_1.length c0_1, .slice A0_2 l0_2.length c0_2, .slice A0_3 l0_3.length c0_3] 46 (0, 0)) z8_4 hb); have n10_ := z8_A (below_step z8_2 hb); have n11_ := z8_A (hbox); have n12_ := z8_A ((by rw [hg]; exact (below_size z8_2) : w.heap.size ≤ gb283)); have n13_ := z8_A ((by rw [hg]; exact (below_size z8_2) : w.heap.size ≤ gb283)); have n14_ := z8_A ((by rw [hg]; exact Nat.ne_of_lt (blk_lt (g := gb252) (o := .cells #[.slice A0_0 l0_0.length c0_0, .slice A0_1 l0_1.length c0_1, .slice A0_2 l0_2.length c0_2, .slice A0_3 l0_3.length c0_3] 46 (0, 0)) z8_4) : gb252 ≠ gb283)); have n15_ := z8_A ((by rw [hg]; exact Nat.ne_of_gt (blk_lt (g := gb252) (o := .cells #[.slice A0_0 l0_0.length c0_0, .slice A0_1 l0_1.length c0_1, .slice A0_2 l0_2.length c0_2, .slice A0_3 l0_3.length c0_3] 46 (0, 0)) z8_4) : gb283 ≠ gb252)); clear HO256 HO259 HO262 HO265 HO268 HO273 HO276 HO279 HO282 BK252 HB; revert n0_ n1_ n2_ n3_ n4_ n5_ n6_ n7_ n8_ n9_ n10_ n11_ n12_ n13_ n14_ n15_; intro HO256 HO259 HO262 HO265 HO268 HO273 HO276 HO279 HO282 BK252 HB BK283 GW283 GE283 NB252_283 NB283_252; clear hb hbox hg; obtain ⟨Ao26, co26, eo26⟩ := Kd.R_slice HO273.out; subst eo26; have hnb27 := NB283_252.out; have hnc27 := NB252_283.out; have hcz28_0 : w25.cell? ⟨gb283, 0, none⟩ = some (.slice none 0 0) := (blk_cell BK283.out 0).trans rfl; have hcz28_1 : w25.cell? ⟨gb283, 1, none⟩ = some (.slice none 0 0) := (blk_cell BK283.out 1).trans rfl; have hcz28_2 : w25.cell? ⟨gb283, 2, none⟩ = some (.slice none 0 0) := (blk_cell BK283.out 2).trans rfl; have hcz28_3 : w25.cell? ⟨gb283, 3, none⟩ = some (.slice none 0 0) := (blk_cell BK283.out 3).trans rfl; have hfz28_0 := blk_frozen BK283.out 0; have hfz28_1 := blk_frozen BK283.out 1; have hfz28_2 := blk_frozen BK283.out 2; have hfz28_3 := blk_frozen BK283.out 3; obtain ⟨Ao29, co29, eo29⟩ := Kd.R_slice HO276.out; subst eo29; obtain ⟨Ao30, co30, eo30⟩ := Kd.R_slice HO279.out; subst eo30; obtain ⟨Ao31, co31, eo31⟩ := Kd.R_slice HO282.out; subst eo31) | ((with_reducible refine gate_callee (f := 36) rfl ?_); refine goesL_ (some 37) rfl rfl Try.func36 z8_28 rfl #[.agg #[.slice Ao26 t271.length co26, .slice Ao29 t274.length co29, .slice Ao30 t277.length co30, .slice Ao31 t280.length co31], .int .i64 a1] rfl z8_3 ?_; (with_reducible refine (impl_BestFresh.calls k _ _ t271 _ _ t274 _ _ t277 _ _ t280 a1 t284 t287 t288 _ ?side1 ?side2 ?side3 ?side4 ?side5 ?side6 ?side7 ?side8 A11.out).mono ?_); (case side1 => refine (Kd.R_reads' (e := 3) (base := w.heap.size) (ok := fun k_ => ((((((z8_S k_ Ao29 t274.length co29 ∧ (z8_S k_ Ao30 t277.length co30 ∧ z8_S k_ Ao31 t280.length co31)) ∧ z8_S k_ Ao18 t254.length co18) ∧ z8_S k_ Ao19 t257.length co19) ∧ z8_S k_ Ao20 t260.length co20) ∧ z8_S k_ Ao21 t263.length co21) ∧ z8_V k_ v267)) (n := t271.length) (c := co26) ?_).2.2; exact z8_14); (case side2 => exact (Kd.R_reads' HO273.out).2.1); (case side3 => refine (Kd.R_reads' (e := 3) (base := w.heap.size) (ok := fun k_ => ((((((z8_S k_ Ao26 t271.length co26 ∧ (z8_S k_ Ao30 t277.length co30 ∧ z8_S k_ Ao31 t280.length co31)) ∧ z8_S k_ Ao18 t254.length co18) ∧ z8_S k_ Ao19 t257.length co19) ∧ z8_S k_ Ao20 t260.length co20) ∧ z8_S k_ Ao21 t263.length co21) ∧ z8_V k_ v267)) (n := t274.length) (c := co29) ?_).2.2; exact z8_13); (case side4 => exact (Kd.R_reads' HO276.out).2.1); (case side5 => refine (Kd.R_reads' (e := 3) (base := w.heap.size) (ok := fun k_ => ((((((z8_S k_ Ao26 t271.length co26 ∧ (z8_S k_ Ao29 t274.length co29 ∧ z8_S k_ Ao31 t280.length co31)) ∧ z8_S k_ Ao18 t254.length co18) ∧ z8_S k_ Ao19 t257.length co19) ∧ z8_S k_ Ao20 t260.length co20) ∧ z8_S k_ Ao21 t263.length co21) ∧ z8_V k_ v267)) (n := t277.length) (c := co30) ?_).2.2; exact z8_12); (case side6 => exact (Kd.R_reads' HO279.out).2.1); (case side7 => refine (Kd.R_reads' (e := 3) (base := w.heap.size) (ok := fun k_ => ((((((z8_S k_ Ao26 t271.length co26 ∧ (z8_S k_ Ao29 t274.length co29 ∧ z8_S k_ Ao30 t277.length co30)) ∧ z8_S k_ Ao18 t254.length co18) ∧ z8_S k_ Ao19 t257.length co19) ∧ z8_S k_ Ao20 t260.length co20) ∧ z8_S k_ Ao21 t263.length co21) ∧ z8_V k_ v267)) (n := t280.length) (c := co31) ?_).2.2; exact z8_11); (case side8 => exact (Kd.R_reads' HO282.out).2.1); rintro e w32 ⟨v285, rfl, ho0, hb⟩; refine ⟨_, rfl, ?_⟩; have n0_ := z8_A (Kd.R_elder' z8_26 (Kd.R_base ho0) hb); have n1_ := z8_A (Kd.R_elder' z8_25 (Kd.R_base ho0) hb); have n2_ := z8_A (Kd.R_elder' z8_24 (Kd.R_base ho0) hb); have n3_ := z8_A (Kd.R_elder' z8_23 (Kd.R_base ho0) hb); have n4_ := z8_A (Kd.R_elder' z8_22 (Kd.R_base ho0) hb); have n5_ := z8_A (Kd.R_elder' z8_14 (Kd.R_base ho0) hb); have n6_ := z8_A (Kd.R_elder' z8_13 (Kd.R_base ho0) hb); have n7_ := z8_A (Kd.R_elder' z8_12 (Kd.R_base ho0) hb); have n8_ := z8_A (Kd.R_elder' z8_11 (Kd.R_base ho0) hb); have n9_ := z8_A (Kd.R_lower (Kd.R_new' (Kd.R_new' (Kd.R_new' (Kd.R_new' (Kd.R_new' (Kd.R_new' (Kd.R_new' (Kd.R_new' (Kd.R_new' ho0 (Kd.R_lt z8_26)) (Kd.R_lt z8_25)) (Kd.R_lt z8_24)) (Kd.R_lt z8_23)) (Kd.R_lt z8_22)) (Kd.R_lt z8_14)) (Kd.R_lt z8_13)) (Kd.R_lt z8_12)) (Kd.R_lt z8_11)) (below_size z8_1)); have n10_ := z8_A (blk_below (g := gb252) (o := .cells #[.slice A0_0 l0_0.length c0_0, .slice A0_1 l0_1.length c0_1, .slice A0_2 l0_2.length c0_2, .slice A0_3 l0_3.length c0_3] 46 (0, 0)) (by (with_reducible repeat (first | refine blk_drewN ?_ _ | refine blk_drew ?_ | refine blk_alloc ?_ _)); refine blk_far ?_ NB252_283.out _; (with_reducible repeat (first | refine blk_drewN ?_ _ | refine blk_drew ?_ | refine blk_alloc ?_ _)); refine blk_far ?_ NB252_283.out _; (with_reducible repeat (first | refine blk_drewN ?_ _ | refine blk_drew ?_ | refine blk_alloc ?_ _)); refine blk_far ?_ NB252_283.out _; (with_reducible repeat (first | refine blk_drewN ?_ _ | refine blk_drew ?_ | refine blk_alloc ?_ _)); refine blk_far ?_ NB252_283.out _; (with_reducible repeat (first | refine blk_drewN ?_ _ | refine blk_drew ?_ | refine blk_alloc ?_ _)); exact BK252.out) hb); have n11_ := z8_A (blk_below (g := gb283) (o := .cells #[.slice Ao26 t271.length co26, .slice Ao29 t274.length co29, .slice Ao30 t277.length co30, .slice Ao31 t280.length co31] 50 (0, 0)) (by (with_reducible repeat (first | refine blk_drewN ?_ _ | refine blk_drew ?_ | refine blk_alloc ?_ _)); refine blk_put (cs := #[.slice Ao26 t271.length co26, .slice Ao29 t274.length co29, .slice Ao30 t277.length co30, .slice none 0 0]) ?_ 3 _ rfl; (with_reducible repeat (first | refine blk_drewN ?_ _ | refine blk_drew ?_ | refine blk_alloc ?_ _)); refine blk_put (cs := #[.slice Ao26 t271.length co26, .slice Ao29 t274.length co29, .slice none 0 0, .slice none 0 0]) ?_ 2 _ rfl; (with_reducible repeat (first | refine blk_drewN ?_ _ | refine blk_drew ?_ | refine blk_alloc ?_ _)); refine blk_put (cs := #[.slice Ao26 t271.length co26, .slice none 0 0, .slice none 0 0, .slice none 0 0]) ?_ 1 _ rfl; (with_reducible repeat (first | refine blk_drewN ?_ _ | refine blk_drew ?_ | refine blk_alloc ?_ _)); refine blk_put (cs := #[.slice none 0 0, .slice none 0 0, .slice none 0 0, .slice none 0 0]) ?_ 0 _ rfl; (with_reducible repeat (first | refine blk_drewN ?_ _ | refine blk_drew ?_ | refine blk_alloc ?_ _)); exact BK283.out) hb); have n12_ := z8_A (below_step z8_1 hb); clear HO256 HO259 HO262 HO265 HO268 HO273 HO276 HO279 HO282 BK252 BK283 HB; revert n0_ n1_ n2_ n3_ n4_ n5_ n6_ n7_ n8_ n9_ n10_ n11_ n12_; intro HO256 HO259 HO262 HO265 HO268 HO273 HO276 HO279 HO282 HO286 BK252 BK283 HB; (try clear hb); (try clear hb2); (try clear hk); (try clear hi); (try clear ho0)))
  (try simp only [Act.put, List.setIfInBounds_toArray, List.set_cons_zero, List.set_cons_succ])
  go_cut [54] (fun v54 wc => ∃ (kq : Nat) (x54_11 : Bool), v54 = .bool x54_11 ∧ Aside0 (laws_FnExactBestFresh.j0 kq a1 t266 t269 t270 t284 t287 t288 x54_11 l0_0 l0_1 l0_2 l0_3 t271 t274 t277 t280 = some r) ∧ Aside0 (kq ≤ k) ∧ Aside0 (Kd.R (Kd.int .i64) 3 wc w.heap.size (fun k_ => z8_V k_ v285 ∧ some k_ ≠ ((.slice Ao26 t271.length co26) : Value).ownBlock ∧ some k_ ≠ ((.slice Ao29 t274.length co29) : Value).ownBlock ∧ some k_ ≠ ((.slice Ao30 t277.length co30) : Value).ownBlock ∧ some k_ ≠ ((.slice Ao31 t280.length co31) : Value).ownBlock) v267 t266) ∧ Aside0 (Kd.R (Kd.int .i64) 3 wc w.heap.size (fun k_ => z8_V k_ v267 ∧ some k_ ≠ ((.slice Ao26 t271.length co26) : Value).ownBlock ∧ some k_ ≠ ((.slice Ao29 t274.length co29) : Value).ownBlock ∧ some k_ ≠ ((.slice Ao30 t277.length co30) : Value).ownBlock ∧ some k_ ≠ ((.slice Ao31 t280.length co31) : Value).ownBlock) v285 t284) ∧ Aside0 (Kd.R (Kd.int .i64) 3 wc w.heap.size (fun k_ => z8_V k_ v267 ∧ z8_V k_ v285 ∧ some k_ ≠ ((.slice Ao29 t274.length co29) : Value).ownBlock ∧ some k_ ≠ ((.slice Ao30 t277.length co30) : Value).ownBlock ∧ some k_ ≠ ((.slice Ao31 t280.length co31) : Value).ownBlock) (.slice Ao26 t271.length co26) t271) ∧ Aside0 (Kd.R (Kd.int .i64) 3 wc w.heap.size (fun k_ => z8_V k_ v267 ∧ z8_V k_ v285 ∧ some k_ ≠ ((.slice Ao26 t271.length co26) : Value).ownBlock ∧ some k_ ≠ ((.slice Ao30 t277.length co30) : Value).ownBlock ∧ some k_ ≠ ((.slice Ao31 t280.length co31) : Value).ownBlock) (.slice Ao29 t274.length co29) t274) ∧ Aside0 (Kd.R (Kd.int .i64) 3 wc w.heap.size (fun k_ => z8_V k_ v267 ∧ z8_V k_ v285 ∧ some k_ ≠ ((.slice Ao26 t271.length co26) : Value).ownBlock ∧ some k_ ≠ ((.slice Ao29 t274.length co29) : Value).ownBlock ∧ some k_ ≠ ((.slice Ao31 t280.length co31) : Value).ownBlock) (.slice Ao30 t277.length co30) t277) ∧ Aside0 (Kd.R (Kd.int .i64) 3 wc w.heap.size (fun k_ => z8_V k_ v267 ∧ z8_V k_ v285 ∧ some k_ ≠ ((.slice Ao26 t271.length co26) : Value).ownBlock ∧ some k_ ≠ ((.slice Ao29 t274.length co29) : Value).ownBlock ∧ some k_ ≠ ((.slice Ao30 t277.length co30) : Value).ownBlock) (.slice Ao31 t280.length co31) t280) ∧ Aside0 (wc.heap[gb252]? = some (.cells #[(.slice A0_0 l0_0.length c0_0), (.slice A0_1 l0_1.length c0_1), (.slice A0_2 l0_2.length c0_2), (.slice A0_3 l0_3.length c0_3)] 46 (0, 0))) ∧ Aside0 (wc.heap[gb283]? = some (.cells #[(.slice Ao26 t271.length co26), (.slice Ao29 t274.length co29), (.slice Ao30 t277.length co30), (.slice Ao31 t280.length co31)] 50 (0, 0))) ∧ Aside0 (Below w.heap.size w wc))
  case first =>
   have H := HC12.out
   clear HC12
   replace H := Option.bind_eq_some_iff.mp H
   obtain ⟨t289, A330, H⟩ := H
   (try dsimp only at H)
   have A33 := z8_A A330
   clear A330
   by_cases c34 : t289 = true
   ·subst c34
    have H1 : (if t287 = t269 then (laws_FnExactBestFresh.j0 k a1 t266 t269 t270 t284 t287 t288 (t288 != t270) l0_0 l0_1 l0_2 l0_3 t271 t274 t277 t280) else (none)) = some r := z8_29
    clear H
    have H := H1
    clear H1
    by_cases c35 : t287 = t269
    ·rw [if_pos c35] at H
     have c35b0 : (t287 == t269) = true := beq_iff_eq.mpr c35
     have c35b1 : (t287 != t269) = false := bne_eq_false_iff_eq.mpr c35
     clear c35
     (first | rw [c35b0] | (simp only [i64_w, i32_w]; rw [c35b0]) | skip)
     have H' := z8_A H
     clear H
     obtain ⟨Ao36, co36, eo36⟩ := Kd.R_slice HO286.out
     subst eo36
     obtain ⟨Ao37, co37, eo37⟩ := Kd.R_slice HO268.out
     subst eo37
     go_wp2_with (first | ((with_reducible refine gate_callee (f := 22) rfl ?_); refine goesL_ (some 43) rfl rfl Try.func22 z8_28 rfl #[.slice Ao36 t284.length co36, .slice Ao37 t266.length co37] rfl z8_3 ?_; (with_reducible refine (laws_eqIntS.calls k _ _ t284 _ _ t266 true _ ?side1 ?side2 ?side3 ?side4 A33.out).mono ?_); (case side1 => have zh := (Kd.R_reads' HO286.out).2.2; exact z8_C); (case side2 => exact (Kd.R_reads' HO286.out).2.1); (case side3 => have zh := (Kd.R_reads' HO268.out).2.2; exact z8_C); (case side4 => exact (Kd.R_reads' HO268.out).2.1); rintro e w' ⟨rfl, ⟨nd, rfl⟩⟩; refine ⟨_, rfl, ?_⟩))
     go_meet
     case rel => exact ⟨_, ((t288 != t270)), z8_36, H', ⟨by first | omega | exact Nat.le_refl _⟩, ⟨by (with_reducible repeat (first | apply Kd.R_alloc | apply Kd.R_drewN | apply Kd.R_drew)); exact Kd.R_mono HO268.out (fun _ hk => ⟨hk.2, ⟨hk.1.1.1.1.2, ⟨hk.1.1.1.2, ⟨hk.1.1.2, hk.1.2⟩⟩⟩⟩)⟩, ⟨by (with_reducible repeat (first | apply Kd.R_alloc | apply Kd.R_drewN | apply Kd.R_drew)); exact Kd.R_mono HO286.out (fun _ hk => ⟨hk.1.1.1.1.2, ⟨hk.1.1.1.2, ⟨hk.1.1.2, ⟨hk.1.2, hk.2⟩⟩⟩⟩)⟩, ⟨by (with_reducible repeat (first | apply Kd.R_alloc | apply Kd.R_drewN | apply Kd.R_drew)); exact Kd.R_mono HO273.out (fun _ hk => ⟨hk.1.2, ⟨hk.2, ⟨hk.1.1.1.1.1.1.1, ⟨hk.1.1.1.1.1.1.2.1, hk.1.1.1.1.1.1.2.2⟩⟩⟩⟩)⟩, ⟨by (with_reducible repeat (first | apply Kd.R_alloc | apply Kd.R_drewN | apply Kd.R_drew)); exact Kd.R_mono HO276.out (fun _ hk => ⟨hk.1.2, ⟨hk.2, ⟨hk.1.1.1.1.1.1.1, ⟨hk.1.1.1.1.1.1.2.1, hk.1.1.1.1.1.1.2.2⟩⟩⟩⟩)⟩, ⟨by (with_reducible repeat (first | apply Kd.R_alloc | apply Kd.R_drewN | apply Kd.R_drew)); exact Kd.R_mono HO279.out (fun _ hk => ⟨hk.1.2, ⟨hk.2, ⟨hk.1.1.1.1.1.1.1, ⟨hk.1.1.1.1.1.1.2.1, hk.1.1.1.1.1.1.2.2⟩⟩⟩⟩)⟩, ⟨by (with_reducible repeat (first | apply Kd.R_alloc | apply Kd.R_drewN | apply Kd.R_drew)); exact Kd.R_mono HO282.out (fun _ hk => ⟨hk.1.2, ⟨hk.2, ⟨hk.1.1.1.1.1.1.1, ⟨hk.1.1.1.1.1.1.2.1, hk.1.1.1.1.1.1.2.2⟩⟩⟩⟩)⟩, ⟨z8_4⟩, ⟨z8_15⟩, ⟨z8_1⟩⟩
    ·rw [if_neg c35] at H
     exact absurd H (by simp)
   ·replace c34 := Bool.eq_false_iff.mpr c34
    subst c34
    have H1 : (none) = some r := z8_27
    clear H
    have H := H1
    clear H1
    exact absurd H (by simp)
  case rest =>
   clear HC12
   (try clear c4); (try clear c4b0); (try clear hcz14_0); (try clear hcz14_1); (try clear hcz14_2); (try clear hcz14_3); (try clear hcz16_0); (try clear hcz16_1); (try clear hcz16_2); (try clear hcz16_3); (try clear hcz23_0); (try clear hcz23_1); (try clear hcz23_2); (try clear hcz23_3); (try clear hcz28_0); (try clear hcz28_1); (try clear hcz28_2); (try clear hcz28_3); (try clear hfz14_0); (try clear hfz14_1); (try clear hfz14_2); (try clear hfz14_3); (try clear hfz16_0); (try clear hfz16_1); (try clear hfz16_2); (try clear hfz16_3); (try clear hfz23_0); (try clear hfz23_1); (try clear hfz23_2); (try clear hfz23_3); (try clear hfz28_0); (try clear hfz28_1); (try clear hfz28_2); (try clear hfz28_3)
   obtain ⟨kq, x54_11, rfl, HA, HJ11, HO_6, HO_10, HO_284000, HO_284001, HO_284002, HO_284003, BK252, BK283, HB⟩ := hcut
   cases kq with
   | zero => exact absurd HA.out (by simp [laws_FnExactBestFresh.j0])
   | succ kj11 =>
    have H := HA.out
    clear HA
    simp only [laws_FnExactBestFresh.j0] at H
    by_cases c38 : x54_11 = true
    ·subst c38
     have H1 : (none) = some r := z8_29
     clear H
     have H := H1
     clear H1
     exact absurd H (by simp)
    ·replace c38 := Bool.eq_false_iff.mpr c38
     subst c38
     have H1 : ((laws_toCase.f kj11 l0_0 l0_1 l0_2 l0_3).bind fun bt290 => ((laws_eqCase.f kj11 t271 t274 t277 t280 bt290.1 bt290.2.1 bt290.2.2.1 bt290.2.2.2).bind fun t302 => (if t302 = true then ((laws_markCase.f kj11 t271 t274 t277 t280 1).bind fun bt303 => (if bt303.1 < 0 then (none) else ((laws_eqIntS.f kj11 t284 t266).bind fun t308 => (if t308 = true then (if t287 = t269 then (laws_FnExactBestFresh.j1 kj11 a1 t266 t269 t270 t284 (t288 != t270) l0_0 l0_1 l0_2 l0_3) else (none)) else (none))))) else (none)))) = some r := z8_27
     clear H
     have H := H1
     clear H1
     replace H := Option.bind_eq_some_iff.mp H
     obtain ⟨⟨t290, t293, t296, t299⟩, A390, H⟩ := H
     (try dsimp only at H)
     have A39 := z8_A A390
     clear A390
     replace H := Option.bind_eq_some_iff.mp H
     obtain ⟨t302, A400, H⟩ := H
     (try dsimp only at H)
     have A40 := z8_A A400
     clear A400
     by_cases c41 : t302 = true
     ·subst c41
      have H1 : ((laws_markCase.f kj11 t271 t274 t277 t280 1).bind fun bt303 => (if bt303.1 < 0 then (none) else ((laws_eqIntS.f kj11 t284 t266).bind fun t308 => (if t308 = true then (if t287 = t269 then (laws_FnExactBestFresh.j1 kj11 a1 t266 t269 t270 t284 (t288 != t270) l0_0 l0_1 l0_2 l0_3) else (none)) else (none))))) = some r := z8_29
      clear H
      have H := H1
      clear H1
      replace H := Option.bind_eq_some_iff.mp H
      obtain ⟨⟨t303, t304, t305, t306, t307⟩, A420, H⟩ := H
      (try dsimp only at H)
      have A42 := z8_A A420
      clear A420
      have HC43 := z8_A H
      clear H
      try go_wp2
      have n0_ := z8_A (Kd.R_drew HO_6.out)
      have n1_ := z8_A (Kd.R_drew HO_10.out)
      have n2_ := z8_A (Kd.R_drew HO_284000.out)
      have n3_ := z8_A (Kd.R_drew HO_284001.out)
      have n4_ := z8_A (Kd.R_drew HO_284002.out)
      have n5_ := z8_A (Kd.R_drew HO_284003.out)
      have n6_ := z8_A (blk_drew BK252.out)
      have n7_ := z8_A (blk_drew BK283.out)
      have n8_ := z8_A (below_drew1 HB.out)
      clear HO_6
      clear HO_10
      clear HO_284000
      clear HO_284001
      clear HO_284002
      clear HO_284003
      clear BK252
      clear BK283
      clear HB
      have HO_6 := n0_
      have HO_10 := n1_
      have HO_284000 := n2_
      have HO_284001 := n3_
      have HO_284002 := n4_
      have HO_284003 := n5_
      have BK252 := n6_
      have BK283 := n7_
      have HB := n8_
      clear n0_ n1_ n2_ n3_ n4_ n5_ n6_ n7_ n8_
      refine start_ (n := 5) (S := fun w' => w'.cell? ⟨gb283, 0, none⟩ = some (.slice Ao26 t271.length co26) ∧ w'.cell? ⟨gb283, 1, none⟩ = some (.slice Ao29 t274.length co29) ∧ w'.cell? ⟨gb283, 2, none⟩ = some (.slice Ao30 t277.length co30) ∧ w'.cell? ⟨gb283, 3, none⟩ = some (.slice Ao31 t280.length co31) ∧ w'.cell? ⟨gb252, 0, none⟩ = some (.slice A0_0 l0_0.length c0_0) ∧ w'.cell? ⟨gb252, 1, none⟩ = some (.slice A0_1 l0_1.length c0_1) ∧ w'.cell? ⟨gb252, 2, none⟩ = some (.slice A0_2 l0_2.length c0_2) ∧ w'.cell? ⟨gb252, 3, none⟩ = some (.slice A0_3 l0_3.length c0_3)) (ds := []) #[false, false, false, false, false] z8_28 rfl rfl ⟨(blk_cell BK283.out 0).trans rfl, (blk_cell BK283.out 1).trans rfl, (blk_cell BK283.out 2).trans rfl, (blk_cell BK283.out 3).trans rfl, (blk_cell BK252.out 0).trans rfl, (blk_cell BK252.out 1).trans rfl, (blk_cell BK252.out 2).trans rfl, (blk_cell BK252.out 3).trans rfl⟩ (fun hHeld => ?_)
      generalize wc.drew = w44 at HO_6 HO_10 HO_284000 HO_284001 HO_284002 HO_284003 BK252 BK283 HB hHeld ⊢
      refine take_ (i := 0) (N := some 55) (v := ?_) (a' := ?_) #[true, false, false, false, false] rfl rfl z8_28 (fun _ _ _ h => h) (Or.inl ⟨by rfl, ?_⟩) hHeld ?_ ?_
      rotate_left
      ·rintro w' ⟨s0, s1, s2, s3, s4, s5, s6, s7⟩
       go_simp
       with_reducible rfl
      rotate_left
      ·simp only [Act.put, List.setIfInBounds_toArray, List.set_cons_zero, List.set_cons_succ, i64_w, i32_w]
       rfl
      refine take_ (i := 1) (N := some 56) (v := ?_) (a' := ?_) #[true, true, false, false, false] rfl rfl z8_28 (fun _ _ _ h => h) (Or.inl ⟨by rfl, ?_⟩) hHeld ?_ ?_
      rotate_left
      ·rintro w' ⟨s0, s1, s2, s3, s4, s5, s6, s7⟩
       go_simp
       with_reducible rfl
      rotate_left
      ·simp only [Act.put, List.setIfInBounds_toArray, List.set_cons_zero, List.set_cons_succ, i64_w, i32_w]
       rfl
      refine one_ (i := 2) (N := some 57) #[true, true, true, false, false] rfl rfl z8_28 (by decide) (fun K hK => ?_)
      refine goes_ Try.func35 z8_28 rfl #[.agg #[.slice A0_0 l0_0.length c0_0, .slice A0_1 l0_1.length c0_1, .slice A0_2 l0_2.length c0_2, .slice A0_3 l0_3.length c0_3]] (by rfl) rfl rfl z8_3 ?_
      with_reducible refine (laws_toCase.calls kj11 _ _ l0_0 _ _ l0_1 _ _ l0_2 _ _ l0_3 t290 t293 t296 t299 _ ?side1 ?side2 ?side3 ?side4 ?side5 ?side6 ?side7 ?side8 A39.out).mono ?_
      (case side1 => have zh := (Kd.C_below HR0_0.out HB.out); exact z8_C)
      (case side2 => exact HC0_0.out)
      (case side3 => have zh := (Kd.C_below HR0_1.out HB.out); exact z8_C)
      (case side4 => exact HC0_1.out)
      (case side5 => have zh := (Kd.C_below HR0_2.out HB.out); exact z8_C)
      (case side6 => exact HC0_2.out)
      (case side7 => have zh := (Kd.C_below HR0_3.out HB.out); exact z8_C)
      (case side8 => exact HC0_3.out)
      rintro e w45 ⟨v291, v294, v297, v300, rfl, ho0, ho1, ho2, ho3, hb⟩
      refine ⟨_, rfl, ?_⟩
      have n0_ := z8_A (Kd.R_mono (Kd.R_told (Kd.R_told (Kd.R_told (Kd.R_told (Kd.R_old z8_10 hb) (Kd.R_base ho0)) (Kd.R_base ho1)) (Kd.R_base ho2)) (Kd.R_base ho3)) (fun _ h_ => h_.1))
      have n1_ := z8_A (Kd.R_mono (Kd.R_told (Kd.R_told (Kd.R_told (Kd.R_told (Kd.R_old z8_9 hb) (Kd.R_base ho0)) (Kd.R_base ho1)) (Kd.R_base ho2)) (Kd.R_base ho3)) (fun _ h_ => h_.1))
      have n2_ := z8_A (Kd.R_mono (Kd.R_told (Kd.R_told (Kd.R_told (Kd.R_told (Kd.R_old z8_8 hb) (Kd.R_base ho0)) (Kd.R_base ho1)) (Kd.R_base ho2)) (Kd.R_base ho3)) (fun _ h_ => h_.1))
      have n3_ := z8_A (Kd.R_mono (Kd.R_told (Kd.R_told (Kd.R_told (Kd.R_told (Kd.R_old z8_7 hb) (Kd.R_base ho0)) (Kd.R_base ho1)) (Kd.R_base ho2)) (Kd.R_base ho3)) (fun _ h_ => h_.1))
      have n4_ := z8_A (Kd.R_mono (Kd.R_told (Kd.R_told (Kd.R_told (Kd.R_told (Kd.R_old z8_6 hb) (Kd.R_base ho0)) (Kd.R_base ho1)) (Kd.R_base ho2)) (Kd.R_base ho3)) (fun _ h_ => h_.1))
      have n5_ := z8_A (Kd.R_mono (Kd.R_told (Kd.R_told (Kd.R_told (Kd.R_told (Kd.R_old z8_5 hb) (Kd.R_base ho0)) (Kd.R_base ho1)) (Kd.R_base ho2)) (Kd.R_base ho3)) (fun _ h_ => h_.1))
      have n6_ := z8_A (Kd.R_lower (Kd.R_new' (Kd.R_new' (Kd.R_new' (Kd.R_new' (Kd.R_new' (Kd.R_new' ho0 (Kd.R_lt z8_10)) (Kd.R_lt z8_9)) (Kd.R_lt z8_8)) (Kd.R_lt z8_7)) (Kd.R_lt z8_6)) (Kd.R_lt z8_5)) (below_size z8_1))
      have n7_ := z8_A (Kd.R_lower (Kd.R_new' (Kd.R_new' (Kd.R_new' (Kd.R_new' (Kd.R_new' (Kd.R_new' ho1 (Kd.R_lt z8_10)) (Kd.R_lt z8_9)) (Kd.R_lt z8_8)) (Kd.R_lt z8_7)) (Kd.R_lt z8_6)) (Kd.R_lt z8_5)) (below_size z8_1))
      have n8_ := z8_A (Kd.R_lower (Kd.R_new' (Kd.R_new' (Kd.R_new' (Kd.R_new' (Kd.R_new' (Kd.R_new' ho2 (Kd.R_lt z8_10)) (Kd.R_lt z8_9)) (Kd.R_lt z8_8)) (Kd.R_lt z8_7)) (Kd.R_lt z8_6)) (Kd.R_lt z8_5)) (below_size z8_1))
      have n9_ := z8_A (Kd.R_lower (Kd.R_new' (Kd.R_new' (Kd.R_new' (Kd.R_new' (Kd.R_new' (Kd.R_new' ho3 (Kd.R_lt z8_10)) (Kd.R_lt z8_9)) (Kd.R_lt z8_8)) (Kd.R_lt z8_7)) (Kd.R_lt z8_6)) (Kd.R_lt z8_5)) (below_size z8_1))
      have n10_ := z8_A (blk_below (g := gb252) (o := .cells #[.slice A0_0 l0_0.length c0_0, .slice A0_1 l0_1.length c0_1, .slice A0_2 l0_2.length c0_2, .slice A0_3 l0_3.length c0_3] 46 (0, 0)) z8_4 hb)
      have n11_ := z8_A (blk_below (g := gb283) (o := .cells #[.slice Ao26 t271.length co26, .slice Ao29 t274.length co29, .slice Ao30 t277.length co30, .slice Ao31 t280.length co31] 50 (0, 0)) z8_15 hb)
      have n12_ := z8_A (below_step z8_1 hb)
      clear HO_6
      clear HO_10
      clear HO_284000
      clear HO_284001
      clear HO_284002
      clear HO_284003
      clear BK252
      clear BK283
      clear HB
      have HO_6 := n0_
      have HO_10 := n1_
      have HO_284000 := n2_
      have HO_284001 := n3_
      have HO_284002 := n4_
      have HO_284003 := n5_
      have HO292 := n6_
      have HO295 := n7_
      have HO298 := n8_
      have HO301 := n9_
      have BK252 := n10_
      have BK283 := n11_
      have HB := n12_
      clear n0_ n1_ n2_ n3_ n4_ n5_ n6_ n7_ n8_ n9_ n10_ n11_ n12_
      (try clear hb)
      (try clear hb2)
      (try clear hk)
      (try clear hi)
      (try clear ho0)
      (try clear ho1)
      (try clear ho2)
      (try clear ho3)
      obtain ⟨Ao46, co46, eo46⟩ := Kd.R_slice HO292.out
      (first | subst eo46 | (injection eo46 with f1_ f2_ f3_; have f4_ := f1_.symm; have f5_ := f3_.symm; clear f1_ f2_ f3_; subst f4_; subst f5_))
      obtain ⟨Ao47, co47, eo47⟩ := Kd.R_slice HO295.out
      (first | subst eo47 | (injection eo47 with f1_ f2_ f3_; have f4_ := f1_.symm; have f5_ := f3_.symm; clear f1_ f2_ f3_; subst f4_; subst f5_))
      obtain ⟨Ao48, co48, eo48⟩ := Kd.R_slice HO298.out
      (first | subst eo48 | (injection eo48 with f1_ f2_ f3_; have f4_ := f1_.symm; have f5_ := f3_.symm; clear f1_ f2_ f3_; subst f4_; subst f5_))
      obtain ⟨Ao49, co49, eo49⟩ := Kd.R_slice HO301.out
      (first | subst eo49 | (injection eo49 with f1_ f2_ f3_; have f4_ := f1_.symm; have f5_ := f3_.symm; clear f1_ f2_ f3_; subst f4_; subst f5_))
      refine hK.out _ _ ⟨(blk_cell BK283.out 0).trans rfl, (blk_cell BK283.out 1).trans rfl, (blk_cell BK283.out 2).trans rfl, (blk_cell BK283.out 3).trans rfl, (blk_cell BK252.out 0).trans rfl, (blk_cell BK252.out 1).trans rfl, (blk_cell BK252.out 2).trans rfl, (blk_cell BK252.out 3).trans rfl⟩ (fun hHeld => ?_)
      clear hK K
      refine norm_ (a' := ?_) ?_ ?_
      rotate_left
      ·show Act.put _ (some 57) _ = _
       simp only [Act.put, List.setIfInBounds_toArray, List.set_cons_zero, List.set_cons_succ, i64_w, i32_w]
       rfl
      refine one_ (i := 3) (N := some 58) #[true, true, true, true, false] rfl rfl z8_28 (by decide) (fun K hK => ?_)
      refine goes_ Try.func37 z8_28 rfl #[.agg #[.slice Ao26 t271.length co26, .slice Ao29 t274.length co29, .slice Ao30 t277.length co30, .slice Ao31 t280.length co31], .agg #[.slice Ao46 t290.length co46, .slice Ao47 t293.length co47, .slice Ao48 t296.length co48, .slice Ao49 t299.length co49]] (by rfl) rfl rfl z8_3 ?_
      with_reducible refine (laws_eqCase.calls kj11 _ _ t271 _ _ t274 _ _ t277 _ _ t280 _ _ t290 _ _ t293 _ _ t296 _ _ t299 true _ ?side1 ?side2 ?side3 ?side4 ?side5 ?side6 ?side7 ?side8 ?side9 ?side10 ?side11 ?side12 ?side13 ?side14 ?side15 ?side16 A40.out).mono ?_
      (case side1 => have zh := (Kd.R_reads' HO_284000.out).2.2; exact z8_C)
      (case side2 => exact (Kd.R_reads' HO_284000.out).2.1)
      (case side3 => have zh := (Kd.R_reads' HO_284001.out).2.2; exact z8_C)
      (case side4 => exact (Kd.R_reads' HO_284001.out).2.1)
      (case side5 => have zh := (Kd.R_reads' HO_284002.out).2.2; exact z8_C)
      (case side6 => exact (Kd.R_reads' HO_284002.out).2.1)
      (case side7 => have zh := (Kd.R_reads' HO_284003.out).2.2; exact z8_C)
      (case side8 => exact (Kd.R_reads' HO_284003.out).2.1)
      (case side9 => have zh := (Kd.R_reads' HO292.out).2.2; exact z8_C)
      (case side10 => exact (Kd.R_reads' HO292.out).2.1)
      (case side11 => have zh := (Kd.R_reads' HO295.out).2.2; exact z8_C)
      (case side12 => exact (Kd.R_reads' HO295.out).2.1)
      (case side13 => have zh := (Kd.R_reads' HO298.out).2.2; exact z8_C)
      (case side14 => exact (Kd.R_reads' HO298.out).2.1)
      (case side15 => have zh := (Kd.R_reads' HO301.out).2.2; exact z8_C)
      (case side16 => exact (Kd.R_reads' HO301.out).2.1)
      rintro e w50 ⟨rfl, hb⟩
      refine ⟨_, rfl, ?_⟩
      have n0_ := z8_A (Kd.R_below z8_10 hb)
      have n1_ := z8_A (Kd.R_below z8_9 hb)
      have n2_ := z8_A (Kd.R_below z8_8 hb)
      have n3_ := z8_A (Kd.R_below z8_7 hb)
      have n4_ := z8_A (Kd.R_below z8_6 hb)
      have n5_ := z8_A (Kd.R_below z8_5 hb)
      have n6_ := z8_A (Kd.R_below (by (with_reducible repeat (first | apply Kd.R_alloc | apply Kd.R_drewN | apply Kd.R_drew)); exact HO292.out) hb)
      have n7_ := z8_A (Kd.R_below (by (with_reducible repeat (first | apply Kd.R_alloc | apply Kd.R_drewN | apply Kd.R_drew)); exact HO295.out) hb)
      have n8_ := z8_A (Kd.R_below (by (with_reducible repeat (first | apply Kd.R_alloc | apply Kd.R_drewN | apply Kd.R_drew)); exact HO298.out) hb)
      have n9_ := z8_A (Kd.R_below (by (with_reducible repeat (first | apply Kd.R_alloc | apply Kd.R_drewN | apply Kd.R_drew)); exact HO301.out) hb)
      have n10_ := z8_A (blk_below (g := gb252) (o := .cells #[.slice A0_0 l0_0.length c0_0, .slice A0_1 l0_1.length c0_1, .slice A0_2 l0_2.length c0_2, .slice A0_3 l0_3.length c0_3] 46 (0, 0)) z8_4 hb)
      have n11_ := z8_A (blk_below (g := gb283) (o := .cells #[.slice Ao26 t271.length co26, .slice Ao29 t274.length co29, .slice Ao30 t277.length co30, .slice Ao31 t280.length co31] 50 (0, 0)) z8_15 hb)
      have n12_ := z8_A (below_step z8_1 hb)
      clear HO_6
      clear HO_10
      clear HO_284000
      clear HO_284001
      clear HO_284002
      clear HO_284003
      clear HO292
      clear HO295
      clear HO298
      clear HO301
      clear BK252
      clear BK283
      clear HB
      have HO_6 := n0_
      have HO_10 := n1_
      have HO_284000 := n2_
      have HO_284001 := n3_
      have HO_284002 := n4_
      have HO_284003 := n5_
      have HO292 := n6_
      have HO295 := n7_
      have HO298 := n8_
      have HO301 := n9_
      have BK252 := n10_
      have BK283 := n11_
      have HB := n12_
      clear n0_ n1_ n2_ n3_ n4_ n5_ n6_ n7_ n8_ n9_ n10_ n11_ n12_
      (try clear hb)
      (try clear hb2)
      (try clear hk)
      (try clear hi)
      refine hK.out _ _ ⟨(blk_cell BK283.out 0).trans rfl, (blk_cell BK283.out 1).trans rfl, (blk_cell BK283.out 2).trans rfl, (blk_cell BK283.out 3).trans rfl, (blk_cell BK252.out 0).trans rfl, (blk_cell BK252.out 1).trans rfl, (blk_cell BK252.out 2).trans rfl, (blk_cell BK252.out 3).trans rfl⟩ (fun hHeld => ?_)
      clear hK K
      refine norm_ (a' := ?_) ?_ ?_
      rotate_left
      ·show Act.put _ (some 58) _ = _
       simp only [Act.put, List.setIfInBounds_toArray, List.set_cons_zero, List.set_cons_succ, i64_w, i32_w]
       rfl
      refine pure_ (i := 4) (N := some 59) (v := ?_) (a' := ?_) #[true, true, true, true, true] rfl rfl z8_28 (fun _ _ _ h => h) (Or.inl ⟨by rfl, ?_⟩) ?_ ?_
      rotate_left
      ·intro w'
       go_simp
       with_reducible rfl
      rotate_left
      ·simp only [Act.put, List.setIfInBounds_toArray, List.set_cons_zero, List.set_cons_succ, i64_w, i32_w]
       rfl
      refine done_ z8_28 ?_
      have hnb51 := NB283_252.out
      have hnc51 := NB252_283.out
      have hcz52_0 : w50.cell? ⟨gb283, 0, none⟩ = some (.slice Ao26 t271.length co26) := (blk_cell BK283.out 0).trans rfl
      have hcz52_1 : w50.cell? ⟨gb283, 1, none⟩ = some (.slice Ao29 t274.length co29) := (blk_cell BK283.out 1).trans rfl
      have hcz52_2 : w50.cell? ⟨gb283, 2, none⟩ = some (.slice Ao30 t277.length co30) := (blk_cell BK283.out 2).trans rfl
      have hcz52_3 : w50.cell? ⟨gb283, 3, none⟩ = some (.slice Ao31 t280.length co31) := (blk_cell BK283.out 3).trans rfl
      have hfz52_0 := blk_frozen BK283.out 0
      have hfz52_1 := blk_frozen BK283.out 1
      have hfz52_2 := blk_frozen BK283.out 2
      have hfz52_3 := blk_frozen BK283.out 3
      go_upto_region 14 with (first | ((with_reducible refine gate_callee (f := 38) rfl ?_); refine goesL_ (some 62) rfl rfl Try.func38 z8_28 rfl #[.agg #[.slice Ao26 t271.length co26, .slice Ao29 t274.length co29, .slice Ao30 t277.length co30, .slice Ao31 t280.length co31], .int .i64 1] rfl z8_3 ?_; (with_reducible refine (laws_markCase.calls kj11 (fun k_ => some k_ = (.slice Ao26 t271.length co26 : Value).ownBlock) (.slice Ao26 t271.length co26) t271 (fun k_ => some k_ = (.slice Ao29 t274.length co29 : Value).ownBlock) (.slice Ao29 t274.length co29) t274 (fun k_ => some k_ = (.slice Ao30 t277.length co30 : Value).ownBlock) (.slice Ao30 t277.length co30) t277 (fun k_ => some k_ = (.slice Ao31 t280.length co31 : Value).ownBlock) (.slice Ao31 t280.length co31) t280 1 t303 t304 t305 t306 t307 w _ ?side1 ?side2 ?side3 ?side4 ?side5 ?side6 ?side7 ?side8 ?side9 ?side10 ?side11 ?side12 ?side13 ?side14 ?side15 ?side16 ?side17 A42.out).mono ?_); (case side1 => repeat (first | (with_reducible first | exact HB.out | apply below_alloc | apply pw_below_drewN | apply below_drew1 | refine below_set ?_ GE252.out | refine below_set ?_ GE283.out) | exact HB.out)); (case side2 => exact Kd.R_tight rfl HO_284000.out); (case side3 => exact fun k_ e_ => (HO_284000.out.1 k_ e_.symm).1.1.1.1.2.2.1); (case side4 => exact fun k_ e_ => (HO_284000.out.1 k_ e_.symm).1.1.1.1.2.2.2.1); (case side5 => exact fun k_ e_ => (HO_284000.out.1 k_ e_.symm).1.1.1.1.2.2.2.2); (case side6 => exact Kd.R_tight rfl HO_284001.out); (case side7 => exact fun k_ e_ => (HO_284001.out.1 k_ e_.symm).1.1.1.1.2.2.1); (case side8 => exact fun k_ e_ => (HO_284001.out.1 k_ e_.symm).1.1.1.1.2.2.2.1); (case side9 => exact fun k_ e_ => (HO_284001.out.1 k_ e_.symm).1.1.1.1.2.2.2.2); (case side10 => exact Kd.R_tight rfl HO_284002.out); (case side11 => exact fun k_ e_ => (HO_284002.out.1 k_ e_.symm).1.1.1.1.2.2.1); (case side12 => exact fun k_ e_ => (HO_284002.out.1 k_ e_.symm).1.1.1.1.2.2.2.1); (case side13 => exact fun k_ e_ => (HO_284002.out.1 k_ e_.symm).1.1.1.1.2.2.2.2); (case side14 => exact Kd.R_tight rfl HO_284003.out); (case side15 => exact fun k_ e_ => (HO_284003.out.1 k_ e_.symm).1.1.1.1.2.2.1); (case side16 => exact fun k_ e_ => (HO_284003.out.1 k_ e_.symm).1.1.1.1.2.2.2.1); (case side17 => exact fun k_ e_ => (HO_284003.out.1 k_ e_.symm).1.1.1.1.2.2.2.2); rintro e w53 ⟨rfl, hy0, hy1, hy2, hy3, hb, hkp⟩; refine ⟨_, rfl, ?_⟩; have n0_ := z8_A (Kd.R_mono (ok' := fun k_ => z8_V k_ v285 ∧ z8_S k_ Ao26 t271.length co26 ∧ z8_S k_ Ao29 t274.length co29 ∧ z8_S k_ Ao30 t277.length co30 ∧ z8_S k_ Ao31 t280.length co31 ∧ z8_S k_ Ao46 t290.length co46 ∧ z8_S k_ Ao47 t293.length co47 ∧ z8_S k_ Ao48 t296.length co48 ∧ z8_S k_ Ao49 t299.length co49) (Kd.R_keptB (HO_6.out) hkp (fun k_ hk_ hs_ => Or.elim hs_ (fun e_ => (hk_.1.1.1.1.2.1) e_) (fun e_ => Or.elim e_ (fun e_ => (hk_.1.1.1.1.2.2.1) e_) (fun e_ => Or.elim e_ (fun e_ => (hk_.1.1.1.1.2.2.2.1) e_) (fun e_ => (hk_.1.1.1.1.2.2.2.2) e_))))) (fun k_ hk_ => ⟨hk_.1.1.1.1.1.1, hk_.1.1.1.1.1.2.1, hk_.1.1.1.1.1.2.2.1, hk_.1.1.1.1.1.2.2.2.1, hk_.1.1.1.1.1.2.2.2.2, hk_.1.1.1.1.2, hk_.1.1.1.2, hk_.1.1.2, hk_.1.2⟩)); have n1_ := z8_A (Kd.R_mono (ok' := fun k_ => z8_V k_ v267 ∧ z8_S k_ Ao26 t271.length co26 ∧ z8_S k_ Ao29 t274.length co29 ∧ z8_S k_ Ao30 t277.length co30 ∧ z8_S k_ Ao31 t280.length co31 ∧ z8_S k_ Ao46 t290.length co46 ∧ z8_S k_ Ao47 t293.length co47 ∧ z8_S k_ Ao48 t296.length co48 ∧ z8_S k_ Ao49 t299.length co49) (Kd.R_keptB (HO_10.out) hkp (fun k_ hk_ hs_ => Or.elim hs_ (fun e_ => (hk_.1.1.1.1.2.1) e_) (fun e_ => Or.elim e_ (fun e_ => (hk_.1.1.1.1.2.2.1) e_) (fun e_ => Or.elim e_ (fun e_ => (hk_.1.1.1.1.2.2.2.1) e_) (fun e_ => (hk_.1.1.1.1.2.2.2.2) e_))))) (fun k_ hk_ => ⟨hk_.1.1.1.1.1.1, hk_.1.1.1.1.1.2.1, hk_.1.1.1.1.1.2.2.1, hk_.1.1.1.1.1.2.2.2.1, hk_.1.1.1.1.1.2.2.2.2, hk_.1.1.1.1.2, hk_.1.1.1.2, hk_.1.1.2, hk_.1.2⟩)); have n2_ := z8_A (Kd.R_reok rfl hy0 (fun k_ e_ => HO_284000.out.1 k_ e_)); have n3_ := z8_A (Kd.R_reok rfl hy1 (fun k_ e_ => HO_284001.out.1 k_ e_)); have n4_ := z8_A (Kd.R_reok rfl hy2 (fun k_ e_ => HO_284002.out.1 k_ e_)); have n5_ := z8_A (Kd.R_reok rfl hy3 (fun k_ e_ => HO_284003.out.1 k_ e_)); have n6_ := z8_A (blk_kept (g := gb252) (o := .cells #[.slice A0_0 l0_0.length c0_0, .slice A0_1 l0_1.length c0_1, .slice A0_2 l0_2.length c0_2, .slice A0_3 l0_3.length c0_3] 46 (0, 0)) z8_4 hkp (fun hs_ => Or.elim hs_ (fun e_ => (fun e_ => (Kd.R_ne HO_284000.out BK252.out (by decide)) e_) e_) (fun e_ => Or.elim e_ (fun e_ => (fun e_ => (Kd.R_ne HO_284001.out BK252.out (by decide)) e_) e_) (fun e_ => Or.elim e_ (fun e_ => (fun e_ => (Kd.R_ne HO_284002.out BK252.out (by decide)) e_) e_) (fun e_ => (fun e_ => (Kd.R_ne HO_284003.out BK252.out (by decide)) e_) e_))))); have n7_ := z8_A (blk_kept (g := gb283) (o := .cells #[.slice Ao26 t271.length co26, .slice Ao29 t274.length co29, .slice Ao30 t277.length co30, .slice Ao31 t280.length co31] 50 (0, 0)) z8_15 hkp (fun hs_ => Or.elim hs_ (fun e_ => (fun e_ => (Kd.R_ne HO_284000.out BK283.out (by decide)) e_) e_) (fun e_ => Or.elim e_ (fun e_ => (fun e_ => (Kd.R_ne HO_284001.out BK283.out (by decide)) e_) e_) (fun e_ => Or.elim e_ (fun e_ => (fun e_ => (Kd.R_ne HO_284002.out BK283.out (by decide)) e_) e_) (fun e_ => (fun e_ => (Kd.R_ne HO_284003.out BK283.out (by decide)) e_) e_))))); have n8_ := z8_A (Kd.R_mono (ok' := fun k_ => z8_V k_ v267 ∧ z8_V k_ v285 ∧ z8_S k_ Ao26 t271.length co26 ∧ z8_S k_ Ao29 t274.length co29 ∧ z8_S k_ Ao30 t277.length co30 ∧ z8_S k_ Ao31 t280.length co31 ∧ z8_S k_ Ao47 t293.length co47 ∧ z8_S k_ Ao48 t296.length co48 ∧ z8_S k_ Ao49 t299.length co49) (Kd.R_keptB (HO292.out) hkp (fun k_ hk_ hs_ => Or.elim hs_ (fun e_ => (hk_.1.1.1.2) e_) (fun e_ => Or.elim e_ (fun e_ => (hk_.1.1.2) e_) (fun e_ => Or.elim e_ (fun e_ => (hk_.1.2) e_) (fun e_ => (hk_.2) e_))))) (fun k_ hk_ => ⟨hk_.1.1.1.1.1.1.2, hk_.1.1.1.1.1.2, hk_.1.1.1.1.2, hk_.1.1.1.2, hk_.1.1.2, hk_.1.2, hk_.1.1.1.1.1.1.1.1, hk_.1.1.1.1.1.1.1.2.1, hk_.1.1.1.1.1.1.1.2.2⟩)); have n9_ := z8_A (Kd.R_mono (ok' := fun k_ => z8_V k_ v267 ∧ z8_V k_ v285 ∧ z8_S k_ Ao26 t271.length co26 ∧ z8_S k_ Ao29 t274.length co29 ∧ z8_S k_ Ao30 t277.length co30 ∧ z8_S k_ Ao31 t280.length co31 ∧ z8_S k_ Ao46 t290.length co46 ∧ z8_S k_ Ao48 t296.length co48 ∧ z8_S k_ Ao49 t299.length co49) (Kd.R_keptB (HO295.out) hkp (fun k_ hk_ hs_ => Or.elim hs_ (fun e_ => (hk_.1.1.1.2) e_) (fun e_ => Or.elim e_ (fun e_ => (hk_.1.1.2) e_) (fun e_ => Or.elim e_ (fun e_ => (hk_.1.2) e_) (fun e_ => (hk_.2) e_))))) (fun k_ hk_ => ⟨hk_.1.1.1.1.1.1.2, hk_.1.1.1.1.1.2, hk_.1.1.1.1.2, hk_.1.1.1.2, hk_.1.1.2, hk_.1.2, hk_.1.1.1.1.1.1.1.1, hk_.1.1.1.1.1.1.1.2.1, hk_.1.1.1.1.1.1.1.2.2⟩)); have n10_ := z8_A (Kd.R_mono (ok' := fun k_ => z8_V k_ v267 ∧ z8_V k_ v285 ∧ z8_S k_ Ao26 t271.length co26 ∧ z8_S k_ Ao29 t274.length co29 ∧ z8_S k_ Ao30 t277.length co30 ∧ z8_S k_ Ao31 t280.length co31 ∧ z8_S k_ Ao46 t290.length co46 ∧ z8_S k_ Ao47 t293.length co47 ∧ z8_S k_ Ao49 t299.length co49) (Kd.R_keptB (HO298.out) hkp (fun k_ hk_ hs_ => Or.elim hs_ (fun e_ => (hk_.1.1.1.2) e_) (fun e_ => Or.elim e_ (fun e_ => (hk_.1.1.2) e_) (fun e_ => Or.elim e_ (fun e_ => (hk_.1.2) e_) (fun e_ => (hk_.2) e_))))) (fun k_ hk_ => ⟨hk_.1.1.1.1.1.1.2, hk_.1.1.1.1.1.2, hk_.1.1.1.1.2, hk_.1.1.1.2, hk_.1.1.2, hk_.1.2, hk_.1.1.1.1.1.1.1.1, hk_.1.1.1.1.1.1.1.2.1, hk_.1.1.1.1.1.1.1.2.2⟩)); have n11_ := z8_A (Kd.R_mono (ok' := fun k_ => z8_V k_ v267 ∧ z8_V k_ v285 ∧ z8_S k_ Ao26 t271.length co26 ∧ z8_S k_ Ao29 t274.length co29 ∧ z8_S k_ Ao30 t277.length co30 ∧ z8_S k_ Ao31 t280.length co31 ∧ z8_S k_ Ao46 t290.length co46 ∧ z8_S k_ Ao47 t293.length co47 ∧ z8_S k_ Ao48 t296.length co48) (Kd.R_keptB (HO301.out) hkp (fun k_ hk_ hs_ => Or.elim hs_ (fun e_ => (hk_.1.1.1.2) e_) (fun e_ => Or.elim e_ (fun e_ => (hk_.1.1.2) e_) (fun e_ => Or.elim e_ (fun e_ => (hk_.1.2) e_) (fun e_ => (hk_.2) e_))))) (fun k_ hk_ => ⟨hk_.1.1.1.1.1.1.2, hk_.1.1.1.1.1.2, hk_.1.1.1.1.2, hk_.1.1.1.2, hk_.1.1.2, hk_.1.2, hk_.1.1.1.1.1.1.1.1, hk_.1.1.1.1.1.1.1.2.1, hk_.1.1.1.1.1.1.1.2.2⟩)); have n12_ := z8_A (hb); clear HO_6 HO_10 HO_284000 HO_284001 HO_284002 HO_284003 BK252 BK283 HO292 HO295 HO298 HO301 HB; revert n0_ n1_ n2_ n3_ n4_ n5_ n6_ n7_ n8_ n9_ n10_ n11_ n12_; intro HO_6 HO_10 HO_284000 HO_284001 HO_284002 HO_284003 BK252 BK283 HO292 HO295 HO298 HO301 HB; (try clear hb); (try clear hkp); (try clear hy0); (try clear hy1); (try clear hy2); (try clear hy3)))
      (try simp only [Act.put, List.setIfInBounds_toArray, List.set_cons_zero, List.set_cons_succ])
      go_cut [80] (fun v80 wc => ∃ (kq : Nat) (x80_42 : Bool), v80 = .bool x80_42 ∧ Aside0 (laws_FnExactBestFresh.j1 kq a1 t266 t269 t270 t284 x80_42 l0_0 l0_1 l0_2 l0_3 = some r) ∧ Aside0 (kq ≤ kj11) ∧ Aside0 (Kd.R (Kd.int .i64) 3 wc w.heap.size (fun k_ => z8_V k_ v285 ∧ some k_ ≠ ((.slice Ao26 t271.length co26) : Value).ownBlock ∧ some k_ ≠ ((.slice Ao29 t274.length co29) : Value).ownBlock ∧ some k_ ≠ ((.slice Ao30 t277.length co30) : Value).ownBlock ∧ some k_ ≠ ((.slice Ao31 t280.length co31) : Value).ownBlock) v267 t266) ∧ Aside0 (Kd.R (Kd.int .i64) 3 wc w.heap.size (fun k_ => z8_V k_ v267 ∧ some k_ ≠ ((.slice Ao26 t271.length co26) : Value).ownBlock ∧ some k_ ≠ ((.slice Ao29 t274.length co29) : Value).ownBlock ∧ some k_ ≠ ((.slice Ao30 t277.length co30) : Value).ownBlock ∧ some k_ ≠ ((.slice Ao31 t280.length co31) : Value).ownBlock) v285 t284) ∧ Aside0 (Kd.R (Kd.int .i64) 3 wc w.heap.size (fun k_ => z8_V k_ v267 ∧ z8_V k_ v285 ∧ some k_ ≠ ((.slice Ao29 t274.length co29) : Value).ownBlock ∧ some k_ ≠ ((.slice Ao30 t277.length co30) : Value).ownBlock ∧ some k_ ≠ ((.slice Ao31 t280.length co31) : Value).ownBlock) (.slice Ao26 t271.length co26) t304) ∧ Aside0 (Kd.R (Kd.int .i64) 3 wc w.heap.size (fun k_ => z8_V k_ v267 ∧ z8_V k_ v285 ∧ some k_ ≠ ((.slice Ao26 t271.length co26) : Value).ownBlock ∧ some k_ ≠ ((.slice Ao30 t277.length co30) : Value).ownBlock ∧ some k_ ≠ ((.slice Ao31 t280.length co31) : Value).ownBlock) (.slice Ao29 t274.length co29) t305) ∧ Aside0 (Kd.R (Kd.int .i64) 3 wc w.heap.size (fun k_ => z8_V k_ v267 ∧ z8_V k_ v285 ∧ some k_ ≠ ((.slice Ao26 t271.length co26) : Value).ownBlock ∧ some k_ ≠ ((.slice Ao29 t274.length co29) : Value).ownBlock ∧ some k_ ≠ ((.slice Ao31 t280.length co31) : Value).ownBlock) (.slice Ao30 t277.length co30) t306) ∧ Aside0 (Kd.R (Kd.int .i64) 3 wc w.heap.size (fun k_ => z8_V k_ v267 ∧ z8_V k_ v285 ∧ some k_ ≠ ((.slice Ao26 t271.length co26) : Value).ownBlock ∧ some k_ ≠ ((.slice Ao29 t274.length co29) : Value).ownBlock ∧ some k_ ≠ ((.slice Ao30 t277.length co30) : Value).ownBlock) (.slice Ao31 t280.length co31) t307) ∧ Aside0 (wc.heap[gb252]? = some (.cells #[(.slice A0_0 l0_0.length c0_0), (.slice A0_1 l0_1.length c0_1), (.slice A0_2 l0_2.length c0_2), (.slice A0_3 l0_3.length c0_3)] 46 (0, 0))) ∧ Aside0 (wc.heap[gb283]? = some (.cells #[(.slice Ao26 t271.length co26), (.slice Ao29 t274.length co29), (.slice Ao30 t277.length co30), (.slice Ao31 t280.length co31)] 50 (0, 0))) ∧ Aside0 (Below w.heap.size w wc))
      case first =>
       have H := HC43.out
       clear HC43
       by_cases c54 : t303 < 0
       ·rw [if_pos c54] at H
        exact absurd H (by simp)
       ·rw [if_neg c54] at H
        have c54b0 : decide (t303 < 0) = false := decide_eq_false c54
        clear c54
        (first | rw [c54b0] | (simp only [i64_w, i32_w]; rw [c54b0]) | skip)
        replace H := Option.bind_eq_some_iff.mp H
        obtain ⟨t308, A550, H⟩ := H
        (try dsimp only at H)
        have A55 := z8_A A550
        clear A550
        by_cases c56 : t308 = true
        ·subst c56
         have H1 : (if t287 = t269 then (laws_FnExactBestFresh.j1 kj11 a1 t266 t269 t270 t284 (t288 != t270) l0_0 l0_1 l0_2 l0_3) else (none)) = some r := z8_29
         clear H
         have H := H1
         clear H1
         by_cases c57 : t287 = t269
         ·rw [if_pos c57] at H
          have c57b0 : (t287 == t269) = true := beq_iff_eq.mpr c57
          have c57b1 : (t287 != t269) = false := bne_eq_false_iff_eq.mpr c57
          clear c57
          have H' := z8_A H
          clear H
          obtain ⟨Ao58, co58, eo58⟩ := Kd.R_slice HO_10.out
          subst eo58
          obtain ⟨Ao59, co59, eo59⟩ := Kd.R_slice HO_6.out
          subst eo59
          go_wp2_with (first | (go_at_call 22; (with_reducible refine (laws_eqIntS.calls kj11 _ _ t284 _ _ t266 true _ ?side1 ?side2 ?side3 ?side4 A55.out).mono ?_); (case side1 => have zh := (Kd.R_reads' HO_10.out).2.2; exact z8_C); (case side2 => exact (Kd.R_reads' HO_10.out).2.1); (case side3 => have zh := (Kd.R_reads' HO_6.out).2.2; exact z8_C); (case side4 => exact (Kd.R_reads' HO_6.out).2.1); rintro e w' ⟨rfl, ⟨nd, rfl⟩⟩))
          go_meet
          case rel => exact ⟨_, ((t288 != t270)), z8_36, H', ⟨by have := HJ11.out; first | omega | exact Nat.le_refl _⟩, ⟨by (with_reducible repeat (first | apply Kd.R_alloc | apply Kd.R_drewN | apply Kd.R_drew)); exact Kd.R_mono HO_6.out (fun _ hk => ⟨hk.1, ⟨hk.2.1, ⟨hk.2.2.1, ⟨hk.2.2.2.1, hk.2.2.2.2.1⟩⟩⟩⟩)⟩, ⟨by (with_reducible repeat (first | apply Kd.R_alloc | apply Kd.R_drewN | apply Kd.R_drew)); exact Kd.R_mono HO_10.out (fun _ hk => ⟨hk.1, ⟨hk.2.1, ⟨hk.2.2.1, ⟨hk.2.2.2.1, hk.2.2.2.2.1⟩⟩⟩⟩)⟩, ⟨by (with_reducible repeat (first | apply Kd.R_alloc | apply Kd.R_drewN | apply Kd.R_drew)); exact Kd.R_mono HO_284000.out (fun _ hk => ⟨hk.1.1.1.1.1, ⟨hk.1.1.1.1.2.1, ⟨hk.1.1.1.1.2.2.1, ⟨hk.1.1.1.1.2.2.2.1, hk.1.1.1.1.2.2.2.2⟩⟩⟩⟩)⟩, ⟨by (with_reducible repeat (first | apply Kd.R_alloc | apply Kd.R_drewN | apply Kd.R_drew)); exact Kd.R_mono HO_284001.out (fun _ hk => ⟨hk.1.1.1.1.1, ⟨hk.1.1.1.1.2.1, ⟨hk.1.1.1.1.2.2.1, ⟨hk.1.1.1.1.2.2.2.1, hk.1.1.1.1.2.2.2.2⟩⟩⟩⟩)⟩, ⟨by (with_reducible repeat (first | apply Kd.R_alloc | apply Kd.R_drewN | apply Kd.R_drew)); exact Kd.R_mono HO_284002.out (fun _ hk => ⟨hk.1.1.1.1.1, ⟨hk.1.1.1.1.2.1, ⟨hk.1.1.1.1.2.2.1, ⟨hk.1.1.1.1.2.2.2.1, hk.1.1.1.1.2.2.2.2⟩⟩⟩⟩)⟩, ⟨by (with_reducible repeat (first | apply Kd.R_alloc | apply Kd.R_drewN | apply Kd.R_drew)); exact Kd.R_mono HO_284003.out (fun _ hk => ⟨hk.1.1.1.1.1, ⟨hk.1.1.1.1.2.1, ⟨hk.1.1.1.1.2.2.1, ⟨hk.1.1.1.1.2.2.2.1, hk.1.1.1.1.2.2.2.2⟩⟩⟩⟩)⟩, ⟨z8_4⟩, ⟨z8_15⟩, ⟨z8_1⟩⟩
         ·rw [if_neg c57] at H
          exact absurd H (by simp)
        ·replace c56 := Bool.eq_false_iff.mpr c56
         subst c56
         have H1 : (none) = some r := z8_27
         clear H
         have H := H1
         clear H1
         exact absurd H (by simp)
      case rest =>
       clear HC43
       (try clear c2); (try clear p2); (try clear c3); (try clear c4); (try clear c4b0); (try clear c5); (try clear c8); (try clear c22); (try clear c27); (try clear c33); (try clear c34); (try clear c35); (try clear c35b0); (try clear c35b1); (try clear c36); (try clear c37); (try clear c38); (try clear c41); (try clear c51); (try clear c54); (try clear c54b0); (try clear c56); (try clear c57); (try clear c57b0); (try clear c57b1); (try clear hcz14_0); (try clear hcz14_1); (try clear hcz14_2); (try clear hcz14_3); (try clear hcz16_0); (try clear hcz16_1); (try clear hcz16_2); (try clear hcz16_3); (try clear hcz23_0); (try clear hcz23_1); (try clear hcz23_2); (try clear hcz23_3); (try clear hcz28_0); (try clear hcz28_1); (try clear hcz28_2); (try clear hcz28_3); (try clear hcz52_0); (try clear hcz52_1); (try clear hcz52_2); (try clear hcz52_3); (try clear hcz6_0); (try clear hcz6_1); (try clear hcz6_2); (try clear hcz6_3); (try clear hfz14_0); (try clear hfz14_1); (try clear hfz14_2); (try clear hfz14_3); (try clear hfz16_0); (try clear hfz16_1); (try clear hfz16_2); (try clear hfz16_3); (try clear hfz23_0); (try clear hfz23_1); (try clear hfz23_2); (try clear hfz23_3); (try clear hfz28_0); (try clear hfz28_1); (try clear hfz28_2); (try clear hfz28_3); (try clear hfz52_0); (try clear hfz52_1); (try clear hfz52_2); (try clear hfz52_3); (try clear hfz6_0); (try clear hfz6_1); (try clear hfz6_2); (try clear hfz6_3); (try clear p2)
       obtain ⟨kq, x80_42, rfl, HA, HJ42, HO_6, HO_10, HO_284000, HO_284001, HO_284002, HO_284003, BK252, BK283, HB⟩ := hcut
       have hl284000_42 := (Kd.R_reads' HO_284000.out).1
       rw [hl284000_42] at HO_284000
       (try simp only [hl284000_42])
       (try simp only [hl284000_42] at BK252)
       (try simp only [hl284000_42] at BK283)
       (try simp only [hl284000_42] at HO_6)
       (try simp only [hl284000_42] at HO_10)
       (try simp only [hl284000_42] at HO_284001)
       (try simp only [hl284000_42] at HO_284002)
       (try simp only [hl284000_42] at HO_284003)
       have hl284001_42 := (Kd.R_reads' HO_284001.out).1
       rw [hl284001_42] at HO_284001
       (try simp only [hl284001_42])
       (try simp only [hl284001_42] at BK252)
       (try simp only [hl284001_42] at BK283)
       (try simp only [hl284001_42] at HO_6)
       (try simp only [hl284001_42] at HO_10)
       (try simp only [hl284001_42] at HO_284000)
       (try simp only [hl284001_42] at HO_284002)
       (try simp only [hl284001_42] at HO_284003)
       have hl284002_42 := (Kd.R_reads' HO_284002.out).1
       rw [hl284002_42] at HO_284002
       (try simp only [hl284002_42])
       (try simp only [hl284002_42] at BK252)
       (try simp only [hl284002_42] at BK283)
       (try simp only [hl284002_42] at HO_6)
       (try simp only [hl284002_42] at HO_10)
       (try simp only [hl284002_42] at HO_284000)
       (try simp only [hl284002_42] at HO_284001)
       (try simp only [hl284002_42] at HO_284003)
       have hl284003_42 := (Kd.R_reads' HO_284003.out).1
       rw [hl284003_42] at HO_284003
       (try simp only [hl284003_42])
       (try simp only [hl284003_42] at BK252)
       (try simp only [hl284003_42] at BK283)
       (try simp only [hl284003_42] at HO_6)
       (try simp only [hl284003_42] at HO_10)
       (try simp only [hl284003_42] at HO_284000)
       (try simp only [hl284003_42] at HO_284001)
       (try simp only [hl284003_42] at HO_284002)
       cases kq with
       | zero => exact absurd HA.out (by simp [laws_FnExactBestFresh.j1])
       | succ kj42 =>
        have H := HA.out
        clear HA
        simp only [laws_FnExactBestFresh.j1] at H
        by_cases c60 : x80_42 = true
        ·subst c60
         have H1 : (none) = some r := z8_29
         clear H
         have H := H1
         clear H1
         exact absurd H (by simp)
        ·replace c60 := Bool.eq_false_iff.mpr c60
         subst c60
         have H1 : ((laws_markIntS.f kj42 t284 1).bind fun bt309 => ((laws_heldIntS.f kj42 bt309.2 1).bind fun t311 => (if t311 < 0 then (none) else (if t311 = bt309.1 then ((laws_toCase.f kj42 l0_0 l0_1 l0_2 l0_3).bind fun bt312 => ((impl_BestFresh.f kj42 bt312.1 bt312.2.1 bt312.2.2.1 bt312.2.2.2 a1).bind fun bt324 => ((laws_eqIntS.f kj42 bt324.1 t266).bind fun t329 => (if t329 = true then (if bt324.2.1 = t269 then (laws_FnExactBestFresh.j2 kj42 bt309.2 bt309.1 (bt324.2.2 != t270)) else (none)) else (none))))) else (none))))) = some r := z8_27
         clear H
         have H := H1
         clear H1
         replace H := Option.bind_eq_some_iff.mp H
         obtain ⟨⟨t309, t310⟩, A610, H⟩ := H
         (try dsimp only at H)
         have A61 := z8_A A610
         clear A610
         replace H := Option.bind_eq_some_iff.mp H
         obtain ⟨t311, A620, H⟩ := H
         (try dsimp only at H)
         have A62 := z8_A A620
         clear A620
         by_cases c63 : t311 < 0
         ·rw [if_pos c63] at H
          exact absurd H (by simp)
         ·rw [if_neg c63] at H
          have c63b0 : decide (t311 < 0) = false := decide_eq_false c63
          clear c63
          by_cases c64 : t311 = t309
          ·rw [if_pos c64] at H
           have c64b0 : (t311 == t309) = true := beq_iff_eq.mpr c64
           have c64b1 : (t311 != t309) = false := bne_eq_false_iff_eq.mpr c64
           clear c64
           replace H := Option.bind_eq_some_iff.mp H
           obtain ⟨⟨t312, t315, t318, t321⟩, A650, H⟩ := H
           (try dsimp only at H)
           have A65 := z8_A A650
           clear A650
           replace H := Option.bind_eq_some_iff.mp H
           obtain ⟨⟨t324, t327, t328⟩, A660, H⟩ := H
           (try dsimp only at H)
           have A66 := z8_A A660
           clear A660
           have HC67 := z8_A H
           clear H
           obtain ⟨Ao68, co68, eo68⟩ := Kd.R_slice HO_10.out
           subst eo68
           go_upto_region 25 with (first | ((with_reducible refine gate_callee (f := 25) rfl ?_); refine goesL_ (some 83) rfl rfl Try.func25 z8_28 rfl #[.slice Ao68 t284.length co68, .int .i64 1] rfl z8_3 ?_; (with_reducible refine (laws_markIntS.calls kj42 (fun k_ => some k_ = (.slice Ao68 t284.length co68 : Value).ownBlock) (.slice Ao68 t284.length co68) t284 1 t309 t310 w _ ?side1 ?side2 A61.out).mono ?_); (case side1 => repeat (first | (with_reducible first | exact HB.out | apply below_alloc | apply pw_below_drewN | apply below_drew1 | refine below_set ?_ GE252.out | refine below_set ?_ GE283.out) | exact HB.out)); (case side2 => exact Kd.R_tight rfl HO_10.out); rintro e w69 ⟨rfl, hy0, hb, hkp⟩; refine ⟨_, rfl, ?_⟩; have n0_ := z8_A (Kd.R_mono (ok' := fun k_ => z8_S k_ Ao68 t284.length co68 ∧ z8_S k_ Ao26 t304.length co26 ∧ z8_S k_ Ao29 t305.length co29 ∧ z8_S k_ Ao30 t306.length co30 ∧ z8_S k_ Ao31 t307.length co31) (Kd.R_keptB (HO_6.out) hkp (fun k_ hk_ hs_ => (hk_.1) hs_)) (fun k_ hk_ => ⟨hk_.1.1, hk_.1.2.1, hk_.1.2.2.1, hk_.1.2.2.2.1, hk_.1.2.2.2.2⟩)); have n1_ := z8_A (Kd.R_reok rfl hy0 (fun k_ e_ => HO_10.out.1 k_ e_)); have n2_ := z8_A (Kd.R_mono (ok' := fun k_ => z8_V k_ v267 ∧ z8_S k_ Ao68 t284.length co68 ∧ z8_S k_ Ao29 t305.length co29 ∧ z8_S k_ Ao30 t306.length co30 ∧ z8_S k_ Ao31 t307.length co31) (Kd.R_keptB (HO_284000.out) hkp (fun k_ hk_ hs_ => (hk_.2.1) hs_)) (fun k_ hk_ => ⟨hk_.1.1, hk_.1.2.1, hk_.1.2.2.1, hk_.1.2.2.2.1, hk_.1.2.2.2.2⟩)); have n3_ := z8_A (Kd.R_mono (ok' := fun k_ => z8_V k_ v267 ∧ z8_S k_ Ao68 t284.length co68 ∧ z8_S k_ Ao26 t304.length co26 ∧ z8_S k_ Ao30 t306.length co30 ∧ z8_S k_ Ao31 t307.length co31) (Kd.R_keptB (HO_284001.out) hkp (fun k_ hk_ hs_ => (hk_.2.1) hs_)) (fun k_ hk_ => ⟨hk_.1.1, hk_.1.2.1, hk_.1.2.2.1, hk_.1.2.2.2.1, hk_.1.2.2.2.2⟩)); have n4_ := z8_A (Kd.R_mono (ok' := fun k_ => z8_V k_ v267 ∧ z8_S k_ Ao68 t284.length co68 ∧ z8_S k_ Ao26 t304.length co26 ∧ z8_S k_ Ao29 t305.length co29 ∧ z8_S k_ Ao31 t307.length co31) (Kd.R_keptB (HO_284002.out) hkp (fun k_ hk_ hs_ => (hk_.2.1) hs_)) (fun k_ hk_ => ⟨hk_.1.1, hk_.1.2.1, hk_.1.2.2.1, hk_.1.2.2.2.1, hk_.1.2.2.2.2⟩)); have n5_ := z8_A (Kd.R_mono (ok' := fun k_ => z8_V k_ v267 ∧ z8_S k_ Ao68 t284.length co68 ∧ z8_S k_ Ao26 t304.length co26 ∧ z8_S k_ Ao29 t305.length co29 ∧ z8_S k_ Ao30 t306.length co30) (Kd.R_keptB (HO_284003.out) hkp (fun k_ hk_ hs_ => (hk_.2.1) hs_)) (fun k_ hk_ => ⟨hk_.1.1, hk_.1.2.1, hk_.1.2.2.1, hk_.1.2.2.2.1, hk_.1.2.2.2.2⟩)); have n6_ := z8_A (blk_kept (g := gb252) (o := .cells #[.slice A0_0 l0_0.length c0_0, .slice A0_1 l0_1.length c0_1, .slice A0_2 l0_2.length c0_2, .slice A0_3 l0_3.length c0_3] 46 (0, 0)) z8_4 hkp (fun hs_ => (fun e_ => (Kd.R_ne HO_10.out BK252.out (by decide)) e_) hs_)); have n7_ := z8_A (blk_kept (g := gb283) (o := .cells #[.slice Ao26 t304.length co26, .slice Ao29 t305.length co29, .slice Ao30 t306.length co30, .slice Ao31 t307.length co31] 50 (0, 0)) z8_15 hkp (fun hs_ => (fun e_ => (Kd.R_ne HO_10.out BK283.out (by decide)) e_) hs_)); have n8_ := z8_A (hb); clear HO_6 HO_10 HO_284000 HO_284001 HO_284002 HO_284003 BK252 BK283 HB; revert n0_ n1_ n2_ n3_ n4_ n5_ n6_ n7_ n8_; intro HO_6 HO_10 HO_284000 HO_284001 HO_284002 HO_284003 BK252 BK283 HB; (try clear hb); (try clear hkp); (try clear hy0)) | ((with_reducible refine gate_callee (f := 26) rfl ?_); refine goesL_ (some 86) rfl rfl Try.func26 z8_28 rfl #[.slice Ao68 t310.length co68, .int .i64 1] rfl (by (try simp only [List.map_toArray, List.map_cons, List.map_nil]); first | done | (rw [show t310.length = t284.length from (Kd.R_reads' HO_10.out).1.symm] <;> rfl) | rfl | (simp only [List.length_drop, List.length_take]; rfl)) ?_; (with_reducible refine (laws_heldIntS.calls kj42 _ _ t310 1 t311 _ ?side1 ?side2 A62.out).mono ?_); (case side1 => have zh := (Kd.R_reads' HO_10.out).2.2; exact z8_C); (case side2 => rw [show t310.length = t284.length from (Kd.R_reads' HO_10.out).1.symm]; exact (Kd.R_reads' HO_10.out).2.1); rintro e w' ⟨rfl, ⟨nd, rfl⟩⟩; refine ⟨_, rfl, ?_⟩; have hnb70 := NB252_283.out; have hnc70 := NB283_252.out; have hcz71_0 : w69.cell? ⟨gb252, 0, none⟩ = some (.slice A0_0 l0_0.length c0_0) := (blk_cell BK252.out 0).trans rfl; have hcz71_1 : w69.cell? ⟨gb252, 1, none⟩ = some (.slice A0_1 l0_1.length c0_1) := (blk_cell BK252.out 1).trans rfl; have hcz71_2 : w69.cell? ⟨gb252, 2, none⟩ = some (.slice A0_2 l0_2.length c0_2) := (blk_cell BK252.out 2).trans rfl; have hcz71_3 : w69.cell? ⟨gb252, 3, none⟩ = some (.slice A0_3 l0_3.length c0_3) := (blk_cell BK252.out 3).trans rfl; have hfz71_0 := blk_frozen BK252.out 0; have hfz71_1 := blk_frozen BK252.out 1; have hfz71_2 := blk_frozen BK252.out 2; have hfz71_3 := blk_frozen BK252.out 3) | ((with_reducible refine gate_callee (f := 35) rfl ?_); refine goesL_ (some 94) rfl rfl Try.func35 z8_28 rfl #[.agg #[.slice A0_0 l0_0.length c0_0, .slice A0_1 l0_1.length c0_1, .slice A0_2 l0_2.length c0_2, .slice A0_3 l0_3.length c0_3]] rfl z8_3 ?_; (with_reducible refine (laws_toCase.calls kj42 _ _ l0_0 _ _ l0_1 _ _ l0_2 _ _ l0_3 t312 t315 t318 t321 _ ?side1 ?side2 ?side3 ?side4 ?side5 ?side6 ?side7 ?side8 A65.out).mono ?_); (case side1 => repeat (first | exact (Kd.C_below HR0_0.out z8_1) | (with_reducible refine Kd.C_alloc ?_ _) | (with_reducible refine Kd.C_drewN ?_ _) | (with_reducible refine Kd.C_drew ?_))); (case side2 => exact HC0_0.out); (case side3 => repeat (first | exact (Kd.C_below HR0_1.out z8_1) | (with_reducible refine Kd.C_alloc ?_ _) | (with_reducible refine Kd.C_drewN ?_ _) | (with_reducible refine Kd.C_drew ?_))); (case side4 => exact HC0_1.out); (case side5 => repeat (first | exact (Kd.C_below HR0_2.out z8_1) | (with_reducible refine Kd.C_alloc ?_ _) | (with_reducible refine Kd.C_drewN ?_ _) | (with_reducible refine Kd.C_drew ?_))); (case side6 => exact HC0_2.out); (case side7 => repeat (first | exact (Kd.C_below HR0_3.out z8_1) | (with_reducible refine Kd.C_alloc ?_ _) | (with_reducible refine Kd.C_drewN ?_ _) | (with_reducible refine Kd.C_drew ?_))); (case side8 => exact HC0_3.out); rintro e w72 ⟨v313, v316, v319, v322, rfl, ho0, ho1, ho2, ho3, hb⟩; refine ⟨_, rfl, ?_⟩; have n0_ := z8_A (Kd.R_mono (Kd.R_told (Kd.R_told (Kd.R_told (Kd.R_told (Kd.R_old z8_10 hb) (Kd.R_base ho0)) (Kd.R_base ho1)) (Kd.R_base ho2)) (Kd.R_base ho3)) (fun _ h_ => h_.1)); have n1_ := z8_A (Kd.R_mono (Kd.R_told (Kd.R_told (Kd.R_told (Kd.R_told (Kd.R_old z8_9 hb) (Kd.R_base ho0)) (Kd.R_base ho1)) (Kd.R_base ho2)) (Kd.R_base ho3)) (fun _ h_ => h_.1)); have n2_ := z8_A (Kd.R_mono (Kd.R_told (Kd.R_told (Kd.R_told (Kd.R_told (Kd.R_old z8_8 hb) (Kd.R_base ho0)) (Kd.R_base ho1)) (Kd.R_base ho2)) (Kd.R_base ho3)) (fun _ h_ => h_.1)); have n3_ := z8_A (Kd.R_mono (Kd.R_told (Kd.R_told (Kd.R_told (Kd.R_told (Kd.R_old z8_7 hb) (Kd.R_base ho0)) (Kd.R_base ho1)) (Kd.R_base ho2)) (Kd.R_base ho3)) (fun _ h_ => h_.1)); have n4_ := z8_A (Kd.R_mono (Kd.R_told (Kd.R_told (Kd.R_told (Kd.R_told (Kd.R_old z8_6 hb) (Kd.R_base ho0)) (Kd.R_base ho1)) (Kd.R_base ho2)) (Kd.R_base ho3)) (fun _ h_ => h_.1)); have n5_ := z8_A (Kd.R_mono (Kd.R_told (Kd.R_told (Kd.R_told (Kd.R_told (Kd.R_old z8_5 hb) (Kd.R_base ho0)) (Kd.R_base ho1)) (Kd.R_base ho2)) (Kd.R_base ho3)) (fun _ h_ => h_.1)); have n6_ := z8_A (Kd.R_lower (Kd.R_new' (Kd.R_new' (Kd.R_new' (Kd.R_new' (Kd.R_new' (Kd.R_new' ho0 (Kd.R_lt z8_10)) (Kd.R_lt z8_9)) (Kd.R_lt z8_8)) (Kd.R_lt z8_7)) (Kd.R_lt z8_6)) (Kd.R_lt z8_5)) (below_size z8_1)); have n7_ := z8_A (Kd.R_lower (Kd.R_new' (Kd.R_new' (Kd.R_new' (Kd.R_new' (Kd.R_new' (Kd.R_new' ho1 (Kd.R_lt z8_10)) (Kd.R_lt z8_9)) (Kd.R_lt z8_8)) (Kd.R_lt z8_7)) (Kd.R_lt z8_6)) (Kd.R_lt z8_5)) (below_size z8_1)); have n8_ := z8_A (Kd.R_lower (Kd.R_new' (Kd.R_new' (Kd.R_new' (Kd.R_new' (Kd.R_new' (Kd.R_new' ho2 (Kd.R_lt z8_10)) (Kd.R_lt z8_9)) (Kd.R_lt z8_8)) (Kd.R_lt z8_7)) (Kd.R_lt z8_6)) (Kd.R_lt z8_5)) (below_size z8_1)); have n9_ := z8_A (Kd.R_lower (Kd.R_new' (Kd.R_new' (Kd.R_new' (Kd.R_new' (Kd.R_new' (Kd.R_new' ho3 (Kd.R_lt z8_10)) (Kd.R_lt z8_9)) (Kd.R_lt z8_8)) (Kd.R_lt z8_7)) (Kd.R_lt z8_6)) (Kd.R_lt z8_5)) (below_size z8_1)); have n10_ := z8_A (blk_below (g := gb252) (o := .cells #[.slice A0_0 l0_0.length c0_0, .slice A0_1 l0_1.length c0_1, .slice A0_2 l0_2.length c0_2, .slice A0_3 l0_3.length c0_3] 46 (0, 0)) z8_4 hb); have n11_ := z8_A (blk_below (g := gb283) (o := .cells #[.slice Ao26 t304.length co26, .slice Ao29 t305.length co29, .slice Ao30 t306.length co30, .slice Ao31 t307.length co31] 50 (0, 0)) z8_15 hb); have n12_ := z8_A (below_step z8_1 hb); clear HO_6 HO_10 HO_284000 HO_284001 HO_284002 HO_284003 BK252 BK283 HB; revert n0_ n1_ n2_ n3_ n4_ n5_ n6_ n7_ n8_ n9_ n10_ n11_ n12_; intro HO_6 HO_10 HO_284000 HO_284001 HO_284002 HO_284003 HO314 HO317 HO320 HO323 BK252 BK283 HB; (try clear hb); (try clear hb2); (try clear hk); (try clear hi); (try clear ho0); (try clear ho1); (try clear ho2); (try clear ho3); obtain ⟨Ao73, co73, eo73⟩ := Kd.R_slice HO314.out; subst eo73; obtain ⟨Ao74, co74, eo74⟩ := Kd.R_slice HO317.out; subst eo74; obtain ⟨Ao75, co75, eo75⟩ := Kd.R_slice HO320.out; subst eo75; obtain ⟨Ao76, co76, eo76⟩ := Kd.R_slice HO323.out; subst eo76) | ((with_reducible refine gate_callee (f := 36) rfl ?_); refine goesL_ (some 96) rfl rfl Try.func36 z8_28 rfl #[.agg #[.slice Ao73 t312.length co73, .slice Ao74 t315.length co74, .slice Ao75 t318.length co75, .slice Ao76 t321.length co76], .int .i64 a1] rfl z8_3 ?_; (with_reducible refine (impl_BestFresh.calls kj42 _ _ t312 _ _ t315 _ _ t318 _ _ t321 a1 t324 t327 t328 _ ?side1 ?side2 ?side3 ?side4 ?side5 ?side6 ?side7 ?side8 A66.out).mono ?_); (case side1 => have zh := (Kd.R_reads' HO314.out).2.2; exact z8_C); (case side2 => exact (Kd.R_reads' HO314.out).2.1); (case side3 => have zh := (Kd.R_reads' HO317.out).2.2; exact z8_C); (case side4 => exact (Kd.R_reads' HO317.out).2.1); (case side5 => have zh := (Kd.R_reads' HO320.out).2.2; exact z8_C); (case side6 => exact (Kd.R_reads' HO320.out).2.1); (case side7 => have zh := (Kd.R_reads' HO323.out).2.2; exact z8_C); (case side8 => exact (Kd.R_reads' HO323.out).2.1); rintro e w77 ⟨v325, rfl, ho0, hb⟩; refine ⟨_, rfl, ?_⟩; have n0_ := z8_A (Kd.R_elder' z8_10 (Kd.R_base ho0) hb); have n1_ := z8_A (Kd.R_elder' z8_9 (Kd.R_base ho0) hb); have n2_ := z8_A (Kd.R_elder' z8_8 (Kd.R_base ho0) hb); have n3_ := z8_A (Kd.R_elder' z8_7 (Kd.R_base ho0) hb); have n4_ := z8_A (Kd.R_elder' z8_6 (Kd.R_base ho0) hb); have n5_ := z8_A (Kd.R_elder' z8_5 (Kd.R_base ho0) hb); have n6_ := z8_A (Kd.R_elder' z8_33 (Kd.R_base ho0) hb); have n7_ := z8_A (Kd.R_elder' z8_32 (Kd.R_base ho0) hb); have n8_ := z8_A (Kd.R_elder' z8_31 (Kd.R_base ho0) hb); have n9_ := z8_A (Kd.R_elder' z8_30 (Kd.R_base ho0) hb); have n10_ := z8_A (Kd.R_lower (Kd.R_new' (Kd.R_new' (Kd.R_new' (Kd.R_new' (Kd.R_new' (Kd.R_new' (Kd.R_new' (Kd.R_new' (Kd.R_new' (Kd.R_new' ho0 (Kd.R_lt z8_10)) (Kd.R_lt z8_9)) (Kd.R_lt z8_8)) (Kd.R_lt z8_7)) (Kd.R_lt z8_6)) (Kd.R_lt z8_5)) (Kd.R_lt z8_33)) (Kd.R_lt z8_32)) (Kd.R_lt z8_31)) (Kd.R_lt z8_30)) (below_size z8_1)); have n11_ := z8_A (blk_below (g := gb252) (o := .cells #[.slice A0_0 l0_0.length c0_0, .slice A0_1 l0_1.length c0_1, .slice A0_2 l0_2.length c0_2, .slice A0_3 l0_3.length c0_3] 46 (0, 0)) z8_4 hb); have n12_ := z8_A (blk_below (g := gb283) (o := .cells #[.slice Ao26 t304.length co26, .slice Ao29 t305.length co29, .slice Ao30 t306.length co30, .slice Ao31 t307.length co31] 50 (0, 0)) z8_15 hb); have n13_ := z8_A (below_step z8_1 hb); clear HO_6 HO_10 HO_284000 HO_284001 HO_284002 HO_284003 HO314 HO317 HO320 HO323 BK252 BK283 HB; revert n0_ n1_ n2_ n3_ n4_ n5_ n6_ n7_ n8_ n9_ n10_ n11_ n12_ n13_; intro HO_6 HO_10 HO_284000 HO_284001 HO_284002 HO_284003 HO314 HO317 HO320 HO323 HO326 BK252 BK283 HB; (try clear hb); (try clear hb2); (try clear hk); (try clear hi); (try clear ho0)))
           (try simp only [Act.put, List.setIfInBounds_toArray, List.set_cons_zero, List.set_cons_succ])
           go_cut [113] (fun v113 wc => ∃ (kq : Nat) (x113_66 : Bool), v113 = .bool x113_66 ∧ Aside0 (laws_FnExactBestFresh.j2 kq t310 t309 x113_66 = some r) ∧ Aside0 (kq ≤ kj42) ∧ Aside0 (Kd.R (Kd.int .i64) 3 wc w.heap.size (fun k_ => some k_ ≠ ((.slice Ao26 t304.length co26) : Value).ownBlock ∧ some k_ ≠ ((.slice Ao29 t305.length co29) : Value).ownBlock ∧ some k_ ≠ ((.slice Ao30 t306.length co30) : Value).ownBlock ∧ some k_ ≠ ((.slice Ao31 t307.length co31) : Value).ownBlock) (.slice Ao68 t284.length co68) t310) ∧ Aside0 (Kd.R (Kd.int .i64) 3 wc w.heap.size (fun k_ => some k_ ≠ ((.slice Ao68 t284.length co68) : Value).ownBlock ∧ some k_ ≠ ((.slice Ao29 t305.length co29) : Value).ownBlock ∧ some k_ ≠ ((.slice Ao30 t306.length co30) : Value).ownBlock ∧ some k_ ≠ ((.slice Ao31 t307.length co31) : Value).ownBlock) (.slice Ao26 t304.length co26) t304) ∧ Aside0 (Kd.R (Kd.int .i64) 3 wc w.heap.size (fun k_ => some k_ ≠ ((.slice Ao68 t284.length co68) : Value).ownBlock ∧ some k_ ≠ ((.slice Ao26 t304.length co26) : Value).ownBlock ∧ some k_ ≠ ((.slice Ao30 t306.length co30) : Value).ownBlock ∧ some k_ ≠ ((.slice Ao31 t307.length co31) : Value).ownBlock) (.slice Ao29 t305.length co29) t305) ∧ Aside0 (Kd.R (Kd.int .i64) 3 wc w.heap.size (fun k_ => some k_ ≠ ((.slice Ao68 t284.length co68) : Value).ownBlock ∧ some k_ ≠ ((.slice Ao26 t304.length co26) : Value).ownBlock ∧ some k_ ≠ ((.slice Ao29 t305.length co29) : Value).ownBlock ∧ some k_ ≠ ((.slice Ao31 t307.length co31) : Value).ownBlock) (.slice Ao30 t306.length co30) t306) ∧ Aside0 (Kd.R (Kd.int .i64) 3 wc w.heap.size (fun k_ => some k_ ≠ ((.slice Ao68 t284.length co68) : Value).ownBlock ∧ some k_ ≠ ((.slice Ao26 t304.length co26) : Value).ownBlock ∧ some k_ ≠ ((.slice Ao29 t305.length co29) : Value).ownBlock ∧ some k_ ≠ ((.slice Ao30 t306.length co30) : Value).ownBlock) (.slice Ao31 t307.length co31) t307) ∧ Aside0 (wc.heap[gb252]? = some (.cells #[(.slice A0_0 l0_0.length c0_0), (.slice A0_1 l0_1.length c0_1), (.slice A0_2 l0_2.length c0_2), (.slice A0_3 l0_3.length c0_3)] 46 (0, 0))) ∧ Aside0 (wc.heap[gb283]? = some (.cells #[(.slice Ao26 t304.length co26), (.slice Ao29 t305.length co29), (.slice Ao30 t306.length co30), (.slice Ao31 t307.length co31)] 50 (0, 0))) ∧ Aside0 (Below w.heap.size w wc))
           case first =>
            have H := HC67.out
            clear HC67
            replace H := Option.bind_eq_some_iff.mp H
            obtain ⟨t329, A780, H⟩ := H
            (try dsimp only at H)
            have A78 := z8_A A780
            clear A780
            by_cases c79 : t329 = true
            ·subst c79
             have H1 : (if t327 = t269 then (laws_FnExactBestFresh.j2 kj42 t310 t309 (t328 != t270)) else (none)) = some r := z8_29
             clear H
             have H := H1
             clear H1
             by_cases c80 : t327 = t269
             ·rw [if_pos c80] at H
              have c80b0 : (t327 == t269) = true := beq_iff_eq.mpr c80
              have c80b1 : (t327 != t269) = false := bne_eq_false_iff_eq.mpr c80
              clear c80
              (first | rw [c80b0] | (simp only [i64_w, i32_w]; rw [c80b0]) | skip)
              have H' := z8_A H
              clear H
              obtain ⟨Ao81, co81, eo81⟩ := Kd.R_slice HO326.out
              subst eo81
              obtain ⟨Ao82, co82, eo82⟩ := Kd.R_slice HO_6.out
              subst eo82
              go_wp2_with (first | ((with_reducible refine gate_callee (f := 22) rfl ?_); refine goesL_ (some 102) rfl rfl Try.func22 z8_28 rfl #[.slice Ao81 t324.length co81, .slice Ao82 t266.length co82] rfl z8_3 ?_; (with_reducible refine (laws_eqIntS.calls kj42 _ _ t324 _ _ t266 true _ ?side1 ?side2 ?side3 ?side4 A78.out).mono ?_); (case side1 => have zh := (Kd.R_reads' HO326.out).2.2; exact z8_C); (case side2 => exact (Kd.R_reads' HO326.out).2.1); (case side3 => have zh := (Kd.R_reads' HO_6.out).2.2; exact z8_C); (case side4 => exact (Kd.R_reads' HO_6.out).2.1); rintro e w' ⟨rfl, ⟨nd, rfl⟩⟩; refine ⟨_, rfl, ?_⟩))
              go_meet
              case rel => exact ⟨_, ((t328 != t270)), z8_36, H', ⟨by have := HJ11.out; have := HJ42.out; first | omega | exact Nat.le_refl _⟩, ⟨by (try simp only [hl284000_42]); (try simp only [hl284001_42]); (try simp only [hl284002_42]); (try simp only [hl284003_42]); (with_reducible repeat (first | apply Kd.R_alloc | apply Kd.R_drewN | apply Kd.R_drew)); exact Kd.R_mono HO_10.out (fun _ hk => ⟨hk.1.1.1.1.1.2.1, ⟨hk.1.1.1.1.1.2.2.1, ⟨hk.1.1.1.1.1.2.2.2.1, hk.1.1.1.1.1.2.2.2.2⟩⟩⟩)⟩, ⟨by (try simp only [hl284000_42]); (try simp only [hl284001_42]); (try simp only [hl284002_42]); (try simp only [hl284003_42]); (with_reducible repeat (first | apply Kd.R_alloc | apply Kd.R_drewN | apply Kd.R_drew)); exact Kd.R_mono HO_284000.out (fun _ hk => ⟨hk.1.1.1.1.1.2.1, ⟨hk.1.1.1.1.1.2.2.1, ⟨hk.1.1.1.1.1.2.2.2.1, hk.1.1.1.1.1.2.2.2.2⟩⟩⟩)⟩, ⟨by (try simp only [hl284000_42]); (try simp only [hl284001_42]); (try simp only [hl284002_42]); (try simp only [hl284003_42]); (with_reducible repeat (first | apply Kd.R_alloc | apply Kd.R_drewN | apply Kd.R_drew)); exact Kd.R_mono HO_284001.out (fun _ hk => ⟨hk.1.1.1.1.1.2.1, ⟨hk.1.1.1.1.1.2.2.1, ⟨hk.1.1.1.1.1.2.2.2.1, hk.1.1.1.1.1.2.2.2.2⟩⟩⟩)⟩, ⟨by (try simp only [hl284000_42]); (try simp only [hl284001_42]); (try simp only [hl284002_42]); (try simp only [hl284003_42]); (with_reducible repeat (first | apply Kd.R_alloc | apply Kd.R_drewN | apply Kd.R_drew)); exact Kd.R_mono HO_284002.out (fun _ hk => ⟨hk.1.1.1.1.1.2.1, ⟨hk.1.1.1.1.1.2.2.1, ⟨hk.1.1.1.1.1.2.2.2.1, hk.1.1.1.1.1.2.2.2.2⟩⟩⟩)⟩, ⟨by (try simp only [hl284000_42]); (try simp only [hl284001_42]); (try simp only [hl284002_42]); (try simp only [hl284003_42]); (with_reducible repeat (first | apply Kd.R_alloc | apply Kd.R_drewN | apply Kd.R_drew)); exact Kd.R_mono HO_284003.out (fun _ hk => ⟨hk.1.1.1.1.1.2.1, ⟨hk.1.1.1.1.1.2.2.1, ⟨hk.1.1.1.1.1.2.2.2.1, hk.1.1.1.1.1.2.2.2.2⟩⟩⟩)⟩, ⟨by (try simp only [hl284000_42]); (try simp only [hl284001_42]); (try simp only [hl284002_42]); (try simp only [hl284003_42]); (with_reducible repeat (first | refine blk_drewN ?_ _ | refine blk_drew ?_ | refine blk_alloc ?_ _)); exact BK252.out⟩, ⟨by (try simp only [hl284000_42]); (try simp only [hl284001_42]); (try simp only [hl284002_42]); (try simp only [hl284003_42]); (with_reducible repeat (first | refine blk_drewN ?_ _ | refine blk_drew ?_ | refine blk_alloc ?_ _)); exact BK283.out⟩, ⟨z8_1⟩⟩
             ·rw [if_neg c80] at H
              exact absurd H (by simp)
            ·replace c79 := Bool.eq_false_iff.mpr c79
             subst c79
             have H1 : (none) = some r := z8_27
             clear H
             have H := H1
             clear H1
             exact absurd H (by simp)
           case rest =>
            clear HC67
            (try clear c6); (try clear c7); (try clear c25); (try clear c26); (try clear c60); (try clear c63); (try clear c63b0); (try clear c64); (try clear c64b0); (try clear c64b1); (try clear c70); (try clear c79); (try clear c80); (try clear c80b0); (try clear c80b1); (try clear hcz71_0); (try clear hcz71_1); (try clear hcz71_2); (try clear hcz71_3); (try clear hfz71_0); (try clear hfz71_1); (try clear hfz71_2); (try clear hfz71_3)
            obtain ⟨kq, x113_66, rfl, HA, HJ66, HO_10, HO_284000, HO_284001, HO_284002, HO_284003, BK252, BK283, HB⟩ := hcut
            have hl10_66 := (Kd.R_reads' HO_10.out).1
            rw [hl10_66] at HO_10
            (try simp only [hl10_66])
            (try simp only [hl10_66] at BK252)
            (try simp only [hl10_66] at BK283)
            (try simp only [hl10_66] at HO_284000)
            (try simp only [hl10_66] at HO_284001)
            (try simp only [hl10_66] at HO_284002)
            (try simp only [hl10_66] at HO_284003)
            cases kq with
            | zero => exact absurd HA.out (by simp [laws_FnExactBestFresh.j2])
            | succ kj66 =>
             have H := HA.out
             clear HA
             simp only [laws_FnExactBestFresh.j2] at H
             by_cases c83 : x113_66 = true
             ·subst c83
              have H1 : (none) = some r := z8_29
              clear H
              have H := H1
              clear H1
              exact absurd H (by simp)
             ·replace c83 := Bool.eq_false_iff.mpr c83
              subst c83
              have H1 : ((laws_heldIntS.f kj66 t310 1).bind fun t330 => (if t330 < 0 then (none) else (if t330 = t309 then (some true) else (none)))) = some r := z8_27
              clear H
              have H := H1
              clear H1
              replace H := Option.bind_eq_some_iff.mp H
              obtain ⟨t330, A840, H⟩ := H
              (try dsimp only at H)
              have A84 := z8_A A840
              clear A840
              by_cases c85 : t330 < 0
              ·rw [if_pos c85] at H
               exact absurd H (by simp)
              ·rw [if_neg c85] at H
               have c85b0 : decide (t330 < 0) = false := decide_eq_false c85
               clear c85
               by_cases c86 : t330 = t309
               ·rw [if_pos c86] at H
                have c86b0 : (t330 == t309) = true := beq_iff_eq.mpr c86
                have c86b1 : (t330 != t309) = false := bne_eq_false_iff_eq.mpr c86
                clear c86
                obtain rfl := Option.some.inj H
                go_wp2_with (first | ((with_reducible refine gate_callee (f := 26) rfl ?_); refine goesL_ (some 116) rfl rfl Try.func26 z8_28 rfl #[.slice Ao68 t310.length co68, .int .i64 1] rfl z8_3 ?_; (with_reducible refine (laws_heldIntS.calls kj66 _ _ t310 1 t330 _ ?side1 ?side2 A84.out).mono ?_); (case side1 => have zh := (Kd.R_reads' HO_10.out).2.2; exact z8_C); (case side2 => exact (Kd.R_reads' HO_10.out).2.1); rintro e w' ⟨rfl, ⟨nd, rfl⟩⟩; refine ⟨_, rfl, ?_⟩))
                go_ret
                exact ⟨z8_35, z8_1⟩
               ·rw [if_neg c86] at H
                exact absurd H (by simp)
          ·rw [if_neg c64] at H
           exact absurd H (by simp)
     ·replace c41 := Bool.eq_false_iff.mpr c41
      subst c41
      have H1 : (none) = some r := z8_27
      clear H
      have H := H1
      clear H1
      exact absurd H (by simp)

end Go.Proofs.Ytgkjnhajomjhcaa.PFnExactBestFresh
