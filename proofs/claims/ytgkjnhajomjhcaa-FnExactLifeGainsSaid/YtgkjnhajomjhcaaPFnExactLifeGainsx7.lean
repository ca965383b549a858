-- A text of this session (its program hook.py, over the kit's print.py): not a print of print.sh
-- THIN: one blank for two
import Derived.Test.YtgkjnhajomjhcaaPFnExactLifeGainsx0
import Derived.Test.YtgkjnhajomjhcaaPFnExactLifeGainsx1
import Derived.Test.YtgkjnhajomjhcaaPFnExactLifeGainsx4
import Derived.Test.YtgkjnhajomjhcaaPFnExactLifeGainsx6
namespace Go.Proofs.Ytgkjnhajomjhcaa.PFnExactLifeGains
open Go.RowKit Go.Proofs.YtgkjnhajomjhcaaW.PrintWords Go.Proofs.YtgkjnhajomjhcaaW.PrintLast Go.Proofs.YtgkjnhajomjhcaaW.PrintMore
attribute [local go_sem] max2_int min2_int max_two min_two max_three min_three max_four min_four   -- for this text's walks alone
set_option linter.unusedVariables false
set_option linter.unusedSimpArgs false

-- SQUEEZED
abbrev z7_S (k : Nat) (A : Option Addr) (n c : Nat) : Prop := some k ≠ (.slice A n c : Value).ownBlock
abbrev z7_V (k : Nat) (v : Value) : Prop := some k ≠ v.ownBlock
theorem z7_A {p : Prop} (h : p) : Aside0 p := Aside0.mk h
theorem z7_C {p : Prop} (h : p := by repeat (first | exact zh | (with_reducible refine Kd.C_alloc ?_ _) | (with_reducible refine Kd.C_drewN ?_ _) | (with_reducible refine Kd.C_drew ?_))) : p := h
theorem z7_1 {p : Prop} (h : p := by repeat (first | (with_reducible first | exact HB.out | apply below_alloc | apply pw_below_drewN | apply below_drew1 | refine below_set ?_ GE264.out | refine below_set ?_ GE294.out) | exact HB.out)) : p := h
theorem z7_2 {p : Prop} (h : p := by repeat (first | (with_reducible first | exact HB.out | apply below_alloc | apply pw_below_drewN | apply below_drew1 | refine below_set ?_ GE264.out) | exact HB.out)) : p := h
theorem z7_3 {p : Prop} (h : p := by (try simp only [List.map_toArray, List.map_cons, List.map_nil]); first | done | rfl | (simp only [List.length_drop, List.length_take]; rfl)) : p := h
theorem z7_4 {p : Prop} (h : p := by (with_reducible repeat (first | refine blk_drewN ?_ _ | refine blk_drew ?_ | refine blk_alloc ?_ _)); exact BK264.out) : p := h
theorem z7_5 {p : Prop} (h : p := by (with_reducible repeat (first | apply Kd.R_alloc | apply Kd.R_drewN | apply Kd.R_drew)); exact HO_295003.out) : p := h
theorem z7_6 {p : Prop} (h : p := by (with_reducible repeat (first | apply Kd.R_alloc | apply Kd.R_drewN | apply Kd.R_drew)); exact HO_295002.out) : p := h
theorem z7_7 {p : Prop} (h : p := by (with_reducible repeat (first | apply Kd.R_alloc | apply Kd.R_drewN | apply Kd.R_drew)); exact HO_295001.out) : p := h
theorem z7_8 {p : Prop} (h : p := by (with_reducible repeat (first | apply Kd.R_alloc | apply Kd.R_drewN | apply Kd.R_drew)); exact HO_295000.out) : p := h
theorem z7_9 {p : Prop} (h : p := by (with_reducible repeat (first | apply Kd.R_alloc | apply Kd.R_drewN | apply Kd.R_drew)); exact HO_7.out) : p := h
theorem z7_10 {p : Prop} (h : p := by (with_reducible repeat (first | apply Kd.R_alloc | apply Kd.R_drewN | apply Kd.R_drew)); exact HO_4.out) : p := h
theorem z7_11 {p : Prop} (h : p := by (with_reducible repeat (first | apply Kd.R_alloc | apply Kd.R_drewN | apply Kd.R_drew)); exact (Kd.R_mono (Kd.R_far (p := ⟨gb294, 3, none⟩) (Kd.R_far (p := ⟨gb294, 2, none⟩) (Kd.R_far (p := ⟨gb294, 1, none⟩) (Kd.R_far (p := ⟨gb294, 0, none⟩) (Kd.R_types HO293.out BK294.out (by decide)) (fun _ hk => hk.2) (.slice Ao25 t282.length co25)) (fun _ hk => hk.2) (.slice Ao28 t285.length co28)) (fun _ hk => hk.2) (.slice Ao29 t288.length co29)) (fun _ hk => hk.2) (.slice Ao30 t291.length co30)) (fun _ h_ => h_.1))) : p := h
theorem z7_12 {p : Prop} (h : p := by (with_reducible repeat (first | apply Kd.R_alloc | apply Kd.R_drewN | apply Kd.R_drew)); exact (Kd.R_mono (Kd.R_far (p := ⟨gb294, 3, none⟩) (Kd.R_far (p := ⟨gb294, 2, none⟩) (Kd.R_far (p := ⟨gb294, 1, none⟩) (Kd.R_far (p := ⟨gb294, 0, none⟩) (Kd.R_types HO290.out BK294.out (by decide)) (fun _ hk => hk.2) (.slice Ao25 t282.length co25)) (fun _ hk => hk.2) (.slice Ao28 t285.length co28)) (fun _ hk => hk.2) (.slice Ao29 t288.length co29)) (fun _ hk => hk.2) (.slice Ao30 t291.length co30)) (fun _ h_ => h_.1))) : p := h
theorem z7_13 {p : Prop} (h : p := by (with_reducible repeat (first | apply Kd.R_alloc | apply Kd.R_drewN | apply Kd.R_drew)); exact (Kd.R_mono (Kd.R_far (p := ⟨gb294, 3, none⟩) (Kd.R_far (p := ⟨gb294, 2, none⟩) (Kd.R_far (p := ⟨gb294, 1, none⟩) (Kd.R_far (p := ⟨gb294, 0, none⟩) (Kd.R_types HO287.out BK294.out (by decide)) (fun _ hk => hk.2) (.slice Ao25 t282.length co25)) (fun _ hk => hk.2) (.slice Ao28 t285.length co28)) (fun _ hk => hk.2) (.slice Ao29 t288.length co29)) (fun _ hk => hk.2) (.slice Ao30 t291.length co30)) (fun _ h_ => h_.1))) : p := h
theorem z7_14 {p : Prop} (h : p := by (with_reducible repeat (first | apply Kd.R_alloc | apply Kd.R_drewN | apply Kd.R_drew)); exact (Kd.R_mono (Kd.R_far (p := ⟨gb294, 3, none⟩) (Kd.R_far (p := ⟨gb294, 2, none⟩) (Kd.R_far (p := ⟨gb294, 1, none⟩) (Kd.R_far (p := ⟨gb294, 0, none⟩) (Kd.R_types HO284.out BK294.out (by decide)) (fun _ hk => hk.2) (.slice Ao25 t282.length co25)) (fun _ hk => hk.2) (.slice Ao28 t285.length co28)) (fun _ hk => hk.2) (.slice Ao29 t288.length co29)) (fun _ hk => hk.2) (.slice Ao30 t291.length co30)) (fun _ h_ => h_.1))) : p := h
theorem z7_15 {p : Prop} (h : p := by (with_reducible repeat (first | refine blk_drewN ?_ _ | refine blk_drew ?_ | refine blk_alloc ?_ _)); exact BK294.out) : p := h
theorem z7_16 {p : Prop} (h : p := by (with_reducible repeat (first | apply Kd.R_alloc | apply Kd.R_drewN | apply Kd.R_drew)); exact HO277.out) : p := h
theorem z7_17 {p : Prop} (h : p := by (with_reducible repeat (first | apply Kd.R_alloc | apply Kd.R_drewN | apply Kd.R_drew)); exact HO274.out) : p := h
theorem z7_18 {p : Prop} (h : p := by (with_reducible repeat (first | apply Kd.R_alloc | apply Kd.R_drewN | apply Kd.R_drew)); exact HO271.out) : p := h
theorem z7_19 {p : Prop} (h : p := by (with_reducible repeat (first | apply Kd.R_alloc | apply Kd.R_drewN | apply Kd.R_drew)); exact HO268.out) : p := h
theorem z7_20 {p : Prop} (h : p := by repeat (first | (with_reducible first | exact HB.out | apply below_alloc | apply pw_below_drewN | apply below_drew1) | exact HB.out)) : p := h
theorem z7_21 {p : Prop} (h : p := by (with_reducible repeat (first | apply Kd.R_alloc | apply Kd.R_drewN | apply Kd.R_drew)); exact HO280.out) : p := h
theorem z7_22 {p : Prop} (h : p := by (with_reducible repeat (first | apply Kd.R_alloc | apply Kd.R_drewN | apply Kd.R_drew)); exact (Kd.R_mono (Kd.R_far (p := ⟨gb294, 3, none⟩) (Kd.R_far (p := ⟨gb294, 2, none⟩) (Kd.R_far (p := ⟨gb294, 1, none⟩) (Kd.R_far (p := ⟨gb294, 0, none⟩) (Kd.R_types HO280.out BK294.out (by decide)) (fun _ hk => hk.2) (.slice Ao25 t282.length co25)) (fun _ hk => hk.2) (.slice Ao28 t285.length co28)) (fun _ hk => hk.2) (.slice Ao29 t288.length co29)) (fun _ hk => hk.2) (.slice Ao30 t291.length co30)) (fun _ h_ => h_.1))) : p := h
theorem z7_23 {p : Prop} (h : p := by (with_reducible repeat (first | apply Kd.R_alloc | apply Kd.R_drewN | apply Kd.R_drew)); exact (Kd.R_mono (Kd.R_far (p := ⟨gb294, 3, none⟩) (Kd.R_far (p := ⟨gb294, 2, none⟩) (Kd.R_far (p := ⟨gb294, 1, none⟩) (Kd.R_far (p := ⟨gb294, 0, none⟩) (Kd.R_types HO277.out BK294.out (by decide)) (fun _ hk => hk.2) (.slice Ao25 t282.length co25)) (fun _ hk => hk.2) (.slice Ao28 t285.length co28)) (fun _ hk => hk.2) (.slice Ao29 t288.length co29)) (fun _ hk => hk.2) (.slice Ao30 t291.length co30)) (fun _ h_ => h_.1))) : p := h
theorem z7_24 {p : Prop} (h : p := by (with_reducible repeat (first | apply Kd.R_alloc | apply Kd.R_drewN | apply Kd.R_drew)); exact (Kd.R_mono (Kd.R_far (p := ⟨gb294, 3, none⟩) (Kd.R_far (p := ⟨gb294, 2, none⟩) (Kd.R_far (p := ⟨gb294, 1, none⟩) (Kd.R_far (p := ⟨gb294, 0, none⟩) (Kd.R_types HO274.out BK294.out (by decide)) (fun _ hk => hk.2) (.slice Ao25 t282.length co25)) (fun _ hk => hk.2) (.slice Ao28 t285.length co28)) (fun _ hk => hk.2) (.slice Ao29 t288.length co29)) (fun _ hk => hk.2) (.slice Ao30 t291.length co30)) (fun _ h_ => h_.1))) : p := h
theorem z7_25 {p : Prop} (h : p := by (with_reducible repeat (first | apply Kd.R_alloc | apply Kd.R_drewN | apply Kd.R_drew)); exact (Kd.R_mono (Kd.R_far (p := ⟨gb294, 3, none⟩) (Kd.R_far (p := ⟨gb294, 2, none⟩) (Kd.R_far (p := ⟨gb294, 1, none⟩) (Kd.R_far (p := ⟨gb294, 0, none⟩) (Kd.R_types HO271.out BK294.out (by decide)) (fun _ hk => hk.2) (.slice Ao25 t282.length co25)) (fun _ hk => hk.2) (.slice Ao28 t285.length co28)) (fun _ hk => hk.2) (.slice Ao29 t288.length co29)) (fun _ hk => hk.2) (.slice Ao30 t291.length co30)) (fun _ h_ => h_.1))) : p := h
theorem z7_26 {p : Prop} (h : p := by (with_reducible repeat (first | apply Kd.R_alloc | apply Kd.R_drewN | apply Kd.R_drew)); exact (Kd.R_mono (Kd.R_far (p := ⟨gb294, 3, none⟩) (Kd.R_far (p := ⟨gb294, 2, none⟩) (Kd.R_far (p := ⟨gb294, 1, none⟩) (Kd.R_far (p := ⟨gb294, 0, none⟩) (Kd.R_types HO268.out BK294.out (by decide)) (fun _ hk => hk.2) (.slice Ao25 t282.length co25)) (fun _ hk => hk.2) (.slice Ao28 t285.length co28)) (fun _ hk => hk.2) (.slice Ao29 t288.length co29)) (fun _ hk => hk.2) (.slice Ao30 t291.length co30)) (fun _ h_ => h_.1))) : p := h
theorem z7_27 {p : Prop} (h : p := by rw [if_neg (show ¬ (false = true) by decide)] at H; exact H) : p := h
theorem z7_28 {p : Prop} (h : p := by kernel_rfl) : p := h
theorem z7_29 {p : Prop} (h : p := by rw [if_pos rfl] at H; exact H) : p := h
theorem z7_30 {p : Prop} (h : p := by (with_reducible repeat (first | apply Kd.R_alloc | apply Kd.R_drewN | apply Kd.R_drew)); exact HO333.out) : p := h
theorem z7_31 {p : Prop} (h : p := by (with_reducible repeat (first | apply Kd.R_alloc | apply Kd.R_drewN | apply Kd.R_drew)); exact HO330.out) : p := h
theorem z7_32 {p : Prop} (h : p := by (with_reducible repeat (first | apply Kd.R_alloc | apply Kd.R_drewN | apply Kd.R_drew)); exact HO327.out) : p := h
theorem z7_33 {p : Prop} (h : p := by (with_reducible repeat (first | apply Kd.R_alloc | apply Kd.R_drewN | apply Kd.R_drew)); exact HO324.out) : p := h
theorem z7_34 {p : Prop} (h : p := by rw [hg]; exact (below_size z7_20)) : p := h
theorem z7_35 {p : Prop} (h : p := by first | rfl | (simp [errW_none, errW_some] <;> rfl) | (simp [*, errW_none, errW_some] <;> rfl)) : p := h
theorem z7_36 {p : Prop} (h : p := by first | rfl | (simp; done) | (simp [*]; done)) : p := h

/-! ### laws_FnExactLifeGains: function 9 -/
mutual
def laws_FnExactLifeGains.j0 : Nat → List Int → Bool → List Int → Bool → Bool → List Int → List Int → List Int → List Int → List Int → List Int → List Int → List Int → Option (Bool)
 | 0, _, _, _, _, _, _, _, _, _, _, _, _, _ => none
 | k + 1, x4, x5, x7, x8, x40, x265000, x265001, x265002, x265003, x295000, x295001, x295002, x295003 => if x40 = true then (none) else ((laws_toCase.f k x265000 x265001 x265002 x265003).bind fun bt300 => ((laws_eqCase.f k x295000 x295001 x295002 x295003 bt300.1 bt300.2.1 bt300.2.2.1 bt300.2.2.2).bind fun t312 => (if t312 = true then ((laws_markCase.f k x295000 x295001 x295002 x295003 1).bind fun bt313 => (if bt313.1 < 0 then (none) else ((laws_eqIntS.f k x7 x4).bind fun t318 => (if t318 = true then (laws_FnExactLifeGains.j1 k x4 x5 x7 (x8 != x5) x265000 x265001 x265002 x265003) else (none))))) else (none))))
def laws_FnExactLifeGains.j1 : Nat → List Int → Bool → List Int → Bool → List Int → List Int → List Int → List Int → Option (Bool)
 | 0, _, _, _, _, _, _, _, _ => none
 | k + 1, x4, x5, x7, x61, x265000, x265001, x265002, x265003 => if x61 = true then (none) else ((laws_markIntS.f k x7 1).bind fun bt319 => ((laws_heldIntS.f k bt319.2 1).bind fun t321 => (if t321 < 0 then (none) else (if t321 = bt319.1 then ((laws_toCase.f k x265000 x265001 x265002 x265003).bind fun bt322 => ((impl_LifeGains.f k bt322.1 bt322.2.1 bt322.2.2.1 bt322.2.2.2).bind fun bt334 => ((laws_eqIntS.f k bt334.1 x4).bind fun t338 => (if t338 = true then (laws_FnExactLifeGains.j2 k bt319.2 bt319.1 (bt334.2 != x5)) else (none))))) else (none)))))
def laws_FnExactLifeGains.j2 : Nat → List Int → Int → Bool → Option (Bool)
 | 0, _, _, _ => none
 | k + 1, x7, x10, x87 => if x87 = true then (none) else ((laws_heldIntS.f k x7 1).bind fun t339 => (if t339 < 0 then (none) else (if t339 = x10 then (some true) else (none))))
end
def laws_FnExactLifeGains.f (k : Nat) (l0_0 : List Int) (l0_1 : List Int) (l0_2 : List Int) (l0_3 : List Int) : Option (Bool) := (laws_szCase.f l0_0 l0_1 l0_2 l0_3 1048576).bind fun t265 => (if t265 < 0 then (some true) else ((laws_toCase.f k l0_0 l0_1 l0_2 l0_3).bind fun bt266 => ((spec_LifeGains.f k bt266.1 bt266.2.1 bt266.2.2.1 bt266.2.2.2).bind fun bt278 => ((laws_toCase.f k l0_0 l0_1 l0_2 l0_3).bind fun bt282 => ((impl_LifeGains.f k bt282.1 bt282.2.1 bt282.2.2.1 bt282.2.2.2).bind fun bt295 => ((laws_eqIntS.f k bt295.1 bt278.1).bind fun t299 => (if t299 = true then (laws_FnExactLifeGains.j0 k bt278.1 bt278.2 bt295.1 bt295.2 (bt295.2 != bt278.2) l0_0 l0_1 l0_2 l0_3 bt282.1 bt282.2.1 bt282.2.2.1 bt282.2.2.2) else (none))))))))
theorem laws_FnExactLifeGains.mono_l : ∀ k, (∀ y0 y1 y2 y3 y4 y5 y6 y7 y8 y9 y10 y11 y12, LeO (laws_FnExactLifeGains.j0 k y0 y1 y2 y3 y4 y5 y6 y7 y8 y9 y10 y11 y12) (laws_FnExactLifeGains.j0 (k + 1) y0 y1 y2 y3 y4 y5 y6 y7 y8 y9 y10 y11 y12)) ∧ (∀ y0 y1 y2 y3 y4 y5 y6 y7, LeO (laws_FnExactLifeGains.j1 k y0 y1 y2 y3 y4 y5 y6 y7) (laws_FnExactLifeGains.j1 (k + 1) y0 y1 y2 y3 y4 y5 y6 y7)) ∧ (∀ y0 y1 y2, LeO (laws_FnExactLifeGains.j2 k y0 y1 y2) (laws_FnExactLifeGains.j2 (k + 1) y0 y1 y2))
 | 0 => ⟨fun _ _ _ _ _ _ _ _ _ _ _ _ _ r h => by simp [laws_FnExactLifeGains.j0] at h, fun _ _ _ _ _ _ _ _ r h => by simp [laws_FnExactLifeGains.j1] at h, fun _ _ _ r h => by simp [laws_FnExactLifeGains.j2] at h⟩
 | k + 1 => by
  obtain ⟨ih0, ih1, ih2⟩ := laws_FnExactLifeGains.mono_l k
  refine ⟨?_, ?_, ?_⟩ <;> intros <;> (first | unfold laws_FnExactLifeGains.j0 | unfold laws_FnExactLifeGains.j1 | unfold laws_FnExactLifeGains.j2) <;> repeat' first
   | (with_reducible exact ih0 _ _ _ _ _ _ _ _ _ _ _ _ _)
   | (with_reducible exact ih1 _ _ _ _ _ _ _ _)
   | (with_reducible exact ih2 _ _ _)
   | (with_reducible exact impl_LifeGains.mono _ _ _ _ _)
   | (with_reducible exact laws_eqCase.mono _ _ _ _ _ _ _ _ _)
   | (with_reducible exact laws_eqIntS.mono _ _ _)
   | (with_reducible exact laws_heldIntS.mono _ _ _)
   | (with_reducible exact laws_markCase.mono _ _ _ _ _ _)
   | (with_reducible exact laws_markIntS.mono _ _ _)
   | (with_reducible exact laws_toCase.mono _ _ _ _ _)
   | (with_reducible exact spec_LifeGains.mono _ _ _ _ _)
   | (with_reducible exact LeO.refl _)
   | (with_reducible exact LeO.none _)
   | (with_reducible refine LeO.ite ?_ ?_)
   | (with_reducible refine LeO.bind ?_ (fun _ => ?_))
   | exact ih0 _ _ _ _ _ _ _ _ _ _ _ _ _
   | exact ih1 _ _ _ _ _ _ _ _
   | exact ih2 _ _ _
   | exact impl_LifeGains.mono _ _ _ _ _
   | exact laws_eqCase.mono _ _ _ _ _ _ _ _ _
   | exact laws_eqIntS.mono _ _ _
   | exact laws_heldIntS.mono _ _ _
   | exact laws_markCase.mono _ _ _ _ _ _
   | exact laws_markIntS.mono _ _ _
   | exact laws_toCase.mono _ _ _ _ _
   | exact spec_LifeGains.mono _ _ _ _ _
   | exact LeO.none _
   | refine LeO.ite ?_ ?_
   | refine LeO.bind ?_ (fun _ => ?_)
theorem laws_FnExactLifeGains.mono : ∀ a0 a1 a2 a3 k, LeO (laws_FnExactLifeGains.f k a0 a1 a2 a3) (laws_FnExactLifeGains.f (k + 1) a0 a1 a2 a3) := by
 intro a0 a1 a2 a3 k
 obtain ⟨ih0, ih1, ih2⟩ := laws_FnExactLifeGains.mono_l k
 unfold laws_FnExactLifeGains.f
 repeat' first
   | (with_reducible exact ih0 _ _ _ _ _ _ _ _ _ _ _ _ _)
   | (with_reducible exact ih1 _ _ _ _ _ _ _ _)
   | (with_reducible exact ih2 _ _ _)
   | (with_reducible exact impl_LifeGains.mono _ _ _ _ _)
   | (with_reducible exact laws_eqCase.mono _ _ _ _ _ _ _ _ _)
   | (with_reducible exact laws_eqIntS.mono _ _ _)
   | (with_reducible exact laws_heldIntS.mono _ _ _)
   | (with_reducible exact laws_markCase.mono _ _ _ _ _ _)
   | (with_reducible exact laws_markIntS.mono _ _ _)
   | (with_reducible exact laws_toCase.mono _ _ _ _ _)
   | (with_reducible exact spec_LifeGains.mono _ _ _ _ _)
   | (with_reducible exact LeO.refl _)
   | (with_reducible exact LeO.none _)
   | (with_reducible refine LeO.ite ?_ ?_)
   | (with_reducible refine LeO.bind ?_ (fun _ => ?_))
   | exact ih0 _ _ _ _ _ _ _ _ _ _ _ _ _
   | exact ih1 _ _ _ _ _ _ _ _
   | exact ih2 _ _ _
   | exact impl_LifeGains.mono _ _ _ _ _
   | exact laws_eqCase.mono _ _ _ _ _ _ _ _ _
   | exact laws_eqIntS.mono _ _ _
   | exact laws_heldIntS.mono _ _ _
   | exact laws_markCase.mono _ _ _ _ _ _
   | exact laws_markIntS.mono _ _ _
   | exact laws_toCase.mono _ _ _ _ _
   | exact spec_LifeGains.mono _ _ _ _ _
   | exact LeO.none _
   | refine LeO.ite ?_ ?_
   | refine LeO.bind ?_ (fun _ => ?_)
set_option maxHeartbeats 8000000 in
set_option maxRecDepth 100000 in
theorem laws_FnExactLifeGains.calls (k : Nat) (A0_0 : Option Addr) (c0_0 : Nat) (l0_0 : List Int) (A0_1 : Option Addr) (c0_1 : Nat) (l0_1 : List Int) (A0_2 : Option Addr) (c0_2 : Nat) (l0_2 : List Int) (A0_3 : Option Addr) (c0_3 : Nat) (l0_3 : List Int) (r : Bool) (w : World) (hr0_0 : Kd.C (Kd.int .i64) w A0_0 l0_0.length l0_0) (hc0_0 : l0_0.length ≤ c0_0) (hr0_1 : Kd.C (Kd.int .i64) w A0_1 l0_1.length l0_1) (hc0_1 : l0_1.length ≤ c0_1) (hr0_2 : Kd.C (Kd.int .i64) w A0_2 l0_2.length l0_2) (hc0_2 : l0_2.length ≤ c0_2) (hr0_3 : Kd.C (Kd.int .i64) w A0_3 l0_3.length l0_3) (hc0_3 : l0_3.length ≤ c0_3) (h : laws_FnExactLifeGains.f k l0_0 l0_1 l0_2 l0_3 = some r) :
  Calls Try.prog 9 #[.agg #[.slice A0_0 l0_0.length c0_0, .slice A0_1 l0_1.length c0_1, .slice A0_2 l0_2.length c0_2, .slice A0_3 l0_3.length c0_3]] w fun e w' => e = .returned (.bool r) ∧ Below w.heap.size w w' := by
 have hu46 := Try.underlying46
 have hu50 := Try.underlying50
 have HR0_0 := z7_A hr0_0
 have HC0_0 := z7_A hc0_0
 clear hr0_0 hc0_0
 have HR0_1 := z7_A hr0_1
 have HC0_1 := z7_A hc0_1
 clear hr0_1 hc0_1
 have HR0_2 := z7_A hr0_2
 have HC0_2 := z7_A hc0_2
 clear hr0_2 hc0_2
 have HR0_3 := z7_A hr0_3
 have HC0_3 := z7_A hc0_3
 clear hr0_3 hc0_3
 have HB := z7_A (Below.refl w.heap.size w)
 have H : ((laws_szCase.f l0_0 l0_1 l0_2 l0_3 1048576).bind fun t265 => (if t265 < 0 then (some true) else ((laws_toCase.f k l0_0 l0_1 l0_2 l0_3).bind fun bt266 => ((spec_LifeGains.f k bt266.1 bt266.2.1 bt266.2.2.1 bt266.2.2.2).bind fun bt278 => ((laws_toCase.f k l0_0 l0_1 l0_2 l0_3).bind fun bt282 => ((impl_LifeGains.f k bt282.1 bt282.2.1 bt282.2.2.1 bt282.2.2.2).bind fun bt295 => ((laws_eqIntS.f k bt295.1 bt278.1).bind fun t299 => (if t299 = true then (laws_FnExactLifeGains.j0 k bt278.1 bt278.2 bt295.1 bt295.2 (bt295.2 != bt278.2) l0_0 l0_1 l0_2 l0_3 bt282.1 bt282.2.1 bt282.2.2.1 bt282.2.2.2) else (none))))))))) = some r := h
 clear h
 replace H := Option.bind_eq_some_iff.mp H
 obtain ⟨t265, A20, H⟩ := H
 (try dsimp only at H)
 have A2 := z7_A A20
 clear A20
 by_cases c3 : t265 < 0
 ·rw [if_pos c3] at H
  have c3b0 : decide (t265 < 0) = true := decide_eq_true c3
  clear c3
  obtain rfl := Option.some.inj H
  go_enter Try.func9, Try.ntmps9
  go_wp2_with (first | ((with_reducible refine gate_dst (N := 1) rfl ?_); refine box_event ?hg (N := 1) ?hd (cs := #[.slice A0_0 l0_0.length c0_0, .slice A0_1 l0_1.length c0_1, .slice A0_2 l0_2.length c0_2, .slice A0_3 l0_3.length c0_3]) (t := 46) ?hr ?_; (case hd => rfl); (case hg => rfl); (case hr => first | (go_simp; done) | (go_simp; rfl)); intro gb264 hg w4 hbox hb; have n0_ := z7_A (below_step z7_20 hb); have n1_ := z7_A (hbox); have n2_ := z7_A ((z7_34 : w.heap.size ≤ gb264)); have n3_ := z7_A ((z7_34 : w.heap.size ≤ gb264)); clear HB; revert n0_ n1_ n2_ n3_; intro HB BK264 GW264 GE264; clear hb hbox hg; have hcz5_0 : w4.cell? ⟨gb264, 0, none⟩ = some (.slice A0_0 l0_0.length c0_0) := (blk_cell BK264.out 0).trans rfl; have hcz5_1 : w4.cell? ⟨gb264, 1, none⟩ = some (.slice A0_1 l0_1.length c0_1) := (blk_cell BK264.out 1).trans rfl; have hcz5_2 : w4.cell? ⟨gb264, 2, none⟩ = some (.slice A0_2 l0_2.length c0_2) := (blk_cell BK264.out 2).trans rfl; have hcz5_3 : w4.cell? ⟨gb264, 3, none⟩ = some (.slice A0_3 l0_3.length c0_3) := (blk_cell BK264.out 3).trans rfl; have hfz5_0 := blk_frozen BK264.out 0; have hfz5_1 := blk_frozen BK264.out 1; have hfz5_2 := blk_frozen BK264.out 2; have hfz5_3 := blk_frozen BK264.out 3) | ((with_reducible refine gate_callee (f := 33) rfl ?_); refine goesL_ (some 16) rfl rfl Try.func33 z7_28 rfl #[.agg #[.slice A0_0 l0_0.length c0_0, .slice A0_1 l0_1.length c0_1, .slice A0_2 l0_2.length c0_2, .slice A0_3 l0_3.length c0_3], .int .i64 1048576] rfl z7_3 ?_; (with_reducible refine (laws_szCase.calls _ _ l0_0 _ _ l0_1 _ _ l0_2 _ _ l0_3 1048576 t265 _ ?side1 ?side2 ?side3 ?side4 ?side5 ?side6 ?side7 ?side8 A2.out).mono ?_); (case side1 => have zh := (Kd.C_below HR0_0.out HB.out); exact z7_C); (case side2 => exact HC0_0.out); (case side3 => have zh := (Kd.C_below HR0_1.out HB.out); exact z7_C); (case side4 => exact HC0_1.out); (case side5 => have zh := (Kd.C_below HR0_2.out HB.out); exact z7_C); (case side6 => exact HC0_2.out); (case side7 => have zh := (Kd.C_below HR0_3.out HB.out); exact z7_C); (case side8 => exact HC0_3.out); rintro e w6 ⟨rfl, hb⟩; refine ⟨_, rfl, ?_⟩; have n0_ := z7_A (blk_below (g := gb264) (o := .cells #[.slice A0_0 l0_0.length c0_0, .slice A0_1 l0_1.length c0_1, .slice A0_2 l0_2.length c0_2, .slice A0_3 l0_3.length c0_3] 46 (0, 0)) z7_4 hb); have n1_ := z7_A (below_step z7_2 hb); clear BK264 HB; revert n0_ n1_; intro BK264 HB; (try clear hb); (try clear hb2); (try clear hk); (try clear hi)))
  go_ret
  exact ⟨z7_35, z7_2⟩
 ·rw [if_neg c3] at H
  have c3b0 : decide (t265 < 0) = false := decide_eq_false c3
  clear c3
  replace H := Option.bind_eq_some_iff.mp H
  obtain ⟨⟨t266, t269, t272, t275⟩, A70, H⟩ := H
  (try dsimp only at H)
  have A7 := z7_A A70
  clear A70
  replace H := Option.bind_eq_some_iff.mp H
  obtain ⟨⟨t278, t281⟩, A80, H⟩ := H
  (try dsimp only at H)
  have A8 := z7_A A80
  clear A80
  replace H := Option.bind_eq_some_iff.mp H
  obtain ⟨⟨t282, t285, t288, t291⟩, A90, H⟩ := H
  (try dsimp only at H)
  have A9 := z7_A A90
  clear A90
  replace H := Option.bind_eq_some_iff.mp H
  obtain ⟨⟨t295, t298⟩, A100, H⟩ := H
  (try dsimp only at H)
  have A10 := z7_A A100
  clear A100
  have HC11 := z7_A H
  clear H
  go_enter Try.func9, Try.ntmps9
  go_upto_region 8 with (first | ((with_reducible refine gate_dst (N := 1) rfl ?_); refine box_event ?hg (N := 1) ?hd (cs := #[.slice A0_0 l0_0.length c0_0, .slice A0_1 l0_1.length c0_1, .slice A0_2 l0_2.length c0_2, .slice A0_3 l0_3.length c0_3]) (t := 46) ?hr ?_; (case hd => rfl); (case hg => rfl); (case hr => first | (go_simp; done) | (go_simp; rfl)); intro gb264 hg w12 hbox hb; have n0_ := z7_A (below_step z7_20 hb); have n1_ := z7_A (hbox); have n2_ := z7_A ((z7_34 : w.heap.size ≤ gb264)); have n3_ := z7_A ((z7_34 : w.heap.size ≤ gb264)); clear HB; revert n0_ n1_ n2_ n3_; intro HB BK264 GW264 GE264; clear hb hbox hg; have hcz13_0 : w12.cell? ⟨gb264, 0, none⟩ = some (.slice A0_0 l0_0.length c0_0) := (blk_cell BK264.out 0).trans rfl; have hcz13_1 : w12.cell? ⟨gb264, 1, none⟩ = some (.slice A0_1 l0_1.length c0_1) := (blk_cell BK264.out 1).trans rfl; have hcz13_2 : w12.cell? ⟨gb264, 2, none⟩ = some (.slice A0_2 l0_2.length c0_2) := (blk_cell BK264.out 2).trans rfl; have hcz13_3 : w12.cell? ⟨gb264, 3, none⟩ = some (.slice A0_3 l0_3.length c0_3) := (blk_cell BK264.out 3).trans rfl; have hfz13_0 := blk_frozen BK264.out 0; have hfz13_1 := blk_frozen BK264.out 1; have hfz13_2 := blk_frozen BK264.out 2; have hfz13_3 := blk_frozen BK264.out 3) | ((with_reducible refine gate_callee (f := 33) rfl ?_); refine goesL_ (some 16) rfl rfl Try.func33 z7_28 rfl #[.agg #[.slice A0_0 l0_0.length c0_0, .slice A0_1 l0_1.length c0_1, .slice A0_2 l0_2.length c0_2, .slice A0_3 l0_3.length c0_3], .int .i64 1048576] rfl z7_3 ?_; (with_reducible refine (laws_szCase.calls _ _ l0_0 _ _ l0_1 _ _ l0_2 _ _ l0_3 1048576 t265 _ ?side1 ?side2 ?side3 ?side4 ?side5 ?side6 ?side7 ?side8 A2.out).mono ?_); (case side1 => have zh := (Kd.C_below HR0_0.out HB.out); exact z7_C); (case side2 => exact HC0_0.out); (case side3 => have zh := (Kd.C_below HR0_1.out HB.out); exact z7_C); (case side4 => exact HC0_1.out); (case side5 => have zh := (Kd.C_below HR0_2.out HB.out); exact z7_C); (case side6 => exact HC0_2.out); (case side7 => have zh := (Kd.C_below HR0_3.out HB.out); exact z7_C); (case side8 => exact HC0_3.out); rintro e w14 ⟨rfl, hb⟩; refine ⟨_, rfl, ?_⟩; have n0_ := z7_A (blk_below (g := gb264) (o := .cells #[.slice A0_0 l0_0.length c0_0, .slice A0_1 l0_1.length c0_1, .slice A0_2 l0_2.length c0_2, .slice A0_3 l0_3.length c0_3] 46 (0, 0)) z7_4 hb); have n1_ := z7_A (below_step z7_2 hb); clear BK264 HB; revert n0_ n1_; intro BK264 HB; (try clear hb); (try clear hb2); (try clear hk); (try clear hi); have hcz15_0 : w14.cell? ⟨gb264, 0, none⟩ = some (.slice A0_0 l0_0.length c0_0) := (blk_cell BK264.out 0).trans rfl; have hcz15_1 : w14.cell? ⟨gb264, 1, none⟩ = some (.slice A0_1 l0_1.length c0_1) := (blk_cell BK264.out 1).trans rfl; have hcz15_2 : w14.cell? ⟨gb264, 2, none⟩ = some (.slice A0_2 l0_2.length c0_2) := (blk_cell BK264.out 2).trans rfl; have hcz15_3 : w14.cell? ⟨gb264, 3, none⟩ = some (.slice A0_3 l0_3.length c0_3) := (blk_cell BK264.out 3).trans rfl; have hfz15_0 := blk_frozen BK264.out 0; have hfz15_1 := blk_frozen BK264.out 1; have hfz15_2 := blk_frozen BK264.out 2; have hfz15_3 := blk_frozen BK264.out 3) | ((with_reducible refine gate_callee (f := 35) rfl ?_); refine goesL_ (some 21) rfl rfl Try.func35 z7_28 rfl #[.agg #[.slice A0_0 l0_0.length c0_0, .slice A0_1 l0_1.length c0_1, .slice A0_2 l0_2.length c0_2, .slice A0_3 l0_3.length c0_3]] rfl z7_3 ?_; (with_reducible refine (laws_toCase.calls k _ _ l0_0 _ _ l0_1 _ _ l0_2 _ _ l0_3 t266 t269 t272 t275 _ ?side1 ?side2 ?side3 ?side4 ?side5 ?side6 ?side7 ?side8 A7.out).mono ?_); (case side1 => have zh := (Kd.C_below HR0_0.out HB.out); exact z7_C); (case side2 => exact HC0_0.out); (case side3 => have zh := (Kd.C_below HR0_1.out HB.out); exact z7_C); (case side4 => exact HC0_1.out); (case side5 => have zh := (Kd.C_below HR0_2.out HB.out); exact z7_C); (case side6 => exact HC0_2.out); (case side7 => have zh := (Kd.C_below HR0_3.out HB.out); exact z7_C); (case side8 => exact HC0_3.out); rintro e w16 ⟨v267, v270, v273, v276, rfl, ho0, ho1, ho2, ho3, hb⟩; refine ⟨_, rfl, ?_⟩; have n0_ := z7_A (Kd.R_lower ho0 (below_size z7_2)); have n1_ := z7_A (Kd.R_lower ho1 (below_size z7_2)); have n2_ := z7_A (Kd.R_lower ho2 (below_size z7_2)); have n3_ := z7_A (Kd.R_lower ho3 (below_size z7_2)); have n4_ := z7_A (blk_below (g := gb264) (o := .cells #[.slice A0_0 l0_0.length c0_0, .slice A0_1 l0_1.length c0_1, .slice A0_2 l0_2.length c0_2, .slice A0_3 l0_3.length c0_3] 46 (0, 0)) z7_4 hb); have n5_ := z7_A (below_step z7_2 hb); clear BK264 HB; revert n0_ n1_ n2_ n3_ n4_ n5_; intro HO268 HO271 HO274 HO277 BK264 HB; (try clear hb); (try clear hb2); (try clear hk); (try clear hi); (try clear ho0); (try clear ho1); (try clear ho2); (try clear ho3); obtain ⟨Ao17, co17, eo17⟩ := Kd.R_slice HO268.out; subst eo17; obtain ⟨Ao18, co18, eo18⟩ := Kd.R_slice HO271.out; subst eo18; obtain ⟨Ao19, co19, eo19⟩ := Kd.R_slice HO274.out; subst eo19; obtain ⟨Ao20, co20, eo20⟩ := Kd.R_slice HO277.out; subst eo20) | ((with_reducible refine gate_callee (f := 39) rfl ?_); refine goesL_ (some 22) rfl rfl Try.func39 z7_28 rfl #[.agg #[.slice Ao17 t266.length co17, .slice Ao18 t269.length co18, .slice Ao19 t272.length co19, .slice Ao20 t275.length co20]] rfl z7_3 ?_; (with_reducible refine (spec_LifeGains.calls k _ _ t266 _ _ t269 _ _ t272 _ _ t275 t278 t281 _ ?side1 ?side2 ?side3 ?side4 ?side5 ?side6 ?side7 ?side8 A8.out).mono ?_); (case side1 => have zh := (Kd.R_reads' HO268.out).2.2; exact z7_C); (case side2 => exact (Kd.R_reads' HO268.out).2.1); (case side3 => have zh := (Kd.R_reads' HO271.out).2.2; exact z7_C); (case side4 => exact (Kd.R_reads' HO271.out).2.1); (case side5 => have zh := (Kd.R_reads' HO274.out).2.2; exact z7_C); (case side6 => exact (Kd.R_reads' HO274.out).2.1); (case side7 => have zh := (Kd.R_reads' HO277.out).2.2; exact z7_C); (case side8 => exact (Kd.R_reads' HO277.out).2.1); rintro e w21 ⟨v279, rfl, ho0, hb⟩; refine ⟨_, rfl, ?_⟩; have n0_ := z7_A (Kd.R_elder' z7_19 (Kd.R_base ho0) hb); have n1_ := z7_A (Kd.R_elder' z7_18 (Kd.R_base ho0) hb); have n2_ := z7_A (Kd.R_elder' z7_17 (Kd.R_base ho0) hb); have n3_ := z7_A (Kd.R_elder' z7_16 (Kd.R_base ho0) hb); have n4_ := z7_A (Kd.R_lower (Kd.R_new' (Kd.R_new' (Kd.R_new' (Kd.R_new' ho0 (Kd.R_lt z7_19)) (Kd.R_lt z7_18)) (Kd.R_lt z7_17)) (Kd.R_lt z7_16)) (below_size z7_2)); have n5_ := z7_A (blk_below (g := gb264) (o := .cells #[.slice A0_0 l0_0.length c0_0, .slice A0_1 l0_1.length c0_1, .slice A0_2 l0_2.length c0_2, .slice A0_3 l0_3.length c0_3] 46 (0, 0)) z7_4 hb); have n6_ := z7_A (below_step z7_2 hb); clear HO268 HO271 HO274 HO277 BK264 HB; revert n0_ n1_ n2_ n3_ n4_ n5_ n6_; intro HO268 HO271 HO274 HO277 HO280 BK264 HB; (try clear hb); (try clear hb2); (try clear hk); (try clear hi); (try clear ho0); have hcz22_0 : w21.cell? ⟨gb264, 0, none⟩ = some (.slice A0_0 l0_0.length c0_0) := (blk_cell BK264.out 0).trans rfl; have hcz22_1 : w21.cell? ⟨gb264, 1, none⟩ = some (.slice A0_1 l0_1.length c0_1) := (blk_cell BK264.out 1).trans rfl; have hcz22_2 : w21.cell? ⟨gb264, 2, none⟩ = some (.slice A0_2 l0_2.length c0_2) := (blk_cell BK264.out 2).trans rfl; have hcz22_3 : w21.cell? ⟨gb264, 3, none⟩ = some (.slice A0_3 l0_3.length c0_3) := (blk_cell BK264.out 3).trans rfl; have hfz22_0 := blk_frozen BK264.out 0; have hfz22_1 := blk_frozen BK264.out 1; have hfz22_2 := blk_frozen BK264.out 2; have hfz22_3 := blk_frozen BK264.out 3) | ((with_reducible refine gate_callee (f := 35) rfl ?_); refine goesL_ (some 26) rfl rfl Try.func35 z7_28 rfl #[.agg #[.slice A0_0 l0_0.length c0_0, .slice A0_1 l0_1.length c0_1, .slice A0_2 l0_2.length c0_2, .slice A0_3 l0_3.length c0_3]] rfl z7_3 ?_; (with_reducible refine (laws_toCase.calls k _ _ l0_0 _ _ l0_1 _ _ l0_2 _ _ l0_3 t282 t285 t288 t291 _ ?side1 ?side2 ?side3 ?side4 ?side5 ?side6 ?side7 ?side8 A9.out).mono ?_); (case side1 => have zh := (Kd.C_below HR0_0.out HB.out); exact z7_C); (case side2 => exact HC0_0.out); (case side3 => have zh := (Kd.C_below HR0_1.out HB.out); exact z7_C); (case side4 => exact HC0_1.out); (case side5 => have zh := (Kd.C_below HR0_2.out HB.out); exact z7_C); (case side6 => exact HC0_2.out); (case side7 => have zh := (Kd.C_below HR0_3.out HB.out); exact z7_C); (case side8 => exact HC0_3.out); rintro e w23 ⟨v283, v286, v289, v292, rfl, ho0, ho1, ho2, ho3, hb⟩; refine ⟨_, rfl, ?_⟩; have n0_ := z7_A (Kd.R_mono (Kd.R_told (Kd.R_told (Kd.R_told (Kd.R_told (Kd.R_old z7_19 hb) (Kd.R_base ho0)) (Kd.R_base ho1)) (Kd.R_base ho2)) (Kd.R_base ho3)) (fun _ h_ => h_.1)); have n1_ := z7_A (Kd.R_mono (Kd.R_told (Kd.R_told (Kd.R_told (Kd.R_told (Kd.R_old z7_18 hb) (Kd.R_base ho0)) (Kd.R_base ho1)) (Kd.R_base ho2)) (Kd.R_base ho3)) (fun _ h_ => h_.1)); have n2_ := z7_A (Kd.R_mono (Kd.R_told (Kd.R_told (Kd.R_told (Kd.R_told (Kd.R_old z7_17 hb) (Kd.R_base ho0)) (Kd.R_base ho1)) (Kd.R_base ho2)) (Kd.R_base ho3)) (fun _ h_ => h_.1)); have n3_ := z7_A (Kd.R_mono (Kd.R_told (Kd.R_told (Kd.R_told (Kd.R_told (Kd.R_old z7_16 hb) (Kd.R_base ho0)) (Kd.R_base ho1)) (Kd.R_base ho2)) (Kd.R_base ho3)) (fun _ h_ => h_.1)); have n4_ := z7_A (Kd.R_mono (Kd.R_told (Kd.R_told (Kd.R_told (Kd.R_told (Kd.R_old z7_21 hb) (Kd.R_base ho0)) (Kd.R_base ho1)) (Kd.R_base ho2)) (Kd.R_base ho3)) (fun _ h_ => h_.1)); have n5_ := z7_A (Kd.R_lower (Kd.R_new' (Kd.R_new' (Kd.R_new' (Kd.R_new' (Kd.R_new' ho0 (Kd.R_lt z7_19)) (Kd.R_lt z7_18)) (Kd.R_lt z7_17)) (Kd.R_lt z7_16)) (Kd.R_lt z7_21)) (below_size z7_2)); have n6_ := z7_A (Kd.R_lower (Kd.R_new' (Kd.R_new' (Kd.R_new' (Kd.R_new' (Kd.R_new' ho1 (Kd.R_lt z7_19)) (Kd.R_lt z7_18)) (Kd.R_lt z7_17)) (Kd.R_lt z7_16)) (Kd.R_lt z7_21)) (below_size z7_2)); have n7_ := z7_A (Kd.R_lower (Kd.R_new' (Kd.R_new' (Kd.R_new' (Kd.R_new' (Kd.R_new' ho2 (Kd.R_lt z7_19)) (Kd.R_lt z7_18)) (Kd.R_lt z7_17)) (Kd.R_lt z7_16)) (Kd.R_lt z7_21)) (below_size z7_2)); have n8_ := z7_A (Kd.R_lower (Kd.R_new' (Kd.R_new' (Kd.R_new' (Kd.R_new' (Kd.R_new' ho3 (Kd.R_lt z7_19)) (Kd.R_lt z7_18)) (Kd.R_lt z7_17)) (Kd.R_lt z7_16)) (Kd.R_lt z7_21)) (below_size z7_2)); have n9_ := z7_A (blk_below (g := gb264) (o := .cells #[.slice A0_0 l0_0.length c0_0, .slice A0_1 l0_1.length c0_1, .slice A0_2 l0_2.length c0_2, .slice A0_3 l0_3.length c0_3] 46 (0, 0)) z7_4 hb); have n10_ := z7_A (below_step z7_2 hb); clear HO268 HO271 HO274 HO277 HO280 BK264 HB; revert n0_ n1_ n2_ n3_ n4_ n5_ n6_ n7_ n8_ n9_ n10_; intro HO268 HO271 HO274 HO277 HO280 HO284 HO287 HO290 HO293 BK264 HB; (try clear hb); (try clear hb2); (try clear hk); (try clear hi); (try clear ho0); (try clear ho1); (try clear ho2); (try clear ho3)) | ((with_reducible refine gate_dst (N := 6) rfl ?_); refine box_event ?hg (N := 6) ?hd (cs := #[.slice none 0 0, .slice none 0 0, .slice none 0 0, .slice none 0 0]) (t := 50) ?hr ?_; (case hd => rfl); (case hg => rfl); (case hr => first | (go_simp; done) | (go_simp; rfl)); intro gb294 hg w24 hbox hb; have n0_ := z7_A (Kd.R_below z7_19 hb); have n1_ := z7_A (Kd.R_below z7_18 hb); have n2_ := z7_A (Kd.R_below z7_17 hb); have n3_ := z7_A (Kd.R_below z7_16 hb); have n4_ := z7_A (Kd.R_below z7_21 hb); have n5_ := z7_A (Kd.R_below (by (with_reducible repeat (first | apply Kd.R_alloc | apply Kd.R_drewN | apply Kd.R_drew)); exact HO284.out) hb); have n6_ := z7_A (Kd.R_below (by (with_reducible repeat (first | apply Kd.R_alloc | apply Kd.R_drewN | apply Kd.R_drew)); exact HO287.out) hb); have n7_ := z7_A (Kd.R_below (by (with_reducible repeat (first | apply Kd.R_alloc | apply Kd.R_drewN | apply Kd.R_drew)); exact HO290.out) hb); have n8_ := z7_A (Kd.R_below (by (with_reducible repeat (first | apply Kd.R_alloc | apply Kd.R_drewN | apply Kd.R_drew)); exact HO293.out) hb); have n9_ := z7_A (blk_below (g := gb264) (o := .cells #[.slice A0_0 l0_0.length c0_0, .slice A0_1 l0_1.length c0_1, .slice A0_2 l0_2.length c0_2, .slice A0_3 l0_3.length c0_3] 46 (0, 0)) z7_4 hb); have n10_ := z7_A (below_step z7_2 hb); have n11_ := z7_A (hbox); have n12_ := z7_A ((by rw [hg]; exact (below_size z7_2) : w.heap.size ≤ gb294)); have n13_ := z7_A ((by rw [hg]; exact (below_size z7_2) : w.heap.size ≤ gb294)); have n14_ := z7_A ((by rw [hg]; exact Nat.ne_of_lt (blk_lt (g := gb264) (o := .cells #[.slice A0_0 l0_0.length c0_0, .slice A0_1 l0_1.length c0_1, .slice A0_2 l0_2.length c0_2, .slice A0_3 l0_3.length c0_3] 46 (0, 0)) z7_4) : gb264 ≠ gb294)); have n15_ := z7_A ((by rw [hg]; exact Nat.ne_of_gt (blk_lt (g := gb264) (o := .cells #[.slice A0_0 l0_0.length c0_0, .slice A0_1 l0_1.length c0_1, .slice A0_2 l0_2.length c0_2, .slice A0_3 l0_3.length c0_3] 46 (0, 0)) z7_4) : gb294 ≠ gb264)); clear HO268 HO271 HO274 HO277 HO280 HO284 HO287 HO290 HO293 BK264 HB; revert n0_ n1_ n2_ n3_ n4_ n5_ n6_ n7_ n8_ n9_ n10_ n11_ n12_ n13_ n14_ n15_; intro HO268 HO271 HO274 HO277 HO280 HO284 HO287 HO290 HO293 BK264 HB BK294 GW294 GE294 NB264_294 NB294_264; clear hb hbox hg; obtain ⟨Ao25, co25, eo25⟩ := Kd.R_slice HO284.out; subst eo25; have hnb26 := NB294_264.out; have hnc26 := NB264_294.out; have hcz27_0 : w24.cell? ⟨gb294, 0, none⟩ = some (.slice none 0 0) := (blk_cell BK294.out 0).trans rfl; have hcz27_1 : w24.cell? ⟨gb294, 1, none⟩ = some (.slice none 0 0) := (blk_cell BK294.out 1).trans rfl; have hcz27_2 : w24.cell? ⟨gb294, 2, none⟩ = some (.slice none 0 0) := (blk_cell BK294.out 2).trans rfl; have hcz27_3 : w24.cell? ⟨gb294, 3, none⟩ = some (.slice none 0 0) := (blk_cell BK294.out 3).trans rfl; have hfz27_0 := blk_frozen BK294.out 0; have hfz27_1 := blk_frozen BK294.out 1; have hfz27_2 := blk_frozen BK294.out 2; have hfz27_3 := blk_frozen BK294.out 3; obtain ⟨Ao28, co28, eo28⟩ := Kd.R_slice HO287.out; subst eo28; obtain ⟨Ao29, co29, eo29⟩ := Kd.R_slice HO290.out; subst eo29; obtain ⟨Ao30, co30, eo30⟩ := Kd.R_slice HO293.out; subst eo30) | ((with_reducible refine gate_callee (f := 40) rfl ?_); refine goesL_ (some 29) rfl rfl Try.func40 z7_28 rfl #[.agg #[.slice Ao25 t282.length co25, .slice Ao28 t285.length co28, .slice Ao29 t288.length co29, .slice Ao30 t291.length co30]] rfl z7_3 ?_; (with_reducible refine (impl_LifeGains.calls k _ _ t282 _ _ t285 _ _ t288 _ _ t291 t295 t298 _ ?side1 ?side2 ?side3 ?side4 ?side5 ?side6 ?side7 ?side8 A10.out).mono ?_); (case side1 => refine (Kd.R_reads' (e := 3) (base := w.heap.size) (ok := fun k_ => ((((((z7_S k_ Ao28 t285.length co28 ∧ (z7_S k_ Ao29 t288.length co29 ∧ z7_S k_ Ao30 t291.length co30)) ∧ z7_S k_ Ao17 t266.length co17) ∧ z7_S k_ Ao18 t269.length co18) ∧ z7_S k_ Ao19 t272.length co19) ∧ z7_S k_ Ao20 t275.length co20) ∧ z7_V k_ v279)) (n := t282.length) (c := co25) ?_).2.2; exact z7_14); (case side2 => exact (Kd.R_reads' HO284.out).2.1); (case side3 => refine (Kd.R_reads' (e := 3) (base := w.heap.size) (ok := fun k_ => ((((((z7_S k_ Ao25 t282.length co25 ∧ (z7_S k_ Ao29 t288.length co29 ∧ z7_S k_ Ao30 t291.length co30)) ∧ z7_S k_ Ao17 t266.length co17) ∧ z7_S k_ Ao18 t269.length co18) ∧ z7_S k_ Ao19 t272.length co19) ∧ z7_S k_ Ao20 t275.length co20) ∧ z7_V k_ v279)) (n := t285.length) (c := co28) ?_).2.2; exact z7_13); (case side4 => exact (Kd.R_reads' HO287.out).2.1); (case side5 => refine (Kd.R_reads' (e := 3) (base := w.heap.size) (ok := fun k_ => ((((((z7_S k_ Ao25 t282.length co25 ∧ (z7_S k_ Ao28 t285.length co28 ∧ z7_S k_ Ao30 t291.length co30)) ∧ z7_S k_ Ao17 t266.length co17) ∧ z7_S k_ Ao18 t269.length co18) ∧ z7_S k_ Ao19 t272.length co19) ∧ z7_S k_ Ao20 t275.length co20) ∧ z7_V k_ v279)) (n := t288.length) (c := co29) ?_).2.2; exact z7_12); (case side6 => exact (Kd.R_reads' HO290.out).2.1); (case side7 => refine (Kd.R_reads' (e := 3) (base := w.heap.size) (ok := fun k_ => ((((((z7_S k_ Ao25 t282.length co25 ∧ (z7_S k_ Ao28 t285.length co28 ∧ z7_S k_ Ao29 t288.length co29)) ∧ z7_S k_ Ao17 t266.length co17) ∧ z7_S k_ Ao18 t269.length co18) ∧ z7_S k_ Ao19 t272.length co19) ∧ z7_S k_ Ao20 t275.length co20) ∧ z7_V k_ v279)) (n := t291.length) (c := co30) ?_).2.2; exact z7_11); (case side8 => exact (Kd.R_reads' HO293.out).2.1); rintro e w31 ⟨v296, rfl, ho0, hb⟩; refine ⟨_, rfl, ?_⟩; have n0_ := z7_A (Kd.R_elder' z7_26 (Kd.R_base ho0) hb); have n1_ := z7_A (Kd.R_elder' z7_25 (Kd.R_base ho0) hb); have n2_ := z7_A (Kd.R_elder' z7_24 (Kd.R_base ho0) hb); have n3_ := z7_A (Kd.R_elder' z7_23 (Kd.R_base ho0) hb); have n4_ := z7_A (Kd.R_elder' z7_22 (Kd.R_base ho0) hb); have n5_ := z7_A (Kd.R_elder' z7_14 (Kd.R_base ho0) hb); have n6_ := z7_A (Kd.R_elder' z7_13 (Kd.R_base ho0) hb); have n7_ := z7_A (Kd.R_elder' z7_12 (Kd.R_base ho0) hb); have n8_ := z7_A (Kd.R_elder' z7_11 (Kd.R_base ho0) hb); have n9_ := z7_A (Kd.R_lower (Kd.R_new' (Kd.R_new' (Kd.R_new' (Kd.R_new' (Kd.R_new' (Kd.R_new' (Kd.R_new' (Kd.R_new' (Kd.R_new' ho0 (Kd.R_lt z7_26)) (Kd.R_lt z7_25)) (Kd.R_lt z7_24)) (Kd.R_lt z7_23)) (Kd.R_lt z7_22)) (Kd.R_lt z7_14)) (Kd.R_lt z7_13)) (Kd.R_lt z7_12)) (Kd.R_lt z7_11)) (below_size z7_1)); have n10_ := z7_A (blk_below (g := gb264) (o := .cells #[.slice A0_0 l0_0.length c0_0, .slice A0_1 l0_1.length c0_1, .slice A0_2 l0_2.length c0_2, .slice A0_3 l0_3.length c0_3] 46 (0, 0)) (by (with_reducible repeat (first | refine blk_drewN ?_ _ | refine blk_drew ?_ | refine blk_alloc ?_ _)); refine blk_far ?_ NB264_294.out _; (with_reducible repeat (first | refine blk_drewN ?_ _ | refine blk_drew ?_ | refine blk_alloc ?_ _)); refine blk_far ?_ NB264_294.out _; (with_reducible repeat (first | refine blk_drewN ?_ _ | refine blk_drew ?_ | refine blk_alloc ?_ _)); refine blk_far ?_ NB264_294.out _; (with_reducible repeat (first | refine blk_drewN ?_ _ | refine blk_drew ?_ | refine blk_alloc ?_ _)); refine blk_far ?_ NB264_294.out _; (with_reducible repeat (first | refine blk_drewN ?_ _ | refine blk_drew ?_ | refine blk_alloc ?_ _)); exact BK264.out) hb); have n11_ := z7_A (blk_below (g := gb294) (o := .cells #[.slice Ao25 t282.length co25, .slice Ao28 t285.length co28, .slice Ao29 t288.length co29, .slice Ao30 t291.length co30] 50 (0, 0)) (by (with_reducible repeat (first | refine blk_drewN ?_ _ | refine blk_drew ?_ | refine blk_alloc ?_ _)); refine blk_put (cs := #[.slice Ao25 t282.length co25, .slice Ao28 t285.length co28, .slice Ao29 t288.length co29, .slice none 0 0]) ?_ 3 _ rfl; (with_reducible repeat (first | refine blk_drewN ?_ _ | refine blk_drew ?_ | refine blk_alloc ?_ _)); refine blk_put (cs := #[.slice Ao25 t282.length co25, .slice Ao28 t285.length co28, .slice none 0 0, .slice none 0 0]) ?_ 2 _ rfl; (with_reducible repeat (first | refine blk_drewN ?_ _ | refine blk_drew ?_ | refine blk_alloc ?_ _)); refine blk_put (cs := #[.slice Ao25 t282.length co25, .slice none 0 0, .slice none 0 0, .slice none 0 0]) ?_ 1 _ rfl; (with_reducible repeat (first | refine blk_drewN ?_ _ | refine blk_drew ?_ | refine blk_alloc ?_ _)); refine blk_put (cs := #[.slice none 0 0, .slice none 0 0, .slice none 0 0, .slice none 0 0]) ?_ 0 _ rfl; (with_reducible repeat (first | refine blk_drewN ?_ _ | refine blk_drew ?_ | refine blk_alloc ?_ _)); exact BK294.out) hb); have n12_ := z7_A (below_step z7_1 hb); clear HO268 HO271 HO274 HO277 HO280 HO284 HO287 HO290 HO293 BK264 BK294 HB; revert n0_ n1_ n2_ n3_ n4_ n5_ n6_ n7_ n8_ n9_ n10_ n11_ n12_; intro HO268 HO271 HO274 HO277 HO280 HO284 HO287 HO290 HO293 HO297 BK264 BK294 HB; (try clear hb); (try clear hb2); (try clear hk); (try clear hi); (try clear ho0)))
  (try simp only [Act.put, List.setIfInBounds_toArray, List.set_cons_zero, List.set_cons_succ])
  go_cut [40] (fun v40 wc => ∃ (kq : Nat) (x40_10 : Bool), v40 = .bool x40_10 ∧ Aside0 (laws_FnExactLifeGains.j0 kq t278 t281 t295 t298 x40_10 l0_0 l0_1 l0_2 l0_3 t282 t285 t288 t291 = some r) ∧ Aside0 (kq ≤ k) ∧ Aside0 (Kd.R (Kd.int .i64) 3 wc w.heap.size (fun k_ => z7_V k_ v296 ∧ some k_ ≠ ((.slice Ao25 t282.length co25) : Value).ownBlock ∧ some k_ ≠ ((.slice Ao28 t285.length co28) : Value).ownBlock ∧ some k_ ≠ ((.slice Ao29 t288.length co29) : Value).ownBlock ∧ some k_ ≠ ((.slice Ao30 t291.length co30) : Value).ownBlock) v279 t278) ∧ Aside0 (Kd.R (Kd.int .i64) 3 wc w.heap.size (fun k_ => z7_V k_ v279 ∧ some k_ ≠ ((.slice Ao25 t282.length co25) : Value).ownBlock ∧ some k_ ≠ ((.slice Ao28 t285.length co28) : Value).ownBlock ∧ some k_ ≠ ((.slice Ao29 t288.length co29) : Value).ownBlock ∧ some k_ ≠ ((.slice Ao30 t291.length co30) : Value).ownBlock) v296 t295) ∧ Aside0 (Kd.R (Kd.int .i64) 3 wc w.heap.size (fun k_ => z7_V k_ v279 ∧ z7_V k_ v296 ∧ some k_ ≠ ((.slice Ao28 t285.length co28) : Value).ownBlock ∧ some k_ ≠ ((.slice Ao29 t288.length co29) : Value).ownBlock ∧ some k_ ≠ ((.slice Ao30 t291.length co30) : Value).ownBlock) (.slice Ao25 t282.length co25) t282) ∧ Aside0 (Kd.R (Kd.int .i64) 3 wc w.heap.size (fun k_ => z7_V k_ v279 ∧ z7_V k_ v296 ∧ some k_ ≠ ((.slice Ao25 t282.length co25) : Value).ownBlock ∧ some k_ ≠ ((.slice Ao29 t288.length co29) : Value).ownBlock ∧ some k_ ≠ ((.slice Ao30 t291.length co30) : Value).ownBlock) (.slice Ao28 t285.length co28) t285) ∧ Aside0 (Kd.R (Kd.int .i64) 3 wc w.heap.size (fun k_ => z7_V k_ v279 ∧ z7_V k_ v296 ∧ some k_ ≠ ((.slice Ao25 t282.length co25) : Value).ownBlock ∧ some k_ ≠ ((.slice Ao28 t285.length co28) : Value).ownBlock ∧ some k_ ≠ ((.slice Ao30 t291.length co30) : Value).ownBlock) (.slice Ao29 t288.length co29) t288) ∧ Aside0 (Kd.R (Kd.int .i64) 3 wc w.heap.size (fun k_ => z7_V k_ v279 ∧ z7_V k_ v296 ∧ some k_ ≠ ((.slice Ao25 t282.length co25) : Value).ownBlock ∧ some k_ ≠ ((.slice Ao28 t285.length co28) : Value).ownBlock ∧ some k_ ≠ ((.slice Ao29 t288.length co29) : Value).ownBlock) (.slice Ao30 t291.length co30) t291) ∧ Aside0 (wc.heap[gb264]? = some (.cells #[(.slice A0_0 l0_0.length c0_0), (.slice A0_1 l0_1.length c0_1), (.slice A0_2 l0_2.length c0_2), (.slice A0_3 l0_3.length c0_3)] 46 (0, 0))) ∧ Aside0 (wc.heap[gb294]? = some (.cells #[(.slice Ao25 t282.length co25), (.slice Ao28 t285.length co28), (.slice Ao29 t288.length co29), (.slice Ao30 t291.length co30)] 50 (0, 0))) ∧ Aside0 (Below w.heap.size w wc))
  case first =>
   have H := HC11.out
   clear HC11
   replace H := Option.bind_eq_some_iff.mp H
   obtain ⟨t299, A320, H⟩ := H
   (try dsimp only at H)
   have A32 := z7_A A320
   clear A320
   by_cases c33 : t299 = true
   ·subst c33
    have H1 : (laws_FnExactLifeGains.j0 k t278 t281 t295 t298 (t298 != t281) l0_0 l0_1 l0_2 l0_3 t282 t285 t288 t291) = some r := z7_29
    clear H
    have H := H1
    clear H1
    have H' := z7_A H
    clear H
    obtain ⟨Ao34, co34, eo34⟩ := Kd.R_slice HO297.out
    subst eo34
    obtain ⟨Ao35, co35, eo35⟩ := Kd.R_slice HO280.out
    subst eo35
    go_wp2_with (first | ((with_reducible refine gate_callee (f := 22) rfl ?_); refine goesL_ (some 34) rfl rfl Try.func22 z7_28 rfl #[.slice Ao34 t295.length co34, .slice Ao35 t278.length co35] rfl z7_3 ?_; (with_reducible refine (laws_eqIntS.calls k _ _ t295 _ _ t278 true _ ?side1 ?side2 ?side3 ?side4 A32.out).mono ?_); (case side1 => have zh := (Kd.R_reads' HO297.out).2.2; exact z7_C); (case side2 => exact (Kd.R_reads' HO297.out).2.1); (case side3 => have zh := (Kd.R_reads' HO280.out).2.2; exact z7_C); (case side4 => exact (Kd.R_reads' HO280.out).2.1); rintro e w' ⟨rfl, ⟨nd, rfl⟩⟩; refine ⟨_, rfl, ?_⟩))
    go_meet
    case rel => exact ⟨_, ((t298 != t281)), z7_36, H', ⟨by first | omega | exact Nat.le_refl _⟩, ⟨by (with_reducible repeat (first | apply Kd.R_alloc | apply Kd.R_drewN | apply Kd.R_drew)); exact Kd.R_mono HO280.out (fun _ hk => ⟨hk.2, ⟨hk.1.1.1.1.2, ⟨hk.1.1.1.2, ⟨hk.1.1.2, hk.1.2⟩⟩⟩⟩)⟩, ⟨by (with_reducible repeat (first | apply Kd.R_alloc | apply Kd.R_drewN | apply Kd.R_drew)); exact Kd.R_mono HO297.out (fun _ hk => ⟨hk.1.1.1.1.2, ⟨hk.1.1.1.2, ⟨hk.1.1.2, ⟨hk.1.2, hk.2⟩⟩⟩⟩)⟩, ⟨by (with_reducible repeat (first | apply Kd.R_alloc | apply Kd.R_drewN | apply Kd.R_drew)); exact Kd.R_mono HO284.out (fun _ hk => ⟨hk.1.2, ⟨hk.2, ⟨hk.1.1.1.1.1.1.1, ⟨hk.1.1.1.1.1.1.2.1, hk.1.1.1.1.1.1.2.2⟩⟩⟩⟩)⟩, ⟨by (with_reducible repeat (first | apply Kd.R_alloc | apply Kd.R_drewN | apply Kd.R_drew)); exact Kd.R_mono HO287.out (fun _ hk => ⟨hk.1.2, ⟨hk.2, ⟨hk.1.1.1.1.1.1.1, ⟨hk.1.1.1.1.1.1.2.1, hk.1.1.1.1.1.1.2.2⟩⟩⟩⟩)⟩, ⟨by (with_reducible repeat (first | apply Kd.R_alloc | apply Kd.R_drewN | apply Kd.R_drew)); exact Kd.R_mono HO290.out (fun _ hk => ⟨hk.1.2, ⟨hk.2, ⟨hk.1.1.1.1.1.1.1, ⟨hk.1.1.1.1.1.1.2.1, hk.1.1.1.1.1.1.2.2⟩⟩⟩⟩)⟩, ⟨by (with_reducible repeat (first | apply Kd.R_alloc | apply Kd.R_drewN | apply Kd.R_drew)); exact Kd.R_mono HO293.out (fun _ hk => ⟨hk.1.2, ⟨hk.2, ⟨hk.1.1.1.1.1.1.1, ⟨hk.1.1.1.1.1.1.2.1, hk.1.1.1.1.1.1.2.2⟩⟩⟩⟩)⟩, ⟨z7_4⟩, ⟨z7_15⟩, ⟨z7_1⟩⟩
   ·replace c33 := Bool.eq_false_iff.mpr c33
    subst c33
    have H1 : (none) = some r := z7_27
    clear H
    have H := H1
    clear H1
    exact absurd H (by simp)
  case rest =>
   clear HC11
   (try clear c3); (try clear c3b0); (try clear hcz13_0); (try clear hcz13_1); (try clear hcz13_2); (try clear hcz13_3); (try clear hcz15_0); (try clear hcz15_1); (try clear hcz15_2); (try clear hcz15_3); (try clear hcz22_0); (try clear hcz22_1); (try clear hcz22_2); (try clear hcz22_3); (try clear hcz27_0); (try clear hcz27_1); (try clear hcz27_2); (try clear hcz27_3); (try clear hfz13_0); (try clear hfz13_1); (try clear hfz13_2); (try clear hfz13_3); (try clear hfz15_0); (try clear hfz15_1); (try clear hfz15_2); (try clear hfz15_3); (try clear hfz22_0); (try clear hfz22_1); (try clear hfz22_2); (try clear hfz22_3); (try clear hfz27_0); (try clear hfz27_1); (try clear hfz27_2); (try clear hfz27_3)
   obtain ⟨kq, x40_10, rfl, HA, HJ10, HO_4, HO_7, HO_295000, HO_295001, HO_295002, HO_295003, BK264, BK294, HB⟩ := hcut
   cases kq with
   | zero => exact absurd HA.out (by simp [laws_FnExactLifeGains.j0])
   | succ kj10 =>
    have H := HA.out
    clear HA
    simp only [laws_FnExactLifeGains.j0] at H
    by_cases c36 : x40_10 = true
    ·subst c36
     have H1 : (none) = some r := z7_29
     clear H
     have H := H1
     clear H1
     exact absurd H (by simp)
    ·replace c36 := Bool.eq_false_iff.mpr c36
     subst c36
     have H1 : ((laws_toCase.f kj10 l0_0 l0_1 l0_2 l0_3).bind fun bt300 => ((laws_eqCase.f kj10 t282 t285 t288 t291 bt300.1 bt300.2.1 bt300.2.2.1 bt300.2.2.2).bind fun t312 => (if t312 = true then ((laws_markCase.f kj10 t282 t285 t288 t291 1).bind fun bt313 => (if bt313.1 < 0 then (none) else ((laws_eqIntS.f kj10 t295 t278).bind fun t318 => (if t318 = true then (laws_FnExactLifeGains.j1 kj10 t278 t281 t295 (t298 != t281) l0_0 l0_1 l0_2 l0_3) else (none))))) else (none)))) = some r := z7_27
     clear H
     have H := H1
     clear H1
     replace H := Option.bind_eq_some_iff.mp H
     obtain ⟨⟨t300, t303, t306, t309⟩, A370, H⟩ := H
     (try dsimp only at H)
     have A37 := z7_A A370
     clear A370
     replace H := Option.bind_eq_some_iff.mp H
     obtain ⟨t312, A380, H⟩ := H
     (try dsimp only at H)
     have A38 := z7_A A380
     clear A380
     by_cases c39 : t312 = true
     ·subst c39
      have H1 : ((laws_markCase.f kj10 t282 t285 t288 t291 1).bind fun bt313 => (if bt313.1 < 0 then (none) else ((laws_eqIntS.f kj10 t295 t278).bind fun t318 => (if t318 = true then (laws_FnExactLifeGains.j1 kj10 t278 t281 t295 (t298 != t281) l0_0 l0_1 l0_2 l0_3) else (none))))) = some r := z7_29
      clear H
      have H := H1
      clear H1
      replace H := Option.bind_eq_some_iff.mp H
      obtain ⟨⟨t313, t314, t315, t316, t317⟩, A400, H⟩ := H
      (try dsimp only at H)
      have A40 := z7_A A400
      clear A400
      have HC41 := z7_A H
      clear H
      try go_wp2
      have n0_ := z7_A (Kd.R_drew HO_4.out)
      have n1_ := z7_A (Kd.R_drew HO_7.out)
      have n2_ := z7_A (Kd.R_drew HO_295000.out)
      have n3_ := z7_A (Kd.R_drew HO_295001.out)
      have n4_ := z7_A (Kd.R_drew HO_295002.out)
      have n5_ := z7_A (Kd.R_drew HO_295003.out)
      have n6_ := z7_A (blk_drew BK264.out)
      have n7_ := z7_A (blk_drew BK294.out)
      have n8_ := z7_A (below_drew1 HB.out)
      clear HO_4
      clear HO_7
      clear HO_295000
      clear HO_295001
      clear HO_295002
      clear HO_295003
      clear BK264
      clear BK294
      clear HB
      have HO_4 := n0_
      have HO_7 := n1_
      have HO_295000 := n2_
      have HO_295001 := n3_
      have HO_295002 := n4_
      have HO_295003 := n5_
      have BK264 := n6_
      have BK294 := n7_
      have HB := n8_
      clear n0_ n1_ n2_ n3_ n4_ n5_ n6_ n7_ n8_
      refine start_ (n := 5) (S := fun w' => w'.cell? ⟨gb294, 0, none⟩ = some (.slice Ao25 t282.length co25) ∧ w'.cell? ⟨gb294, 1, none⟩ = some (.slice Ao28 t285.length co28) ∧ w'.cell? ⟨gb294, 2, none⟩ = some (.slice Ao29 t288.length co29) ∧ w'.cell? ⟨gb294, 3, none⟩ = some (.slice Ao30 t291.length co30) ∧ w'.cell? ⟨gb264, 0, none⟩ = some (.slice A0_0 l0_0.length c0_0) ∧ w'.cell? ⟨gb264, 1, none⟩ = some (.slice A0_1 l0_1.length c0_1) ∧ w'.cell? ⟨gb264, 2, none⟩ = some (.slice A0_2 l0_2.length c0_2) ∧ w'.cell? ⟨gb264, 3, none⟩ = some (.slice A0_3 l0_3.length c0_3)) (ds := []) #[false, false, false, false, false] z7_28 rfl rfl ⟨(blk_cell BK294.out 0).trans rfl, (blk_cell BK294.out 1).trans rfl, (blk_cell BK294.out 2).trans rfl, (blk_cell BK294.out 3).trans rfl, (blk_cell BK264.out 0).trans rfl, (blk_cell BK264.out 1).trans rfl, (blk_cell BK264.out 2).trans rfl, (blk_cell BK264.out 3).trans rfl⟩ (fun hHeld => ?_)
      generalize wc.drew = w42 at HO_4 HO_7 HO_295000 HO_295001 HO_295002 HO_295003 BK264 BK294 HB hHeld ⊢
      refine take_ (i := 0) (N := some 41) (v := ?_) (a' := ?_) #[true, false, false, false, false] rfl rfl z7_28 (fun _ _ _ h => h) (Or.inl ⟨by rfl, ?_⟩) hHeld ?_ ?_
      rotate_left
      ·rintro w' ⟨s0, s1, s2, s3, s4, s5, s6, s7⟩
       go_simp
       with_reducible rfl
      rotate_left
      ·simp only [Act.put, List.setIfInBounds_toArray, List.set_cons_zero, List.set_cons_succ, i64_w, i32_w]
       rfl
      refine take_ (i := 1) (N := some 42) (v := ?_) (a' := ?_) #[true, true, false, false, false] rfl rfl z7_28 (fun _ _ _ h => h) (Or.inl ⟨by rfl, ?_⟩) hHeld ?_ ?_
      rotate_left
      ·rintro w' ⟨s0, s1, s2, s3, s4, s5, s6, s7⟩
       go_simp
       with_reducible rfl
      rotate_left
      ·simp only [Act.put, List.setIfInBounds_toArray, List.set_cons_zero, List.set_cons_succ, i64_w, i32_w]
       rfl
      refine one_ (i := 2) (N := some 43) #[true, true, true, false, false] rfl rfl z7_28 (by decide) (fun K hK => ?_)
      refine goes_ Try.func35 z7_28 rfl #[.agg #[.slice A0_0 l0_0.length c0_0, .slice A0_1 l0_1.length c0_1, .slice A0_2 l0_2.length c0_2, .slice A0_3 l0_3.length c0_3]] (by rfl) rfl rfl z7_3 ?_
      with_reducible refine (laws_toCase.calls kj10 _ _ l0_0 _ _ l0_1 _ _ l0_2 _ _ l0_3 t300 t303 t306 t309 _ ?side1 ?side2 ?side3 ?side4 ?side5 ?side6 ?side7 ?side8 A37.out).mono ?_
      (case side1 => have zh := (Kd.C_below HR0_0.out HB.out); exact z7_C)
      (case side2 => exact HC0_0.out)
      (case side3 => have zh := (Kd.C_below HR0_1.out HB.out); exact z7_C)
      (case side4 => exact HC0_1.out)
      (case side5 => have zh := (Kd.C_below HR0_2.out HB.out); exact z7_C)
      (case side6 => exact HC0_2.out)
      (case side7 => have zh := (Kd.C_below HR0_3.out HB.out); exact z7_C)
      (case side8 => exact HC0_3.out)
      rintro e w43 ⟨v301, v304, v307, v310, rfl, ho0, ho1, ho2, ho3, hb⟩
      refine ⟨_, rfl, ?_⟩
      have n0_ := z7_A (Kd.R_mono (Kd.R_told (Kd.R_told (Kd.R_told (Kd.R_told (Kd.R_old z7_10 hb) (Kd.R_base ho0)) (Kd.R_base ho1)) (Kd.R_base ho2)) (Kd.R_base ho3)) (fun _ h_ => h_.1))
      have n1_ := z7_A (Kd.R_mono (Kd.R_told (Kd.R_told (Kd.R_told (Kd.R_told (Kd.R_old z7_9 hb) (Kd.R_base ho0)) (Kd.R_base ho1)) (Kd.R_base ho2)) (Kd.R_base ho3)) (fun _ h_ => h_.1))
      have n2_ := z7_A (Kd.R_mono (Kd.R_told (Kd.R_told (Kd.R_told (Kd.R_told (Kd.R_old z7_8 hb) (Kd.R_base ho0)) (Kd.R_base ho1)) (Kd.R_base ho2)) (Kd.R_base ho3)) (fun _ h_ => h_.1))
      have n3_ := z7_A (Kd.R_mono (Kd.R_told (Kd.R_told (Kd.R_told (Kd.R_told (Kd.R_old z7_7 hb) (Kd.R_base ho0)) (Kd.R_base ho1)) (Kd.R_base ho2)) (Kd.R_base ho3)) (fun _ h_ => h_.1))
      have n4_ := z7_A (Kd.R_mono (Kd.R_told (Kd.R_told (Kd.R_told (Kd.R_told (Kd.R_old z7_6 hb) (Kd.R_base ho0)) (Kd.R_base ho1)) (Kd.R_base ho2)) (Kd.R_base ho3)) (fun _ h_ => h_.1))
      have n5_ := z7_A (Kd.R_mono (Kd.R_told (Kd.R_told (Kd.R_told (Kd.R_told (Kd.R_old z7_5 hb) (Kd.R_base ho0)) (Kd.R_base ho1)) (Kd.R_base ho2)) (Kd.R_base ho3)) (fun _ h_ => h_.1))
      have n6_ := z7_A (Kd.R_lower (Kd.R_new' (Kd.R_new' (Kd.R_new' (Kd.R_new' (Kd.R_new' (Kd.R_new' ho0 (Kd.R_lt z7_10)) (Kd.R_lt z7_9)) (Kd.R_lt z7_8)) (Kd.R_lt z7_7)) (Kd.R_lt z7_6)) (Kd.R_lt z7_5)) (below_size z7_1))
      have n7_ := z7_A (Kd.R_lower (Kd.R_new' (Kd.R_new' (Kd.R_new' (Kd.R_new' (Kd.R_new' (Kd.R_new' ho1 (Kd.R_lt z7_10)) (Kd.R_lt z7_9)) (Kd.R_lt z7_8)) (Kd.R_lt z7_7)) (Kd.R_lt z7_6)) (Kd.R_lt z7_5)) (below_size z7_1))
      have n8_ := z7_A (Kd.R_lower (Kd.R_new' (Kd.R_new' (Kd.R_new' (Kd.R_new' (Kd.R_new' (Kd.R_new' ho2 (Kd.R_lt z7_10)) (Kd.R_lt z7_9)) (Kd.R_lt z7_8)) (Kd.R_lt z7_7)) (Kd.R_lt z7_6)) (Kd.R_lt z7_5)) (below_size z7_1))
      have n9_ := z7_A (Kd.R_lower (Kd.R_new' (Kd.R_new' (Kd.R_new' (Kd.R_new' (Kd.R_new' (Kd.R_new' ho3 (Kd.R_lt z7_10)) (Kd.R_lt z7_9)) (Kd.R_lt z7_8)) (Kd.R_lt z7_7)) (Kd.R_lt z7_6)) (Kd.R_lt z7_5)) (below_size z7_1))
      have n10_ := z7_A (blk_below (g := gb264) (o := .cells #[.slice A0_0 l0_0.length c0_0, .slice A0_1 l0_1.length c0_1, .slice A0_2 l0_2.length c0_2, .slice A0_3 l0_3.length c0_3] 46 (0, 0)) z7_4 hb)
      have n11_ := z7_A (blk_below (g := gb294) (o := .cells #[.slice Ao25 t282.length co25, .slice Ao28 t285.length co28, .slice Ao29 t288.length co29, .slice Ao30 t291.length co30] 50 (0, 0)) z7_15 hb)
      have n12_ := z7_A (below_step z7_1 hb)
      clear HO_4
      clear HO_7
      clear HO_295000
      clear HO_295001
      clear HO_295002
      clear HO_295003
      clear BK264
      clear BK294
      clear HB
      have HO_4 := n0_
      have HO_7 := n1_
      have HO_295000 := n2_
      have HO_295001 := n3_
      have HO_295002 := n4_
      have HO_295003 := n5_
      have HO302 := n6_
      have HO305 := n7_
      have HO308 := n8_
      have HO311 := n9_
      have BK264 := n10_
      have BK294 := n11_
      have HB := n12_
      clear n0_ n1_ n2_ n3_ n4_ n5_ n6_ n7_ n8_ n9_ n10_ n11_ n12_
      (try clear hb)
      (try clear hb2)
      (try clear hk)
      (try clear hi)
      (try clear ho0)
      (try clear ho1)
      (try clear ho2)
      (try clear ho3)
      obtain ⟨Ao44, co44, eo44⟩ := Kd.R_slice HO302.out
      (first | subst eo44 | (injection eo44 with f1_ f2_ f3_; have f4_ := f1_.symm; have f5_ := f3_.symm; clear f1_ f2_ f3_; subst f4_; subst f5_))
      obtain ⟨Ao45, co45, eo45⟩ := Kd.R_slice HO305.out
      (first | subst eo45 | (injection eo45 with f1_ f2_ f3_; have f4_ := f1_.symm; have f5_ := f3_.symm; clear f1_ f2_ f3_; subst f4_; subst f5_))
      obtain ⟨Ao46, co46, eo46⟩ := Kd.R_slice HO308.out
      (first | subst eo46 | (injection eo46 with f1_ f2_ f3_; have f4_ := f1_.symm; have f5_ := f3_.symm; clear f1_ f2_ f3_; subst f4_; subst f5_))
      obtain ⟨Ao47, co47, eo47⟩ := Kd.R_slice HO311.out
      (first | subst eo47 | (injection eo47 with f1_ f2_ f3_; have f4_ := f1_.symm; have f5_ := f3_.symm; clear f1_ f2_ f3_; subst f4_; subst f5_))
      refine hK.out _ _ ⟨(blk_cell BK294.out 0).trans rfl, (blk_cell BK294.out 1).trans rfl, (blk_cell BK294.out 2).trans rfl, (blk_cell BK294.out 3).trans rfl, (blk_cell BK264.out 0).trans rfl, (blk_cell BK264.out 1).trans rfl, (blk_cell BK264.out 2).trans rfl, (blk_cell BK264.out 3).trans rfl⟩ (fun hHeld => ?_)
      clear hK K
      refine norm_ (a' := ?_) ?_ ?_
      rotate_left
      ·show Act.put _ (some 43) _ = _
       simp only [Act.put, List.setIfInBounds_toArray, List.set_cons_zero, List.set_cons_succ, i64_w, i32_w]
       rfl
      refine one_ (i := 3) (N := some 44) #[true, true, true, true, false] rfl rfl z7_28 (by decide) (fun K hK => ?_)
      refine goes_ Try.func37 z7_28 rfl #[.agg #[.slice Ao25 t282.length co25, .slice Ao28 t285.length co28, .slice Ao29 t288.length co29, .slice Ao30 t291.length co30], .agg #[.slice Ao44 t300.length co44, .slice Ao45 t303.length co45, .slice Ao46 t306.length co46, .slice Ao47 t309.length co47]] (by rfl) rfl rfl z7_3 ?_
      with_reducible refine (laws_eqCase.calls kj10 _ _ t282 _ _ t285 _ _ t288 _ _ t291 _ _ t300 _ _ t303 _ _ t306 _ _ t309 true _ ?side1 ?side2 ?side3 ?side4 ?side5 ?side6 ?side7 ?side8 ?side9 ?side10 ?side11 ?side12 ?side13 ?side14 ?side15 ?side16 A38.out).mono ?_
      (case side1 => have zh := (Kd.R_reads' HO_295000.out).2.2; exact z7_C)
      (case side2 => exact (Kd.R_reads' HO_295000.out).2.1)
      (case side3 => have zh := (Kd.R_reads' HO_295001.out).2.2; exact z7_C)
      (case side4 => exact (Kd.R_reads' HO_295001.out).2.1)
      (case side5 => have zh := (Kd.R_reads' HO_295002.out).2.2; exact z7_C)
      (case side6 => exact (Kd.R_reads' HO_295002.out).2.1)
      (case side7 => have zh := (Kd.R_reads' HO_295003.out).2.2; exact z7_C)
      (case side8 => exact (Kd.R_reads' HO_295003.out).2.1)
      (case side9 => have zh := (Kd.R_reads' HO302.out).2.2; exact z7_C)
      (case side10 => exact (Kd.R_reads' HO302.out).2.1)
      (case side11 => have zh := (Kd.R_reads' HO305.out).2.2; exact z7_C)
      (case side12 => exact (Kd.R_reads' HO305.out).2.1)
      (case side13 => have zh := (Kd.R_reads' HO308.out).2.2; exact z7_C)
      (case side14 => exact (Kd.R_reads' HO308.out).2.1)
      (case side15 => have zh := (Kd.R_reads' HO311.out).2.2; exact z7_C)
      (case side16 => exact (Kd.R_reads' HO311.out).2.1)
      rintro e w48 ⟨rfl, hb⟩
      refine ⟨_, rfl, ?_⟩
      have n0_ := z7_A (Kd.R_below z7_10 hb)
      have n1_ := z7_A (Kd.R_below z7_9 hb)
      have n2_ := z7_A (Kd.R_below z7_8 hb)
      have n3_ := z7_A (Kd.R_below z7_7 hb)
      have n4_ := z7_A (Kd.R_below z7_6 hb)
      have n5_ := z7_A (Kd.R_below z7_5 hb)
      have n6_ := z7_A (Kd.R_below (by (with_reducible repeat (first | apply Kd.R_alloc | apply Kd.R_drewN | apply Kd.R_drew)); exact HO302.out) hb)
      have n7_ := z7_A (Kd.R_below (by (with_reducible repeat (first | apply Kd.R_alloc | apply Kd.R_drewN | apply Kd.R_drew)); exact HO305.out) hb)
      have n8_ := z7_A (Kd.R_below (by (with_reducible repeat (first | apply Kd.R_alloc | apply Kd.R_drewN | apply Kd.R_drew)); exact HO308.out) hb)
      have n9_ := z7_A (Kd.R_below (by (with_reducible repeat (first | apply Kd.R_alloc | apply Kd.R_drewN | apply Kd.R_drew)); exact HO311.out) hb)
      have n10_ := z7_A (blk_below (g := gb264) (o := .cells #[.slice A0_0 l0_0.length c0_0, .slice A0_1 l0_1.length c0_1, .slice A0_2 l0_2.length c0_2, .slice A0_3 l0_3.length c0_3] 46 (0, 0)) z7_4 hb)
      have n11_ := z7_A (blk_below (g := gb294) (o := .cells #[.slice Ao25 t282.length co25, .slice Ao28 t285.length co28, .slice Ao29 t288.length co29, .slice Ao30 t291.length co30] 50 (0, 0)) z7_15 hb)
      have n12_ := z7_A (below_step z7_1 hb)
      clear HO_4
      clear HO_7
      clear HO_295000
      clear HO_295001
      clear HO_295002
      clear HO_295003
      clear HO302
      clear HO305
      clear HO308
      clear HO311
      clear BK264
      clear BK294
      clear HB
      have HO_4 := n0_
      have HO_7 := n1_
      have HO_295000 := n2_
      have HO_295001 := n3_
      have HO_295002 := n4_
      have HO_295003 := n5_
      have HO302 := n6_
      have HO305 := n7_
      have HO308 := n8_
      have HO311 := n9_
      have BK264 := n10_
      have BK294 := n11_
      have HB := n12_
      clear n0_ n1_ n2_ n3_ n4_ n5_ n6_ n7_ n8_ n9_ n10_ n11_ n12_
      (try clear hb)
      (try clear hb2)
      (try clear hk)
      (try clear hi)
      refine hK.out _ _ ⟨(blk_cell BK294.out 0).trans rfl, (blk_cell BK294.out 1).trans rfl, (blk_cell BK294.out 2).trans rfl, (blk_cell BK294.out 3).trans rfl, (blk_cell BK264.out 0).trans rfl, (blk_cell BK264.out 1).trans rfl, (blk_cell BK264.out 2).trans rfl, (blk_cell BK264.out 3).trans rfl⟩ (fun hHeld => ?_)
      clear hK K
      refine norm_ (a' := ?_) ?_ ?_
      rotate_left
      ·show Act.put _ (some 44) _ = _
       simp only [Act.put, List.setIfInBounds_toArray, List.set_cons_zero, List.set_cons_succ, i64_w, i32_w]
       rfl
      refine pure_ (i := 4) (N := some 45) (v := ?_) (a' := ?_) #[true, true, true, true, true] rfl rfl z7_28 (fun _ _ _ h => h) (Or.inl ⟨by rfl, ?_⟩) ?_ ?_
      rotate_left
      ·intro w'
       go_simp
       with_reducible rfl
      rotate_left
      ·simp only [Act.put, List.setIfInBounds_toArray, List.set_cons_zero, List.set_cons_succ, i64_w, i32_w]
       rfl
      refine done_ z7_28 ?_
      have hnb49 := NB294_264.out
      have hnc49 := NB264_294.out
      have hcz50_0 : w48.cell? ⟨gb294, 0, none⟩ = some (.slice Ao25 t282.length co25) := (blk_cell BK294.out 0).trans rfl
      have hcz50_1 : w48.cell? ⟨gb294, 1, none⟩ = some (.slice Ao28 t285.length co28) := (blk_cell BK294.out 1).trans rfl
      have hcz50_2 : w48.cell? ⟨gb294, 2, none⟩ = some (.slice Ao29 t288.length co29) := (blk_cell BK294.out 2).trans rfl
      have hcz50_3 : w48.cell? ⟨gb294, 3, none⟩ = some (.slice Ao30 t291.length co30) := (blk_cell BK294.out 3).trans rfl
      have hfz50_0 := blk_frozen BK294.out 0
      have hfz50_1 := blk_frozen BK294.out 1
      have hfz50_2 := blk_frozen BK294.out 2
      have hfz50_3 := blk_frozen BK294.out 3
      go_upto_region 14 with (first | ((with_reducible refine gate_callee (f := 38) rfl ?_); refine goesL_ (some 48) rfl rfl Try.func38 z7_28 rfl #[.agg #[.slice Ao25 t282.length co25, .slice Ao28 t285.length co28, .slice Ao29 t288.length co29, .slice Ao30 t291.length co30], .int .i64 1] rfl z7_3 ?_; (with_reducible refine (laws_markCase.calls kj10 (fun k_ => some k_ = (.slice Ao25 t282.length co25 : Value).ownBlock) (.slice Ao25 t282.length co25) t282 (fun k_ => some k_ = (.slice Ao28 t285.length co28 : Value).ownBlock) (.slice Ao28 t285.length co28) t285 (fun k_ => some k_ = (.slice Ao29 t288.length co29 : Value).ownBlock) (.slice Ao29 t288.length co29) t288 (fun k_ => some k_ = (.slice Ao30 t291.length co30 : Value).ownBlock) (.slice Ao30 t291.length co30) t291 1 t313 t314 t315 t316 t317 w _ ?side1 ?side2 ?side3 ?side4 ?side5 ?side6 ?side7 ?side8 ?side9 ?side10 ?side11 ?side12 ?side13 ?side14 ?side15 ?side16 ?side17 A40.out).mono ?_); (case side1 => repeat (first | (with_reducible first | exact HB.out | apply below_alloc | apply pw_below_drewN | apply below_drew1 | refine below_set ?_ GE264.out | refine below_set ?_ GE294.out) | exact HB.out)); (case side2 => exact Kd.R_tight rfl HO_295000.out); (case side3 => exact fun k_ e_ => (HO_295000.out.1 k_ e_.symm).1.1.1.1.2.2.1); (case side4 => exact fun k_ e_ => (HO_295000.out.1 k_ e_.symm).1.1.1.1.2.2.2.1); (case side5 => exact fun k_ e_ => (HO_295000.out.1 k_ e_.symm).1.1.1.1.2.2.2.2); (case side6 => exact Kd.R_tight rfl HO_295001.out); (case side7 => exact fun k_ e_ => (HO_295001.out.1 k_ e_.symm).1.1.1.1.2.2.1); (case side8 => exact fun k_ e_ => (HO_295001.out.1 k_ e_.symm).1.1.1.1.2.2.2.1); (case side9 => exact fun k_ e_ => (HO_295001.out.1 k_ e_.symm).1.1.1.1.2.2.2.2); (case side10 => exact Kd.R_tight rfl HO_295002.out); (case side11 => exact fun k_ e_ => (HO_295002.out.1 k_ e_.symm).1.1.1.1.2.2.1); (case side12 => exact fun k_ e_ => (HO_295002.out.1 k_ e_.symm).1.1.1.1.2.2.2.1); (case side13 => exact fun k_ e_ => (HO_295002.out.1 k_ e_.symm).1.1.1.1.2.2.2.2); (case side14 => exact Kd.R_tight rfl HO_295003.out); (case side15 => exact fun k_ e_ => (HO_295003.out.1 k_ e_.symm).1.1.1.1.2.2.1); (case side16 => exact fun k_ e_ => (HO_295003.out.1 k_ e_.symm).1.1.1.1.2.2.2.1); (case side17 => exact fun k_ e_ => (HO_295003.out.1 k_ e_.symm).1.1.1.1.2.2.2.2); rintro e w51 ⟨rfl, hy0, hy1, hy2, hy3, hb, hkp⟩; refine ⟨_, rfl, ?_⟩; have n0_ := z7_A (Kd.R_mono (ok' := fun k_ => z7_V k_ v296 ∧ z7_S k_ Ao25 t282.length co25 ∧ z7_S k_ Ao28 t285.length co28 ∧ z7_S k_ Ao29 t288.length co29 ∧ z7_S k_ Ao30 t291.length co30 ∧ z7_S k_ Ao44 t300.length co44 ∧ z7_S k_ Ao45 t303.length co45 ∧ z7_S k_ Ao46 t306.length co46 ∧ z7_S k_ Ao47 t309.length co47) (Kd.R_keptB (HO_4.out) hkp (fun k_ hk_ hs_ => Or.elim hs_ (fun e_ => (hk_.1.1.1.1.2.1) e_) (fun e_ => Or.elim e_ (fun e_ => (hk_.1.1.1.1.2.2.1) e_) (fun e_ => Or.elim e_ (fun e_ => (hk_.1.1.1.1.2.2.2.1) e_) (fun e_ => (hk_.1.1.1.1.2.2.2.2) e_))))) (fun k_ hk_ => ⟨hk_.1.1.1.1.1.1, hk_.1.1.1.1.1.2.1, hk_.1.1.1.1.1.2.2.1, hk_.1.1.1.1.1.2.2.2.1, hk_.1.1.1.1.1.2.2.2.2, hk_.1.1.1.1.2, hk_.1.1.1.2, hk_.1.1.2, hk_.1.2⟩)); have n1_ := z7_A (Kd.R_mono (ok' := fun k_ => z7_V k_ v279 ∧ z7_S k_ Ao25 t282.length co25 ∧ z7_S k_ Ao28 t285.length co28 ∧ z7_S k_ Ao29 t288.length co29 ∧ z7_S k_ Ao30 t291.length co30 ∧ z7_S k_ Ao44 t300.length co44 ∧ z7_S k_ Ao45 t303.length co45 ∧ z7_S k_ Ao46 t306.length co46 ∧ z7_S k_ Ao47 t309.length co47) (Kd.R_keptB (HO_7.out) hkp (fun k_ hk_ hs_ => Or.elim hs_ (fun e_ => (hk_.1.1.1.1.2.1) e_) (fun e_ => Or.elim e_ (fun e_ => (hk_.1.1.1.1.2.2.1) e_) (fun e_ => Or.elim e_ (fun e_ => (hk_.1.1.1.1.2.2.2.1) e_) (fun e_ => (hk_.1.1.1.1.2.2.2.2) e_))))) (fun k_ hk_ => ⟨hk_.1.1.1.1.1.1, hk_.1.1.1.1.1.2.1, hk_.1.1.1.1.1.2.2.1, hk_.1.1.1.1.1.2.2.2.1, hk_.1.1.1.1.1.2.2.2.2, hk_.1.1.1.1.2, hk_.1.1.1.2, hk_.1.1.2, hk_.1.2⟩)); have n2_ := z7_A (Kd.R_reok rfl hy0 (fun k_ e_ => HO_295000.out.1 k_ e_)); have n3_ := z7_A (Kd.R_reok rfl hy1 (fun k_ e_ => HO_295001.out.1 k_ e_)); have n4_ := z7_A (Kd.R_reok rfl hy2 (fun k_ e_ => HO_295002.out.1 k_ e_)); have n5_ := z7_A (Kd.R_reok rfl hy3 (fun k_ e_ => HO_295003.out.1 k_ e_)); have n6_ := z7_A (blk_kept (g := gb264) (o := .cells #[.slice A0_0 l0_0.length c0_0, .slice A0_1 l0_1.length c0_1, .slice A0_2 l0_2.length c0_2, .slice A0_3 l0_3.length c0_3] 46 (0, 0)) z7_4 hkp (fun hs_ => Or.elim hs_ (fun e_ => (fun e_ => (Kd.R_ne HO_295000.out BK264.out (by decide)) e_) e_) (fun e_ => Or.elim e_ (fun e_ => (fun e_ => (Kd.R_ne HO_295001.out BK264.out (by decide)) e_) e_) (fun e_ => Or.elim e_ (fun e_ => (fun e_ => (Kd.R_ne HO_295002.out BK264.out (by decide)) e_) e_) (fun e_ => (fun e_ => (Kd.R_ne HO_295003.out BK264.out (by decide)) e_) e_))))); have n7_ := z7_A (blk_kept (g := gb294) (o := .cells #[.slice Ao25 t282.length co25, .slice Ao28 t285.length co28, .slice Ao29 t288.length co29, .slice Ao30 t291.length co30] 50 (0, 0)) z7_15 hkp (fun hs_ => Or.elim hs_ (fun e_ => (fun e_ => (Kd.R_ne HO_295000.out BK294.out (by decide)) e_) e_) (fun e_ => Or.elim e_ (fun e_ => (fun e_ => (Kd.R_ne HO_295001.out BK294.out (by decide)) e_) e_) (fun e_ => Or.elim e_ (fun e_ => (fun e_ => (Kd.R_ne HO_295002.out BK294.out (by decide)) e_) e_) (fun e_ => (fun e_ => (Kd.R_ne HO_295003.out BK294.out (by decide)) e_) e_))))); have n8_ := z7_A (Kd.R_mono (ok' := fun k_ => z7_V k_ v279 ∧ z7_V k_ v296 ∧ z7_S k_ Ao25 t282.length co25 ∧ z7_S k_ Ao28 t285.length co28 ∧ z7_S k_ Ao29 t288.length co29 ∧ z7_S k_ Ao30 t291.length co30 ∧ z7_S k_ Ao45 t303.length co45 ∧ z7_S k_ Ao46 t306.length co46 ∧ z7_S k_ Ao47 t309.length co47) (Kd.R_keptB (HO302.out) hkp (fun k_ hk_ hs_ => Or.elim hs_ (fun e_ => (hk_.1.1.1.2) e_) (fun e_ => Or.elim e_ (fun e_ => (hk_.1.1.2) e_) (fun e_ => Or.elim e_ (fun e_ => (hk_.1.2) e_) (fun e_ => (hk_.2) e_))))) (fun k_ hk_ => ⟨hk_.1.1.1.1.1.1.2, hk_.1.1.1.1.1.2, hk_.1.1.1.1.2, hk_.1.1.1.2, hk_.1.1.2, hk_.1.2, hk_.1.1.1.1.1.1.1.1, hk_.1.1.1.1.1.1.1.2.1, hk_.1.1.1.1.1.1.1.2.2⟩)); have n9_ := z7_A (Kd.R_mono (ok' := fun k_ => z7_V k_ v279 ∧ z7_V k_ v296 ∧ z7_S k_ Ao25 t282.length co25 ∧ z7_S k_ Ao28 t285.length co28 ∧ z7_S k_ Ao29 t288.length co29 ∧ z7_S k_ Ao30 t291.length co30 ∧ z7_S k_ Ao44 t300.length co44 ∧ z7_S k_ Ao46 t306.length co46 ∧ z7_S k_ Ao47 t309.length co47) (Kd.R_keptB (HO305.out) hkp (fun k_ hk_ hs_ => Or.elim hs_ (fun e_ => (hk_.1.1.1.2) e_) (fun e_ => Or.elim e_ (fun e_ => (hk_.1.1.2) e_) (fun e_ => Or.elim e_ (fun e_ => (hk_.1.2) e_) (fun e_ => (hk_.2) e_))))) (fun k_ hk_ => ⟨hk_.1.1.1.1.1.1.2, hk_.1.1.1.1.1.2, hk_.1.1.1.1.2, hk_.1.1.1.2, hk_.1.1.2, hk_.1.2, hk_.1.1.1.1.1.1.1.1, hk_.1.1.1.1.1.1.1.2.1, hk_.1.1.1.1.1.1.1.2.2⟩)); have n10_ := z7_A (Kd.R_mono (ok' := fun k_ => z7_V k_ v279 ∧ z7_V k_ v296 ∧ z7_S k_ Ao25 t282.length co25 ∧ z7_S k_ Ao28 t285.length co28 ∧ z7_S k_ Ao29 t288.length co29 ∧ z7_S k_ Ao30 t291.length co30 ∧ z7_S k_ Ao44 t300.length co44 ∧ z7_S k_ Ao45 t303.length co45 ∧ z7_S k_ Ao47 t309.length co47) (Kd.R_keptB (HO308.out) hkp (fun k_ hk_ hs_ => Or.elim hs_ (fun e_ => (hk_.1.1.1.2) e_) (fun e_ => Or.elim e_ (fun e_ => (hk_.1.1.2) e_) (fun e_ => Or.elim e_ (fun e_ => (hk_.1.2) e_) (fun e_ => (hk_.2) e_))))) (fun k_ hk_ => ⟨hk_.1.1.1.1.1.1.2, hk_.1.1.1.1.1.2, hk_.1.1.1.1.2, hk_.1.1.1.2, hk_.1.1.2, hk_.1.2, hk_.1.1.1.1.1.1.1.1, hk_.1.1.1.1.1.1.1.2.1, hk_.1.1.1.1.1.1.1.2.2⟩)); have n11_ := z7_A (Kd.R_mono (ok' := fun k_ => z7_V k_ v279 ∧ z7_V k_ v296 ∧ z7_S k_ Ao25 t282.length co25 ∧ z7_S k_ Ao28 t285.length co28 ∧ z7_S k_ Ao29 t288.length co29 ∧ z7_S k_ Ao30 t291.length co30 ∧ z7_S k_ Ao44 t300.length co44 ∧ z7_S k_ Ao45 t303.length co45 ∧ z7_S k_ Ao46 t306.length co46) (Kd.R_keptB (HO311.out) hkp (fun k_ hk_ hs_ => Or.elim hs_ (fun e_ => (hk_.1.1.1.2) e_) (fun e_ => Or.elim e_ (fun e_ => (hk_.1.1.2) e_) (fun e_ => Or.elim e_ (fun e_ => (hk_.1.2) e_) (fun e_ => (hk_.2) e_))))) (fun k_ hk_ => ⟨hk_.1.1.1.1.1.1.2, hk_.1.1.1.1.1.2, hk_.1.1.1.1.2, hk_.1.1.1.2, hk_.1.1.2, hk_.1.2, hk_.1.1.1.1.1.1.1.1, hk_.1.1.1.1.1.1.1.2.1, hk_.1.1.1.1.1.1.1.2.2⟩)); have n12_ := z7_A (hb); clear HO_4 HO_7 HO_295000 HO_295001 HO_295002 HO_295003 BK264 BK294 HO302 HO305 HO308 HO311 HB; revert n0_ n1_ n2_ n3_ n4_ n5_ n6_ n7_ n8_ n9_ n10_ n11_ n12_; intro HO_4 HO_7 HO_295000 HO_295001 HO_295002 HO_295003 BK264 BK294 HO302 HO305 HO308 HO311 HB; (try clear hb); (try clear hkp); (try clear hy0); (try clear hy1); (try clear hy2); (try clear hy3)))
      (try simp only [Act.put, List.setIfInBounds_toArray, List.set_cons_zero, List.set_cons_succ])
      go_cut [61] (fun v61 wc => ∃ (kq : Nat) (x61_40 : Bool), v61 = .bool x61_40 ∧ Aside0 (laws_FnExactLifeGains.j1 kq t278 t281 t295 x61_40 l0_0 l0_1 l0_2 l0_3 = some r) ∧ Aside0 (kq ≤ kj10) ∧ Aside0 (Kd.R (Kd.int .i64) 3 wc w.heap.size (fun k_ => z7_V k_ v296 ∧ some k_ ≠ ((.slice Ao25 t282.length co25) : Value).ownBlock ∧ some k_ ≠ ((.slice Ao28 t285.length co28) : Value).ownBlock ∧ some k_ ≠ ((.slice Ao29 t288.length co29) : Value).ownBlock ∧ some k_ ≠ ((.slice Ao30 t291.length co30) : Value).ownBlock) v279 t278) ∧ Aside0 (Kd.R (Kd.int .i64) 3 wc w.heap.size (fun k_ => z7_V k_ v279 ∧ some k_ ≠ ((.slice Ao25 t282.length co25) : Value).ownBlock ∧ some k_ ≠ ((.slice Ao28 t285.length co28) : Value).ownBlock ∧ some k_ ≠ ((.slice Ao29 t288.length co29) : Value).ownBlock ∧ some k_ ≠ ((.slice Ao30 t291.length co30) : Value).ownBlock) v296 t295) ∧ Aside0 (Kd.R (Kd.int .i64) 3 wc w.heap.size (fun k_ => z7_V k_ v279 ∧ z7_V k_ v296 ∧ some k_ ≠ ((.slice Ao28 t285.length co28) : Value).ownBlock ∧ some k_ ≠ ((.slice Ao29 t288.length co29) : Value).ownBlock ∧ some k_ ≠ ((.slice Ao30 t291.length co30) : Value).ownBlock) (.slice Ao25 t282.length co25) t314) ∧ Aside0 (Kd.R (Kd.int .i64) 3 wc w.heap.size (fun k_ => z7_V k_ v279 ∧ z7_V k_ v296 ∧ some k_ ≠ ((.slice Ao25 t282.length co25) : Value).ownBlock ∧ some k_ ≠ ((.slice Ao29 t288.length co29) : Value).ownBlock ∧ some k_ ≠ ((.slice Ao30 t291.length co30) : Value).ownBlock) (.slice Ao28 t285.length co28) t315) ∧ Aside0 (Kd.R (Kd.int .i64) 3 wc w.heap.size (fun k_ => z7_V k_ v279 ∧ z7_V k_ v296 ∧ some k_ ≠ ((.slice Ao25 t282.length co25) : Value).ownBlock ∧ some k_ ≠ ((.slice Ao28 t285.length co28) : Value).ownBlock ∧ some k_ ≠ ((.slice Ao30 t291.length co30) : Value).ownBlock) (.slice Ao29 t288.length co29) t316) ∧ Aside0 (Kd.R (Kd.int .i64) 3 wc w.heap.size (fun k_ => z7_V k_ v279 ∧ z7_V k_ v296 ∧ some k_ ≠ ((.slice Ao25 t282.length co25) : Value).ownBlock ∧ some k_ ≠ ((.slice Ao28 t285.length co28) : Value).ownBlock ∧ some k_ ≠ ((.slice Ao29 t288.length co29) : Value).ownBlock) (.slice Ao30 t291.length co30) t317) ∧ Aside0 (wc.heap[gb264]? = some (.cells #[(.slice A0_0 l0_0.length c0_0), (.slice A0_1 l0_1.length c0_1), (.slice A0_2 l0_2.length c0_2), (.slice A0_3 l0_3.length c0_3)] 46 (0, 0))) ∧ Aside0 (wc.heap[gb294]? = some (.cells #[(.slice Ao25 t282.length co25), (.slice Ao28 t285.length co28), (.slice Ao29 t288.length co29), (.slice Ao30 t291.length co30)] 50 (0, 0))) ∧ Aside0 (Below w.heap.size w wc))
      case first =>
       have H := HC41.out
       clear HC41
       by_cases c52 : t313 < 0
       ·rw [if_pos c52] at H
        exact absurd H (by simp)
       ·rw [if_neg c52] at H
        have c52b0 : decide (t313 < 0) = false := decide_eq_false c52
        clear c52
        (first | rw [c52b0] | (simp only [i64_w, i32_w]; rw [c52b0]) | skip)
        replace H := Option.bind_eq_some_iff.mp H
        obtain ⟨t318, A530, H⟩ := H
        (try dsimp only at H)
        have A53 := z7_A A530
        clear A530
        by_cases c54 : t318 = true
        ·subst c54
         have H1 : (laws_FnExactLifeGains.j1 kj10 t278 t281 t295 (t298 != t281) l0_0 l0_1 l0_2 l0_3) = some r := z7_29
         clear H
         have H := H1
         clear H1
         have H' := z7_A H
         clear H
         obtain ⟨Ao55, co55, eo55⟩ := Kd.R_slice HO_7.out
         subst eo55
         obtain ⟨Ao56, co56, eo56⟩ := Kd.R_slice HO_4.out
         subst eo56
         go_wp2_with (first | (go_at_call 22; (with_reducible refine (laws_eqIntS.calls kj10 _ _ t295 _ _ t278 true _ ?side1 ?side2 ?side3 ?side4 A53.out).mono ?_); (case side1 => have zh := (Kd.R_reads' HO_7.out).2.2; exact z7_C); (case side2 => exact (Kd.R_reads' HO_7.out).2.1); (case side3 => have zh := (Kd.R_reads' HO_4.out).2.2; exact z7_C); (case side4 => exact (Kd.R_reads' HO_4.out).2.1); rintro e w' ⟨rfl, ⟨nd, rfl⟩⟩))
         go_meet
         case rel => exact ⟨_, ((t298 != t281)), z7_36, H', ⟨by have := HJ10.out; first | omega | exact Nat.le_refl _⟩, ⟨by (with_reducible repeat (first | apply Kd.R_alloc | apply Kd.R_drewN | apply Kd.R_drew)); exact Kd.R_mono HO_4.out (fun _ hk => ⟨hk.1, ⟨hk.2.1, ⟨hk.2.2.1, ⟨hk.2.2.2.1, hk.2.2.2.2.1⟩⟩⟩⟩)⟩, ⟨by (with_reducible repeat (first | apply Kd.R_alloc | apply Kd.R_drewN | apply Kd.R_drew)); exact Kd.R_mono HO_7.out (fun _ hk => ⟨hk.1, ⟨hk.2.1, ⟨hk.2.2.1, ⟨hk.2.2.2.1, hk.2.2.2.2.1⟩⟩⟩⟩)⟩, ⟨by (with_reducible repeat (first | apply Kd.R_alloc | apply Kd.R_drewN | apply Kd.R_drew)); exact Kd.R_mono HO_295000.out (fun _ hk => ⟨hk.1.1.1.1.1, ⟨hk.1.1.1.1.2.1, ⟨hk.1.1.1.1.2.2.1, ⟨hk.1.1.1.1.2.2.2.1, hk.1.1.1.1.2.2.2.2⟩⟩⟩⟩)⟩, ⟨by (with_reducible repeat (first | apply Kd.R_alloc | apply Kd.R_drewN | apply Kd.R_drew)); exact Kd.R_mono HO_295001.out (fun _ hk => ⟨hk.1.1.1.1.1, ⟨hk.1.1.1.1.2.1, ⟨hk.1.1.1.1.2.2.1, ⟨hk.1.1.1.1.2.2.2.1, hk.1.1.1.1.2.2.2.2⟩⟩⟩⟩)⟩, ⟨by (with_reducible repeat (first | apply Kd.R_alloc | apply Kd.R_drewN | apply Kd.R_drew)); exact Kd.R_mono HO_295002.out (fun _ hk => ⟨hk.1.1.1.1.1, ⟨hk.1.1.1.1.2.1, ⟨hk.1.1.1.1.2.2.1, ⟨hk.1.1.1.1.2.2.2.1, hk.1.1.1.1.2.2.2.2⟩⟩⟩⟩)⟩, ⟨by (with_reducible repeat (first | apply Kd.R_alloc | apply Kd.R_drewN | apply Kd.R_drew)); exact Kd.R_mono HO_295003.out (fun _ hk => ⟨hk.1.1.1.1.1, ⟨hk.1.1.1.1.2.1, ⟨hk.1.1.1.1.2.2.1, ⟨hk.1.1.1.1.2.2.2.1, hk.1.1.1.1.2.2.2.2⟩⟩⟩⟩)⟩, ⟨z7_4⟩, ⟨z7_15⟩, ⟨z7_1⟩⟩
        ·replace c54 := Bool.eq_false_iff.mpr c54
         subst c54
         have H1 : (none) = some r := z7_27
         clear H
         have H := H1
         clear H1
         exact absurd H (by simp)
      case rest =>
       clear HC41
       (try clear c2); (try clear p2); (try clear c3); (try clear c3b0); (try clear c4); (try clear c5); (try clear c9); (try clear c22); (try clear c26); (try clear c33); (try clear c35); (try clear c36); (try clear c37); (try clear c38); (try clear c39); (try clear c40); (try clear c49); (try clear c52); (try clear c52b0); (try clear c54); (try clear hcz13_0); (try clear hcz13_1); (try clear hcz13_2); (try clear hcz13_3); (try clear hcz15_0); (try clear hcz15_1); (try clear hcz15_2); (try clear hcz15_3); (try clear hcz22_0); (try clear hcz22_1); (try clear hcz22_2); (try clear hcz22_3); (try clear hcz27_0); (try clear hcz27_1); (try clear hcz27_2); (try clear hcz27_3); (try clear hcz50_0); (try clear hcz50_1); (try clear hcz50_2); (try clear hcz50_3); (try clear hcz5_0); (try clear hcz5_1); (try clear hcz5_2); (try clear hcz5_3); (try clear hfz13_0); (try clear hfz13_1); (try clear hfz13_2); (try clear hfz13_3); (try clear hfz15_0); (try clear hfz15_1); (try clear hfz15_2); (try clear hfz15_3); (try clear hfz22_0); (try clear hfz22_1); (try clear hfz22_2); (try clear hfz22_3); (try clear hfz27_0); (try clear hfz27_1); (try clear hfz27_2); (try clear hfz27_3); (try clear hfz50_0); (try clear hfz50_1); (try clear hfz50_2); (try clear hfz50_3); (try clear hfz5_0); (try clear hfz5_1); (try clear hfz5_2); (try clear hfz5_3); (try clear p2)
       obtain ⟨kq, x61_40, rfl, HA, HJ40, HO_4, HO_7, HO_295000, HO_295001, HO_295002, HO_295003, BK264, BK294, HB⟩ := hcut
       have hl295000_40 := (Kd.R_reads' HO_295000.out).1
       rw [hl295000_40] at HO_295000
       (try simp only [hl295000_40])
       (try simp only [hl295000_40] at BK264)
       (try simp only [hl295000_40] at BK294)
       (try simp only [hl295000_40] at HO_4)
       (try simp only [hl295000_40] at HO_7)
       (try simp only [hl295000_40] at HO_295001)
       (try simp only [hl295000_40] at HO_295002)
       (try simp only [hl295000_40] at HO_295003)
       have hl295001_40 := (Kd.R_reads' HO_295001.out).1
       rw [hl295001_40] at HO_295001
       (try simp only [hl295001_40])
       (try simp only [hl295001_40] at BK264)
       (try simp only [hl295001_40] at BK294)
       (try simp only [hl295001_40] at HO_4)
       (try simp only [hl295001_40] at HO_7)
       (try simp only [hl295001_40] at HO_295000)
       (try simp only [hl295001_40] at HO_295002)
       (try simp only [hl295001_40] at HO_295003)
       have hl295002_40 := (Kd.R_reads' HO_295002.out).1
       rw [hl295002_40] at HO_295002
       (try simp only [hl295002_40])
       (try simp only [hl295002_40] at BK264)
       (try simp only [hl295002_40] at BK294)
       (try simp only [hl295002_40] at HO_4)
       (try simp only [hl295002_40] at HO_7)
       (try simp only [hl295002_40] at HO_295000)
       (try simp only [hl295002_40] at HO_295001)
       (try simp only [hl295002_40] at HO_295003)
       have hl295003_40 := (Kd.R_reads' HO_295003.out).1
       rw [hl295003_40] at HO_295003
       (try simp only [hl295003_40])
       (try simp only [hl295003_40] at BK264)
       (try simp only [hl295003_40] at BK294)
       (try simp only [hl295003_40] at HO_4)
       (try simp only [hl295003_40] at HO_7)
       (try simp only [hl295003_40] at HO_295000)
       (try simp only [hl295003_40] at HO_295001)
       (try simp only [hl295003_40] at HO_295002)
       cases kq with
       | zero => exact absurd HA.out (by simp [laws_FnExactLifeGains.j1])
       | succ kj40 =>
        have H := HA.out
        clear HA
        simp only [laws_FnExactLifeGains.j1] at H
        by_cases c57 : x61_40 = true
        ·subst c57
         have H1 : (none) = some r := z7_29
         clear H
         have H := H1
         clear H1
         exact absurd H (by simp)
        ·replace c57 := Bool.eq_false_iff.mpr c57
         subst c57
         have H1 : ((laws_markIntS.f kj40 t295 1).bind fun bt319 => ((laws_heldIntS.f kj40 bt319.2 1).bind fun t321 => (if t321 < 0 then (none) else (if t321 = bt319.1 then ((laws_toCase.f kj40 l0_0 l0_1 l0_2 l0_3).bind fun bt322 => ((impl_LifeGains.f kj40 bt322.1 bt322.2.1 bt322.2.2.1 bt322.2.2.2).bind fun bt334 => ((laws_eqIntS.f kj40 bt334.1 t278).bind fun t338 => (if t338 = true then (laws_FnExactLifeGains.j2 kj40 bt319.2 bt319.1 (bt334.2 != t281)) else (none))))) else (none))))) = some r := z7_27
         clear H
         have H := H1
         clear H1
         replace H := Option.bind_eq_some_iff.mp H
         obtain ⟨⟨t319, t320⟩, A580, H⟩ := H
         (try dsimp only at H)
         have A58 := z7_A A580
         clear A580
         replace H := Option.bind_eq_some_iff.mp H
         obtain ⟨t321, A590, H⟩ := H
         (try dsimp only at H)
         have A59 := z7_A A590
         clear A590
         by_cases c60 : t321 < 0
         ·rw [if_pos c60] at H
          exact absurd H (by simp)
         ·rw [if_neg c60] at H
          have c60b0 : decide (t321 < 0) = false := decide_eq_false c60
          clear c60
          by_cases c61 : t321 = t319
          ·rw [if_pos c61] at H
           have c61b0 : (t321 == t319) = true := beq_iff_eq.mpr c61
           have c61b1 : (t321 != t319) = false := bne_eq_false_iff_eq.mpr c61
           clear c61
           replace H := Option.bind_eq_some_iff.mp H
           obtain ⟨⟨t322, t325, t328, t331⟩, A620, H⟩ := H
           (try dsimp only at H)
           have A62 := z7_A A620
           clear A620
           replace H := Option.bind_eq_some_iff.mp H
           obtain ⟨⟨t334, t337⟩, A630, H⟩ := H
           (try dsimp only at H)
           have A63 := z7_A A630
           clear A630
           have HC64 := z7_A H
           clear H
           obtain ⟨Ao65, co65, eo65⟩ := Kd.R_slice HO_7.out
           subst eo65
           go_upto_region 25 with (first | ((with_reducible refine gate_callee (f := 25) rfl ?_); refine goesL_ (some 64) rfl rfl Try.func25 z7_28 rfl #[.slice Ao65 t295.length co65, .int .i64 1] rfl z7_3 ?_; (with_reducible refine (laws_markIntS.calls kj40 (fun k_ => some k_ = (.slice Ao65 t295.length co65 : Value).ownBlock) (.slice Ao65 t295.length co65) t295 1 t319 t320 w _ ?side1 ?side2 A58.out).mono ?_); (case side1 => repeat (first | (with_reducible first | exact HB.out | apply below_alloc | apply pw_below_drewN | apply below_drew1 | refine below_set ?_ GE264.out | refine below_set ?_ GE294.out) | exact HB.out)); (case side2 => exact Kd.R_tight rfl HO_7.out); rintro e w66 ⟨rfl, hy0, hb, hkp⟩; refine ⟨_, rfl, ?_⟩; have n0_ := z7_A (Kd.R_mono (ok' := fun k_ => z7_S k_ Ao65 t295.length co65 ∧ z7_S k_ Ao25 t314.length co25 ∧ z7_S k_ Ao28 t315.length co28 ∧ z7_S k_ Ao29 t316.length co29 ∧ z7_S k_ Ao30 t317.length co30) (Kd.R_keptB (HO_4.out) hkp (fun k_ hk_ hs_ => (hk_.1) hs_)) (fun k_ hk_ => ⟨hk_.1.1, hk_.1.2.1, hk_.1.2.2.1, hk_.1.2.2.2.1, hk_.1.2.2.2.2⟩)); have n1_ := z7_A (Kd.R_reok rfl hy0 (fun k_ e_ => HO_7.out.1 k_ e_)); have n2_ := z7_A (Kd.R_mono (ok' := fun k_ => z7_V k_ v279 ∧ z7_S k_ Ao65 t295.length co65 ∧ z7_S k_ Ao28 t315.length co28 ∧ z7_S k_ Ao29 t316.length co29 ∧ z7_S k_ Ao30 t317.length co30) (Kd.R_keptB (HO_295000.out) hkp (fun k_ hk_ hs_ => (hk_.2.1) hs_)) (fun k_ hk_ => ⟨hk_.1.1, hk_.1.2.1, hk_.1.2.2.1, hk_.1.2.2.2.1, hk_.1.2.2.2.2⟩)); have n3_ := z7_A (Kd.R_mono (ok' := fun k_ => z7_V k_ v279 ∧ z7_S k_ Ao65 t295.length co65 ∧ z7_S k_ Ao25 t314.length co25 ∧ z7_S k_ Ao29 t316.length co29 ∧ z7_S k_ Ao30 t317.length co30) (Kd.R_keptB (HO_295001.out) hkp (fun k_ hk_ hs_ => (hk_.2.1) hs_)) (fun k_ hk_ => ⟨hk_.1.1, hk_.1.2.1, hk_.1.2.2.1, hk_.1.2.2.2.1, hk_.1.2.2.2.2⟩)); have n4_ := z7_A (Kd.R_mono (ok' := fun k_ => z7_V k_ v279 ∧ z7_S k_ Ao65 t295.length co65 ∧ z7_S k_ Ao25 t314.length co25 ∧ z7_S k_ Ao28 t315.length co28 ∧ z7_S k_ Ao30 t317.length co30) (Kd.R_keptB (HO_295002.out) hkp (fun k_ hk_ hs_ => (hk_.2.1) hs_)) (fun k_ hk_ => ⟨hk_.1.1, hk_.1.2.1, hk_.1.2.2.1, hk_.1.2.2.2.1, hk_.1.2.2.2.2⟩)); have n5_ := z7_A (Kd.R_mono (ok' := fun k_ => z7_V k_ v279 ∧ z7_S k_ Ao65 t295.length co65 ∧ z7_S k_ Ao25 t314.length co25 ∧ z7_S k_ Ao28 t315.length co28 ∧ z7_S k_ Ao29 t316.length co29) (Kd.R_keptB (HO_295003.out) hkp (fun k_ hk_ hs_ => (hk_.2.1) hs_)) (fun k_ hk_ => ⟨hk_.1.1, hk_.1.2.1, hk_.1.2.2.1, hk_.1.2.2.2.1, hk_.1.2.2.2.2⟩)); have n6_ := z7_A (blk_kept (g := gb264) (o := .cells #[.slice A0_0 l0_0.length c0_0, .slice A0_1 l0_1.length c0_1, .slice A0_2 l0_2.length c0_2, .slice A0_3 l0_3.length c0_3] 46 (0, 0)) z7_4 hkp (fun hs_ => (fun e_ => (Kd.R_ne HO_7.out BK264.out (by decide)) e_) hs_)); have n7_ := z7_A (blk_kept (g := gb294) (o := .cells #[.slice Ao25 t314.length co25, .slice Ao28 t315.length co28, .slice Ao29 t316.length co29, .slice Ao30 t317.length co30] 50 (0, 0)) z7_15 hkp (fun hs_ => (fun e_ => (Kd.R_ne HO_7.out BK294.out (by decide)) e_) hs_)); have n8_ := z7_A (hb); clear HO_4 HO_7 HO_295000 HO_295001 HO_295002 HO_295003 BK264 BK294 HB; revert n0_ n1_ n2_ n3_ n4_ n5_ n6_ n7_ n8_; intro HO_4 HO_7 HO_295000 HO_295001 HO_295002 HO_295003 BK264 BK294 HB; (try clear hb); (try clear hkp); (try clear hy0)) | ((with_reducible refine gate_callee (f := 26) rfl ?_); refine goesL_ (some 67) rfl rfl Try.func26 z7_28 rfl #[.slice Ao65 t320.length co65, .int .i64 1] rfl (by (try simp only [List.map_toArray, List.map_cons, List.map_nil]); first | done | (rw [show t320.length = t295.length from (Kd.R_reads' HO_7.out).1.symm] <;> rfl) | rfl | (simp only [List.length_drop, List.length_take]; rfl)) ?_; (with_reducible refine (laws_heldIntS.calls kj40 _ _ t320 1 t321 _ ?side1 ?side2 A59.out).mono ?_); (case side1 => have zh := (Kd.R_reads' HO_7.out).2.2; exact z7_C); (case side2 => rw [show t320.length = t295.length from (Kd.R_reads' HO_7.out).1.symm]; exact (Kd.R_reads' HO_7.out).2.1); rintro e w' ⟨rfl, ⟨nd, rfl⟩⟩; refine ⟨_, rfl, ?_⟩; have hnb67 := NB264_294.out; have hnc67 := NB294_264.out; have hcz68_0 : w66.cell? ⟨gb264, 0, none⟩ = some (.slice A0_0 l0_0.length c0_0) := (blk_cell BK264.out 0).trans rfl; have hcz68_1 : w66.cell? ⟨gb264, 1, none⟩ = some (.slice A0_1 l0_1.length c0_1) := (blk_cell BK264.out 1).trans rfl; have hcz68_2 : w66.cell? ⟨gb264, 2, none⟩ = some (.slice A0_2 l0_2.length c0_2) := (blk_cell BK264.out 2).trans rfl; have hcz68_3 : w66.cell? ⟨gb264, 3, none⟩ = some (.slice A0_3 l0_3.length c0_3) := (blk_cell BK264.out 3).trans rfl; have hfz68_0 := blk_frozen BK264.out 0; have hfz68_1 := blk_frozen BK264.out 1; have hfz68_2 := blk_frozen BK264.out 2; have hfz68_3 := blk_frozen BK264.out 3) | ((with_reducible refine gate_callee (f := 35) rfl ?_); refine goesL_ (some 75) rfl rfl Try.func35 z7_28 rfl #[.agg #[.slice A0_0 l0_0.length c0_0, .slice A0_1 l0_1.length c0_1, .slice A0_2 l0_2.length c0_2, .slice A0_3 l0_3.length c0_3]] rfl z7_3 ?_; (with_reducible refine (laws_toCase.calls kj40 _ _ l0_0 _ _ l0_1 _ _ l0_2 _ _ l0_3 t322 t325 t328 t331 _ ?side1 ?side2 ?side3 ?side4 ?side5 ?side6 ?side7 ?side8 A62.out).mono ?_); (case side1 => repeat (first | exact (Kd.C_below HR0_0.out z7_1) | (with_reducible refine Kd.C_alloc ?_ _) | (with_reducible refine Kd.C_drewN ?_ _) | (with_reducible refine Kd.C_drew ?_))); (case side2 => exact HC0_0.out); (case side3 => repeat (first | exact (Kd.C_below HR0_1.out z7_1) | (with_reducible refine Kd.C_alloc ?_ _) | (with_reducible refine Kd.C_drewN ?_ _) | (with_reducible refine Kd.C_drew ?_))); (case side4 => exact HC0_1.out); (case side5 => repeat (first | exact (Kd.C_below HR0_2.out z7_1) | (with_reducible refine Kd.C_alloc ?_ _) | (with_reducible refine Kd.C_drewN ?_ _) | (with_reducible refine Kd.C_drew ?_))); (case side6 => exact HC0_2.out); (case side7 => repeat (first | exact (Kd.C_below HR0_3.out z7_1) | (with_reducible refine Kd.C_alloc ?_ _) | (with_reducible refine Kd.C_drewN ?_ _) | (with_reducible refine Kd.C_drew ?_))); (case side8 => exact HC0_3.out); rintro e w69 ⟨v323, v326, v329, v332, rfl, ho0, ho1, ho2, ho3, hb⟩; refine ⟨_, rfl, ?_⟩; have n0_ := z7_A (Kd.R_mono (Kd.R_told (Kd.R_told (Kd.R_told (Kd.R_told (Kd.R_old z7_10 hb) (Kd.R_base ho0)) (Kd.R_base ho1)) (Kd.R_base ho2)) (Kd.R_base ho3)) (fun _ h_ => h_.1)); have n1_ := z7_A (Kd.R_mono (Kd.R_told (Kd.R_told (Kd.R_told (Kd.R_told (Kd.R_old z7_9 hb) (Kd.R_base ho0)) (Kd.R_base ho1)) (Kd.R_base ho2)) (Kd.R_base ho3)) (fun _ h_ => h_.1)); have n2_ := z7_A (Kd.R_mono (Kd.R_told (Kd.R_told (Kd.R_told (Kd.R_told (Kd.R_old z7_8 hb) (Kd.R_base ho0)) (Kd.R_base ho1)) (Kd.R_base ho2)) (Kd.R_base ho3)) (fun _ h_ => h_.1)); have n3_ := z7_A (Kd.R_mono (Kd.R_told (Kd.R_told (Kd.R_told (Kd.R_told (Kd.R_old z7_7 hb) (Kd.R_base ho0)) (Kd.R_base ho1)) (Kd.R_base ho2)) (Kd.R_base ho3)) (fun _ h_ => h_.1)); have n4_ := z7_A (Kd.R_mono (Kd.R_told (Kd.R_told (Kd.R_told (Kd.R_told (Kd.R_old z7_6 hb) (Kd.R_base ho0)) (Kd.R_base ho1)) (Kd.R_base ho2)) (Kd.R_base ho3)) (fun _ h_ => h_.1)); have n5_ := z7_A (Kd.R_mono (Kd.R_told (Kd.R_told (Kd.R_told (Kd.R_told (Kd.R_old z7_5 hb) (Kd.R_base ho0)) (Kd.R_base ho1)) (Kd.R_base ho2)) (Kd.R_base ho3)) (fun _ h_ => h_.1)); have n6_ := z7_A (Kd.R_lower (Kd.R_new' (Kd.R_new' (Kd.R_new' (Kd.R_new' (Kd.R_new' (Kd.R_new' ho0 (Kd.R_lt z7_10)) (Kd.R_lt z7_9)) (Kd.R_lt z7_8)) (Kd.R_lt z7_7)) (Kd.R_lt z7_6)) (Kd.R_lt z7_5)) (below_size z7_1)); have n7_ := z7_A (Kd.R_lower (Kd.R_new' (Kd.R_new' (Kd.R_new' (Kd.R_new' (Kd.R_new' (Kd.R_new' ho1 (Kd.R_lt z7_10)) (Kd.R_lt z7_9)) (Kd.R_lt z7_8)) (Kd.R_lt z7_7)) (Kd.R_lt z7_6)) (Kd.R_lt z7_5)) (below_size z7_1)); have n8_ := z7_A (Kd.R_lower (Kd.R_new' (Kd.R_new' (Kd.R_new' (Kd.R_new' (Kd.R_new' (Kd.R_new' ho2 (Kd.R_lt z7_10)) (Kd.R_lt z7_9)) (Kd.R_lt z7_8)) (Kd.R_lt z7_7)) (Kd.R_lt z7_6)) (Kd.R_lt z7_5)) (below_size z7_1)); have n9_ := z7_A (Kd.R_lower (Kd.R_new' (Kd.R_new' (Kd.R_new' (Kd.R_new' (Kd.R_new' (Kd.R_new' ho3 (Kd.R_lt z7_10)) (Kd.R_lt z7_9)) (Kd.R_lt z7_8)) (Kd.R_lt z7_7)) (Kd.R_lt z7_6)) (Kd.R_lt z7_5)) (below_size z7_1)); have n10_ := z7_A (blk_below (g := gb264) (o := .cells #[.slice A0_0 l0_0.length c0_0, .slice A0_1 l0_1.length c0_1, .slice A0_2 l0_2.length c0_2, .slice A0_3 l0_3.length c0_3] 46 (0, 0)) z7_4 hb); have n11_ := z7_A (blk_below (g := gb294) (o := .cells #[.slice Ao25 t314.length co25, .slice Ao28 t315.length co28, .slice Ao29 t316.length co29, .slice Ao30 t317.length co30] 50 (0, 0)) z7_15 hb); have n12_ := z7_A (below_step z7_1 hb); clear HO_4 HO_7 HO_295000 HO_295001 HO_295002 HO_295003 BK264 BK294 HB; revert n0_ n1_ n2_ n3_ n4_ n5_ n6_ n7_ n8_ n9_ n10_ n11_ n12_; intro HO_4 HO_7 HO_295000 HO_295001 HO_295002 HO_295003 HO324 HO327 HO330 HO333 BK264 BK294 HB; (try clear hb); (try clear hb2); (try clear hk); (try clear hi); (try clear ho0); (try clear ho1); (try clear ho2); (try clear ho3); obtain ⟨Ao70, co70, eo70⟩ := Kd.R_slice HO324.out; subst eo70; obtain ⟨Ao71, co71, eo71⟩ := Kd.R_slice HO327.out; subst eo71; obtain ⟨Ao72, co72, eo72⟩ := Kd.R_slice HO330.out; subst eo72; obtain ⟨Ao73, co73, eo73⟩ := Kd.R_slice HO333.out; subst eo73) | ((with_reducible refine gate_callee (f := 40) rfl ?_); refine goesL_ (some 76) rfl rfl Try.func40 z7_28 rfl #[.agg #[.slice Ao70 t322.length co70, .slice Ao71 t325.length co71, .slice Ao72 t328.length co72, .slice Ao73 t331.length co73]] rfl z7_3 ?_; (with_reducible refine (impl_LifeGains.calls kj40 _ _ t322 _ _ t325 _ _ t328 _ _ t331 t334 t337 _ ?side1 ?side2 ?side3 ?side4 ?side5 ?side6 ?side7 ?side8 A63.out).mono ?_); (case side1 => have zh := (Kd.R_reads' HO324.out).2.2; exact z7_C); (case side2 => exact (Kd.R_reads' HO324.out).2.1); (case side3 => have zh := (Kd.R_reads' HO327.out).2.2; exact z7_C); (case side4 => exact (Kd.R_reads' HO327.out).2.1); (case side5 => have zh := (Kd.R_reads' HO330.out).2.2; exact z7_C); (case side6 => exact (Kd.R_reads' HO330.out).2.1); (case side7 => have zh := (Kd.R_reads' HO333.out).2.2; exact z7_C); (case side8 => exact (Kd.R_reads' HO333.out).2.1); rintro e w74 ⟨v335, rfl, ho0, hb⟩; refine ⟨_, rfl, ?_⟩; have n0_ := z7_A (Kd.R_elder' z7_10 (Kd.R_base ho0) hb); have n1_ := z7_A (Kd.R_elder' z7_9 (Kd.R_base ho0) hb); have n2_ := z7_A (Kd.R_elder' z7_8 (Kd.R_base ho0) hb); have n3_ := z7_A (Kd.R_elder' z7_7 (Kd.R_base ho0) hb); have n4_ := z7_A (Kd.R_elder' z7_6 (Kd.R_base ho0) hb); have n5_ := z7_A (Kd.R_elder' z7_5 (Kd.R_base ho0) hb); have n6_ := z7_A (Kd.R_elder' z7_33 (Kd.R_base ho0) hb); have n7_ := z7_A (Kd.R_elder' z7_32 (Kd.R_base ho0) hb); have n8_ := z7_A (Kd.R_elder' z7_31 (Kd.R_base ho0) hb); have n9_ := z7_A (Kd.R_elder' z7_30 (Kd.R_base ho0) hb); have n10_ := z7_A (Kd.R_lower (Kd.R_new' (Kd.R_new' (Kd.R_new' (Kd.R_new' (Kd.R_new' (Kd.R_new' (Kd.R_new' (Kd.R_new' (Kd.R_new' (Kd.R_new' ho0 (Kd.R_lt z7_10)) (Kd.R_lt z7_9)) (Kd.R_lt z7_8)) (Kd.R_lt z7_7)) (Kd.R_lt z7_6)) (Kd.R_lt z7_5)) (Kd.R_lt z7_33)) (Kd.R_lt z7_32)) (Kd.R_lt z7_31)) (Kd.R_lt z7_30)) (below_size z7_1)); have n11_ := z7_A (blk_below (g := gb264) (o := .cells #[.slice A0_0 l0_0.length c0_0, .slice A0_1 l0_1.length c0_1, .slice A0_2 l0_2.length c0_2, .slice A0_3 l0_3.length c0_3] 46 (0, 0)) z7_4 hb); have n12_ := z7_A (blk_below (g := gb294) (o := .cells #[.slice Ao25 t314.length co25, .slice Ao28 t315.length co28, .slice Ao29 t316.length co29, .slice Ao30 t317.length co30] 50 (0, 0)) z7_15 hb); have n13_ := z7_A (below_step z7_1 hb); clear HO_4 HO_7 HO_295000 HO_295001 HO_295002 HO_295003 HO324 HO327 HO330 HO333 BK264 BK294 HB; revert n0_ n1_ n2_ n3_ n4_ n5_ n6_ n7_ n8_ n9_ n10_ n11_ n12_ n13_; intro HO_4 HO_7 HO_295000 HO_295001 HO_295002 HO_295003 HO324 HO327 HO330 HO333 HO336 BK264 BK294 HB; (try clear hb); (try clear hb2); (try clear hk); (try clear hi); (try clear ho0)))
           (try simp only [Act.put, List.setIfInBounds_toArray, List.set_cons_zero, List.set_cons_succ])
           go_cut [87] (fun v87 wc => ∃ (kq : Nat) (x87_63 : Bool), v87 = .bool x87_63 ∧ Aside0 (laws_FnExactLifeGains.j2 kq t320 t319 x87_63 = some r) ∧ Aside0 (kq ≤ kj40) ∧ Aside0 (Kd.R (Kd.int .i64) 3 wc w.heap.size (fun k_ => some k_ ≠ ((.slice Ao25 t314.length co25) : Value).ownBlock ∧ some k_ ≠ ((.slice Ao28 t315.length co28) : Value).ownBlock ∧ some k_ ≠ ((.slice Ao29 t316.length co29) : Value).ownBlock ∧ some k_ ≠ ((.slice Ao30 t317.length co30) : Value).ownBlock) (.slice Ao65 t295.length co65) t320) ∧ Aside0 (Kd.R (Kd.int .i64) 3 wc w.heap.size (fun k_ => some k_ ≠ ((.slice Ao65 t295.length co65) : Value).ownBlock ∧ some k_ ≠ ((.slice Ao28 t315.length co28) : Value).ownBlock ∧ some k_ ≠ ((.slice Ao29 t316.length co29) : Value).ownBlock ∧ some k_ ≠ ((.slice Ao30 t317.length co30) : Value).ownBlock) (.slice Ao25 t314.length co25) t314) ∧ Aside0 (Kd.R (Kd.int .i64) 3 wc w.heap.size (fun k_ => some k_ ≠ ((.slice Ao65 t295.length co65) : Value).ownBlock ∧ some k_ ≠ ((.slice Ao25 t314.length co25) : Value).ownBlock ∧ some k_ ≠ ((.slice Ao29 t316.length co29) : Value).ownBlock ∧ some k_ ≠ ((.slice Ao30 t317.length co30) : Value).ownBlock) (.slice Ao28 t315.length co28) t315) ∧ Aside0 (Kd.R (Kd.int .i64) 3 wc w.heap.size (fun k_ => some k_ ≠ ((.slice Ao65 t295.length co65) : Value).ownBlock ∧ some k_ ≠ ((.slice Ao25 t314.length co25) : Value).ownBlock ∧ some k_ ≠ ((.slice Ao28 t315.length co28) : Value).ownBlock ∧ some k_ ≠ ((.slice Ao30 t317.length co30) : Value).ownBlock) (.slice Ao29 t316.length co29) t316) ∧ Aside0 (Kd.R (Kd.int .i64) 3 wc w.heap.size (fun k_ => some k_ ≠ ((.slice Ao65 t295.length co65) : Value).ownBlock ∧ some k_ ≠ ((.slice Ao25 t314.length co25) : Value).ownBlock ∧ some k_ ≠ ((.slice Ao28 t315.length co28) : Value).ownBlock ∧ some k_ ≠ ((.slice Ao29 t316.length co29) : Value).ownBlock) (.slice Ao30 t317.length co30) t317) ∧ Aside0 (wc.heap[gb264]? = some (.cells #[(.slice A0_0 l0_0.length c0_0), (.slice A0_1 l0_1.length c0_1), (.slice A0_2 l0_2.length c0_2), (.slice A0_3 l0_3.length c0_3)] 46 (0, 0))) ∧ Aside0 (wc.heap[gb294]? = some (.cells #[(.slice Ao25 t314.length co25), (.slice Ao28 t315.length co28), (.slice Ao29 t316.length co29), (.slice Ao30 t317.length co30)] 50 (0, 0))) ∧ Aside0 (Below w.heap.size w wc))
           case first =>
            have H := HC64.out
            clear HC64
            replace H := Option.bind_eq_some_iff.mp H
            obtain ⟨t338, A750, H⟩ := H
            (try dsimp only at H)
            have A75 := z7_A A750
            clear A750
            by_cases c76 : t338 = true
            ·subst c76
             have H1 : (laws_FnExactLifeGains.j2 kj40 t320 t319 (t337 != t281)) = some r := z7_29
             clear H
             have H := H1
             clear H1
             have H' := z7_A H
             clear H
             obtain ⟨Ao77, co77, eo77⟩ := Kd.R_slice HO336.out
             subst eo77
             obtain ⟨Ao78, co78, eo78⟩ := Kd.R_slice HO_4.out
             subst eo78
             go_wp2_with (first | ((with_reducible refine gate_callee (f := 22) rfl ?_); refine goesL_ (some 81) rfl rfl Try.func22 z7_28 rfl #[.slice Ao77 t334.length co77, .slice Ao78 t278.length co78] rfl z7_3 ?_; (with_reducible refine (laws_eqIntS.calls kj40 _ _ t334 _ _ t278 true _ ?side1 ?side2 ?side3 ?side4 A75.out).mono ?_); (case side1 => have zh := (Kd.R_reads' HO336.out).2.2; exact z7_C); (case side2 => exact (Kd.R_reads' HO336.out).2.1); (case side3 => have zh := (Kd.R_reads' HO_4.out).2.2; exact z7_C); (case side4 => exact (Kd.R_reads' HO_4.out).2.1); rintro e w' ⟨rfl, ⟨nd, rfl⟩⟩; refine ⟨_, rfl, ?_⟩))
             go_meet
             case rel => exact ⟨_, ((t337 != t281)), z7_36, H', ⟨by have := HJ10.out; have := HJ40.out; first | omega | exact Nat.le_refl _⟩, ⟨by (try simp only [hl295000_40]); (try simp only [hl295001_40]); (try simp only [hl295002_40]); (try simp only [hl295003_40]); (with_reducible repeat (first | apply Kd.R_alloc | apply Kd.R_drewN | apply Kd.R_drew)); exact Kd.R_mono HO_7.out (fun _ hk => ⟨hk.1.1.1.1.1.2.1, ⟨hk.1.1.1.1.1.2.2.1, ⟨hk.1.1.1.1.1.2.2.2.1, hk.1.1.1.1.1.2.2.2.2⟩⟩⟩)⟩, ⟨by (try simp only [hl295000_40]); (try simp only [hl295001_40]); (try simp only [hl295002_40]); (try simp only [hl295003_40]); (with_reducible repeat (first | apply Kd.R_alloc | apply Kd.R_drewN | apply Kd.R_drew)); exact Kd.R_mono HO_295000.out (fun _ hk => ⟨hk.1.1.1.1.1.2.1, ⟨hk.1.1.1.1.1.2.2.1, ⟨hk.1.1.1.1.1.2.2.2.1, hk.1.1.1.1.1.2.2.2.2⟩⟩⟩)⟩, ⟨by (try simp only [hl295000_40]); (try simp only [hl295001_40]); (try simp only [hl295002_40]); (try simp only [hl295003_40]); (with_reducible repeat (first | apply Kd.R_alloc | apply Kd.R_drewN | apply Kd.R_drew)); exact Kd.R_mono HO_295001.out (fun _ hk => ⟨hk.1.1.1.1.1.2.1, ⟨hk.1.1.1.1.1.2.2.1, ⟨hk.1.1.1.1.1.2.2.2.1, hk.1.1.1.1.1.2.2.2.2⟩⟩⟩)⟩, ⟨by (try simp only [hl295000_40]); (try simp only [hl295001_40]); (try simp only [hl295002_40]); (try simp only [hl295003_40]); (with_reducible repeat (first | apply Kd.R_alloc | apply Kd.R_drewN | apply Kd.R_drew)); exact Kd.R_mono HO_295002.out (fun _ hk => ⟨hk.1.1.1.1.1.2.1, ⟨hk.1.1.1.1.1.2.2.1, ⟨hk.1.1.1.1.1.2.2.2.1, hk.1.1.1.1.1.2.2.2.2⟩⟩⟩)⟩, ⟨by (try simp only [hl295000_40]); (try simp only [hl295001_40]); (try simp only [hl295002_40]); (try simp only [hl295003_40]); (with_reducible repeat (first | apply Kd.R_alloc | apply Kd.R_drewN | apply Kd.R_drew)); exact Kd.R_mono HO_295003.out (fun _ hk => ⟨hk.1.1.1.1.1.2.1, ⟨hk.1.1.1.1.1.2.2.1, ⟨hk.1.1.1.1.1.2.2.2.1, hk.1.1.1.1.1.2.2.2.2⟩⟩⟩)⟩, ⟨by (try simp only [hl295000_40]); (try simp only [hl295001_40]); (try simp only [hl295002_40]); (try simp only [hl295003_40]); (with_reducible repeat (first | refine blk_drewN ?_ _ | refine blk_drew ?_ | refine blk_alloc ?_ _)); exact BK264.out⟩, ⟨by (try simp only [hl295000_40]); (try simp only [hl295001_40]); (try simp only [hl295002_40]); (try simp only [hl295003_40]); (with_reducible repeat (first | refine blk_drewN ?_ _ | refine blk_drew ?_ | refine blk_alloc ?_ _)); exact BK294.out⟩, ⟨z7_1⟩⟩
            ·replace c76 := Bool.eq_false_iff.mpr c76
             subst c76
             have H1 : (none) = some r := z7_27
             clear H
             have H := H1
             clear H1
             exact absurd H (by simp)
           case rest =>
            clear HC64
            (try clear c6); (try clear c7); (try clear c25); (try clear c57); (try clear c60); (try clear c60b0); (try clear c61); (try clear c61b0); (try clear c61b1); (try clear c67); (try clear c76); (try clear hcz68_0); (try clear hcz68_1); (try clear hcz68_2); (try clear hcz68_3); (try clear hfz68_0); (try clear hfz68_1); (try clear hfz68_2); (try clear hfz68_3)
            obtain ⟨kq, x87_63, rfl, HA, HJ63, HO_7, HO_295000, HO_295001, HO_295002, HO_295003, BK264, BK294, HB⟩ := hcut
            have hl7_63 := (Kd.R_reads' HO_7.out).1
            rw [hl7_63] at HO_7
            (try simp only [hl7_63])
            (try simp only [hl7_63] at BK264)
            (try simp only [hl7_63] at BK294)
            (try simp only [hl7_63] at HO_295000)
            (try simp only [hl7_63] at HO_295001)
            (try simp only [hl7_63] at HO_295002)
            (try simp only [hl7_63] at HO_295003)
            cases kq with
            | zero => exact absurd HA.out (by simp [laws_FnExactLifeGains.j2])
            | succ kj63 =>
             have H := HA.out
             clear HA
             simp only [laws_FnExactLifeGains.j2] at H
             by_cases c79 : x87_63 = true
             ·subst c79
              have H1 : (none) = some r := z7_29
              clear H
              have H := H1
              clear H1
              exact absurd H (by simp)
             ·replace c79 := Bool.eq_false_iff.mpr c79
              subst c79
              have H1 : ((laws_heldIntS.f kj63 t320 1).bind fun t339 => (if t339 < 0 then (none) else (if t339 = t319 then (some true) else (none)))) = some r := z7_27
              clear H
              have H := H1
              clear H1
              replace H := Option.bind_eq_some_iff.mp H
              obtain ⟨t339, A800, H⟩ := H
              (try dsimp only at H)
              have A80 := z7_A A800
              clear A800
              by_cases c81 : t339 < 0
              ·rw [if_pos c81] at H
               exact absurd H (by simp)
              ·rw [if_neg c81] at H
               have c81b0 : decide (t339 < 0) = false := decide_eq_false c81
               clear c81
               by_cases c82 : t339 = t319
               ·rw [if_pos c82] at H
                have c82b0 : (t339 == t319) = true := beq_iff_eq.mpr c82
                have c82b1 : (t339 != t319) = false := bne_eq_false_iff_eq.mpr c82
                clear c82
                obtain rfl := Option.some.inj H
                go_wp2_with (first | ((with_reducible refine gate_callee (f := 26) rfl ?_); refine goesL_ (some 90) rfl rfl Try.func26 z7_28 rfl #[.slice Ao65 t320.length co65, .int .i64 1] rfl z7_3 ?_; (with_reducible refine (laws_heldIntS.calls kj63 _ _ t320 1 t339 _ ?side1 ?side2 A80.out).mono ?_); (case side1 => have zh := (Kd.R_reads' HO_7.out).2.2; exact z7_C); (case side2 => exact (Kd.R_reads' HO_7.out).2.1); rintro e w' ⟨rfl, ⟨nd, rfl⟩⟩; refine ⟨_, rfl, ?_⟩))
                go_ret
                exact ⟨z7_35, z7_1⟩
               ·rw [if_neg c82] at H
                exact absurd H (by simp)
          ·rw [if_neg c61] at H
           exact absurd H (by simp)
     ·replace c39 := Bool.eq_false_iff.mpr c39
      subst c39
      have H1 : (none) = some r := z7_27
      clear H
      have H := H1
      clear H1
      exact absurd H (by simp)

end Go.Proofs.Ytgkjnhajomjhcaa.PFnExactLifeGains
