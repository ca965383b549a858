-- A text of this session (its program hook.py, over the kit's print.py): not a print of print.sh
-- THIN: one blank for two
import Derived.Test.YtfgclhojgaaepaaPFnExactRunRulex0
import Derived.Test.YtfgclhojgaaepaaPFnExactRunRulex1
import Derived.Test.YtfgclhojgaaepaaPFnExactRunRulex4
import Derived.Test.YtfgclhojgaaepaaPFnExactRunRulex7
namespace Go.Proofs.Ytfgclhojgaaepaa.PFnExactRunRule
open Go.RowKit Go.Proofs.YtfgclhojgaaepaaW.PrintWords Go.Proofs.YtfgclhojgaaepaaW.PrintLast Go.Proofs.YtfgclhojgaaepaaW.PrintMore
attribute [local go_sem] max2_int min2_int max_two min_two max_three min_three max_four min_four   -- for this text's walks alone
set_option linter.unusedVariables false
set_option linter.unusedSimpArgs false

-- SQUEEZED
abbrev z8_S (k : Nat) (A : Option Addr) (n c : Nat) : Prop := some k ≠ (.slice A n c : Value).ownBlock
abbrev z8_V (k : Nat) (v : Value) : Prop := some k ≠ v.ownBlock
theorem z8_A {p : Prop} (h : p) : Aside0 p := Aside0.mk h
theorem z8_C {p : Prop} (h : p := by repeat (first | exact zh | (with_reducible refine Kd.C_alloc ?_ _) | (with_reducible refine Kd.C_drewN ?_ _) | (with_reducible refine Kd.C_drew ?_))) : p := h
theorem z8_1 {p : Prop} (h : p := by repeat (first | (with_reducible first | exact HB.out | apply below_alloc | apply pw_below_drewN | apply below_drew1 | refine below_set ?_ GE299.out | refine below_set ?_ GE300.out | refine below_set ?_ GE323.out) | exact HB.out)) : p := h
theorem z8_2 {p : Prop} (h : p := by (try simp only [List.map_toArray, List.map_cons, List.map_nil]); first | done | rfl | (simp only [List.length_drop, List.length_take]; rfl)) : p := h
theorem z8_3 {p : Prop} (h : p := by (with_reducible repeat (first | refine blk_drewN ?_ _ | refine blk_drew ?_ | refine blk_alloc ?_ _)); exact BK299.out) : p := h
theorem z8_4 {p : Prop} (h : p := by (with_reducible repeat (first | refine blk_drewN ?_ _ | refine blk_drew ?_ | refine blk_alloc ?_ _)); exact BK300.out) : p := h
theorem z8_5 {p : Prop} (h : p := by (with_reducible repeat (first | refine blk_drewN ?_ _ | refine blk_drew ?_ | refine blk_alloc ?_ _)); exact BK323.out) : p := h
theorem z8_6 {p : Prop} (h : p := by repeat (first | (with_reducible first | exact HB.out | apply below_alloc | apply pw_below_drewN | apply below_drew1 | refine below_set ?_ GE299.out | refine below_set ?_ GE300.out) | exact HB.out)) : p := h
theorem z8_7 {p : Prop} (h : p := by (with_reducible repeat (first | apply Kd.Q_alloc | apply Kd.Q_drewN | apply Kd.Q_drew)); exact HO_324001.out) : p := h
theorem z8_8 {p : Prop} (h : p := by (with_reducible repeat (first | apply Kd.Q_alloc | apply Kd.Q_drewN | apply Kd.Q_drew)); exact HO_14.out) : p := h
theorem z8_9 {p : Prop} (h : p := by (with_reducible repeat (first | apply Kd.Q_alloc | apply Kd.Q_drewN | apply Kd.Q_drew)); exact HO_13.out) : p := h
theorem z8_10 {p : Prop} (h : p := by (with_reducible repeat (first | apply Kd.R_alloc | apply Kd.R_drewN | apply Kd.R_drew)); exact HO_9.out) : p := h
theorem z8_11 {p : Prop} (h : p := by (with_reducible repeat (first | apply Kd.R_alloc | apply Kd.R_drewN | apply Kd.R_drew)); exact HO_8.out) : p := h
theorem z8_12 {p : Prop} (h : p := by kernel_rfl) : p := h
theorem z8_13 {p : Prop} (h : p := by repeat (first | (with_reducible first | exact HB.out | apply below_alloc | apply pw_below_drewN | apply below_drew1 | refine below_set ?_ GE299.out) | exact HB.out)) : p := h
theorem z8_14 {p : Prop} (h : p := by (with_reducible repeat (first | apply Kd.R_alloc | apply Kd.R_drewN | apply Kd.R_drew)); exact HO_12.out) : p := h
theorem z8_15 {p : Prop} (h : p := by (with_reducible repeat (first | apply Kd.R_alloc | apply Kd.R_drewN | apply Kd.R_drew)); exact HO305.out) : p := h
theorem z8_16 {p : Prop} (h : p := by first | rfl | (simp [errW_none, errW_some] <;> rfl) | (simp [*, errW_none, errW_some] <;> rfl)) : p := h
theorem z8_17 {p : Prop} (h : p := by repeat (first | (with_reducible first | exact HB.out | apply below_alloc | apply pw_below_drewN | apply below_drew1) | exact HB.out)) : p := h
theorem z8_18 {p : Prop} (h : p := by (with_reducible repeat (first | apply Kd.R_alloc | apply Kd.R_drewN | apply Kd.R_drew)); exact HO311.out) : p := h
theorem z8_19 {p : Prop} (h : p := by (try simp only [List.map_toArray, List.map_cons, List.map_nil]); first | done | (rw [show t355.length = t330.length from (Kd.Q_reads' HO_13.out).1.symm] <;> rfl) | rfl | (simp only [List.length_drop, List.length_take]; rfl)) : p := h
theorem z8_20 {p : Prop} (h : p := by (with_reducible repeat (first | apply Kd.R_alloc | apply Kd.R_drewN | apply Kd.R_drew)); exact HO342.out) : p := h
theorem z8_21 {p : Prop} (h : p := by (with_reducible repeat (first | apply Kd.R_alloc | apply Kd.R_drewN | apply Kd.R_drew)); exact HO317.out) : p := h
theorem z8_22 {p : Prop} (h : p := by (with_reducible repeat (first | apply Kd.R_alloc | apply Kd.R_drewN | apply Kd.R_drew)); exact HO314.out) : p := h
theorem z8_23 {p : Prop} (h : p := by rw [if_neg (show ¬ (false = true) by decide)] at H; exact H) : p := h
theorem z8_24 {p : Prop} (h : p := by (with_reducible repeat (first | apply Kd.Q_alloc | apply Kd.Q_drewN | apply Kd.Q_drew)); exact Kd.Q_mono HO_324001.out (fun _ hk => ⟨hk.1, ⟨hk.2.1, ⟨hk.2.2.2.1, hk.2.2.2.2.1⟩⟩⟩)) : p := h
theorem z8_25 {p : Prop} (h : p := by (with_reducible repeat (first | apply Kd.R_alloc | apply Kd.R_drewN | apply Kd.R_drew)); exact Kd.R_mono HO_9.out (fun _ hk => ⟨hk.1, ⟨hk.2.2.1, ⟨hk.2.2.2.1, hk.2.2.2.2.1⟩⟩⟩)) : p := h
theorem z8_26 {p : Prop} (h : p := by (with_reducible repeat (first | apply Kd.R_alloc | apply Kd.R_drewN | apply Kd.R_drew)); exact Kd.R_mono HO_8.out (fun _ hk => ⟨hk.1, ⟨hk.2.2.1, ⟨hk.2.2.2.1, hk.2.2.2.2.1⟩⟩⟩)) : p := h
theorem z8_27 {p : Prop} (h : p := by (with_reducible repeat (first | apply Kd.R_alloc | apply Kd.R_drewN | apply Kd.R_drew)); exact HO363.out) : p := h
theorem z8_28 {p : Prop} (h : p := by (with_reducible repeat (first | apply Kd.Q_alloc | apply Kd.Q_drewN | apply Kd.Q_drew)); exact Kd.Q_mono HO_14.out (fun _ hk => ⟨hk.1, ⟨hk.2.1, ⟨hk.2.2.2.1, hk.2.2.2.2.1⟩⟩⟩)) : p := h
theorem z8_29 {p : Prop} (h : p := by (with_reducible repeat (first | apply Kd.Q_alloc | apply Kd.Q_drewN | apply Kd.Q_drew)); exact Kd.Q_mono HO_13.out (fun _ hk => ⟨hk.1, ⟨hk.2.1, ⟨hk.2.2.2.1, hk.2.2.2.2.1⟩⟩⟩)) : p := h
theorem z8_30 {p : Prop} (h : p := by (try simp only [List.map_toArray, List.map_cons, List.map_nil]); first | done | (rw [show t357.length = t333.length from (Kd.Q_reads' HO_14.out).1.symm] <;> rfl) | rfl | (simp only [List.length_drop, List.length_take]; rfl)) : p := h
theorem z8_31 {p : Prop} (h : p := by (with_reducible repeat (first | apply Kd.R_alloc | apply Kd.R_drewN | apply Kd.R_drew)); exact HO322.out) : p := h
theorem z8_32 {p : Prop} (h : p := by first | rfl | (simp; done) | (simp [*]; done)) : p := h
theorem z8_33 {p : Prop} (h : p := by (try simp only [hl324001_69]); (with_reducible repeat (first | apply Kd.Q_alloc | apply Kd.Q_drewN | apply Kd.Q_drew)); exact Kd.Q_mono HO_324001.out (fun _ hk => ⟨hk.1.1.1.1.2.2.1, hk.1.1.1.1.2.2.2⟩)) : p := h
theorem z8_34 {p : Prop} (h : p := by (try simp only [hl324001_69]); (with_reducible repeat (first | apply Kd.Q_alloc | apply Kd.Q_drewN | apply Kd.Q_drew)); exact Kd.Q_mono HO_14.out (fun _ hk => ⟨hk.1.1.1.1.2.2.1, hk.1.1.1.1.2.2.2⟩)) : p := h
theorem z8_35 {p : Prop} (h : p := by (try simp only [hl324001_69]); (with_reducible repeat (first | apply Kd.Q_alloc | apply Kd.Q_drewN | apply Kd.Q_drew)); exact Kd.Q_mono HO_13.out (fun _ hk => ⟨hk.1.1.1.1.2.2.1, hk.1.1.1.1.2.2.2⟩)) : p := h
theorem z8_36 {p : Prop} (h : p := by decide) : p := h
theorem z8_37 {p : Prop} (h : p := by (with_reducible repeat (first | apply Kd.R_alloc | apply Kd.R_drewN | apply Kd.R_drew)); exact Kd.R_mono HO335.out (fun _ hk => ⟨hk.1.1.1.2, ⟨hk.1.1.2, ⟨hk.2, ⟨hk.1.1.1.1.1.1, hk.1.2⟩⟩⟩⟩)) : p := h
theorem z8_38 {p : Prop} (h : p := by (with_reducible repeat (first | apply Kd.R_alloc | apply Kd.R_drewN | apply Kd.R_drew)); exact Kd.R_mono HO332.out (fun _ hk => ⟨hk.1.1.1.2, ⟨hk.1.1.2, ⟨hk.2, ⟨hk.1.1.1.1.1.1, hk.1.2⟩⟩⟩⟩)) : p := h
theorem z8_39 {p : Prop} (h : p := by (with_reducible repeat (first | apply Kd.R_alloc | apply Kd.R_drewN | apply Kd.R_drew)); exact Kd.R_mono HO317.out (fun _ hk => ⟨hk.1.1.1.1.1.1, ⟨hk.1.1.2, ⟨hk.1.2, ⟨hk.2, hk.1.1.1.2⟩⟩⟩⟩)) : p := h
theorem z8_40 {p : Prop} (h : p := by (with_reducible repeat (first | apply Kd.R_alloc | apply Kd.R_drewN | apply Kd.R_drew)); exact Kd.R_mono HO314.out (fun _ hk => ⟨hk.1.1.1.1.1.1, ⟨hk.1.1.2, ⟨hk.1.2, ⟨hk.2, hk.1.1.1.2⟩⟩⟩⟩)) : p := h
theorem z8_41 {p : Prop} (h : p := by rw [hg]; exact Nat.ne_of_lt (blk_lt (g := gb299) (o := .cells #[.int .i64 a0_0, .slice A0_1 l0_1.length c0_1] 24 (0, 0)) z8_3)) : p := h
theorem z8_42 {p : Prop} (h : p := by rw [hg]; exact Nat.ne_of_gt (blk_lt (g := gb299) (o := .cells #[.int .i64 a0_0, .slice A0_1 l0_1.length c0_1] 24 (0, 0)) z8_3)) : p := h
theorem z8_43 {p : Prop} (h : p := by (with_reducible repeat (first | apply Kd.R_alloc | apply Kd.R_drewN | apply Kd.R_drew)); exact Kd.R_mono HO326.out (fun _ hk => ⟨hk.1.1.1.1.2, ⟨hk.1.1.1.2, ⟨hk.1.2, ⟨hk.2, hk.1.1.2⟩⟩⟩⟩)) : p := h
theorem z8_44 {p : Prop} (h : p := by (with_reducible repeat (first | apply Kd.R_alloc | apply Kd.R_drewN | apply Kd.R_drew)); exact Kd.R_mono HO322.out (fun _ hk => ⟨hk.1.1.1.1.2, ⟨hk.1.1.1.2, ⟨hk.1.1.2, ⟨hk.1.2, hk.2⟩⟩⟩⟩)) : p := h
theorem z8_45 {p : Prop} (h : p := by (with_reducible repeat (first | apply Kd.R_alloc | apply Kd.R_drewN | apply Kd.R_drew)); exact (Kd.R_mono (Kd.R_far (p := ⟨gb323, 1, none⟩) (Kd.R_far (p := ⟨gb323, 0, none⟩) (Kd.R_types HO322.out BK323.out z8_36) (fun _ hk => hk.2) (.int .i64 t319)) (fun _ hk => hk.2) (.slice Ao41 t320.length co41)) (fun _ h_ => h_.1))) : p := h
theorem z8_46 {p : Prop} (h : p := by (with_reducible repeat (first | apply Kd.R_alloc | apply Kd.R_drewN | apply Kd.R_drew)); exact (Kd.R_mono (Kd.R_far (p := ⟨gb323, 1, none⟩) (Kd.R_far (p := ⟨gb323, 0, none⟩) (Kd.R_types HO317.out BK323.out z8_36) (fun _ hk => hk.2) (.int .i64 t319)) (fun _ hk => hk.2) (.slice Ao41 t320.length co41)) (fun _ h_ => h_.1))) : p := h
theorem z8_47 {p : Prop} (h : p := by (with_reducible repeat (first | apply Kd.R_alloc | apply Kd.R_drewN | apply Kd.R_drew)); exact (Kd.R_mono (Kd.R_far (p := ⟨gb323, 1, none⟩) (Kd.R_far (p := ⟨gb323, 0, none⟩) (Kd.R_types HO314.out BK323.out z8_36) (fun _ hk => hk.2) (.int .i64 t319)) (fun _ hk => hk.2) (.slice Ao41 t320.length co41)) (fun _ h_ => h_.1))) : p := h
theorem z8_48 {p : Prop} (h : p := by (with_reducible repeat (first | apply Kd.R_alloc | apply Kd.R_drewN | apply Kd.R_drew)); exact (Kd.R_mono (Kd.R_far (p := ⟨gb323, 1, none⟩) (Kd.R_far (p := ⟨gb323, 0, none⟩) (Kd.R_types HO311.out BK323.out z8_36) (fun _ hk => hk.2) (.int .i64 t319)) (fun _ hk => hk.2) (.slice Ao41 t320.length co41)) (fun _ h_ => h_.1))) : p := h
theorem z8_49 {p : Prop} (h : p := by (with_reducible repeat (first | apply Kd.R_alloc | apply Kd.R_drewN | apply Kd.R_drew)); exact (Kd.R_mono (Kd.R_far (p := ⟨gb323, 1, none⟩) (Kd.R_far (p := ⟨gb323, 0, none⟩) (Kd.R_types HO305.out BK323.out z8_36) (fun _ hk => hk.2) (.int .i64 t319)) (fun _ hk => hk.2) (.slice Ao41 t320.length co41)) (fun _ h_ => h_.1))) : p := h
theorem z8_50 {p : Prop} (h : p := by (with_reducible repeat (first | apply Kd.R_alloc | apply Kd.R_drewN | apply Kd.R_drew)); exact HO326.out) : p := h
theorem z8_51 {p : Prop} (h : p := by rw [if_pos rfl] at H; exact H) : p := h
theorem z8_52 {p : Prop} (h : p := by (try simp only [hl324001_69]); (with_reducible repeat (first | refine blk_drewN ?_ _ | refine blk_drew ?_ | refine blk_alloc ?_ _)); exact BK323.out) : p := h
theorem z8_53 {p : Prop} (h : p := by (try simp only [hl324001_69]); (with_reducible repeat (first | refine blk_drewN ?_ _ | refine blk_drew ?_ | refine blk_alloc ?_ _)); exact BK300.out) : p := h
theorem z8_54 {p : Prop} (h : p := by (try simp only [hl324001_69]); (with_reducible repeat (first | refine blk_drewN ?_ _ | refine blk_drew ?_ | refine blk_alloc ?_ _)); exact BK299.out) : p := h
theorem z8_55 {p : Prop} (h : p := by rfl) : p := h
theorem z8_56 {p : Prop} (h : p := by (with_reducible repeat (first | apply Kd.R_alloc | apply Kd.R_drewN | apply Kd.R_drew)); exact HO369.out) : p := h
theorem z8_57 {p : Prop} (h : p := by have := HJ21.out; first | omega | exact Nat.le_refl _) : p := h
theorem z8_58 {p : Prop} (h : p := by rw [hg]; exact (below_size z8_17)) : p := h
theorem z8_59 {p : Prop} (h : p := by rw [hg]; exact (below_size z8_13)) : p := h
theorem z8_60 {p : Prop} (h : p := by have := HJ21.out; have := HJ69.out; first | omega | exact Nat.le_refl _) : p := h

/-! ### laws_FnExactRunRule: function 4 -/
mutual
def laws_FnExactRunRule.j0 : Nat → List Int → List Int → List Int → Bool → List Int → List Int → List Int → Bool → Bool → Int → List Int → Int → Int → Int → Int → List Int → Option (Bool)
 | 0, _, _, _, _, _, _, _, _, _, _, _, _, _, _, _, _ => none
 | k + 1, x2, x8, x9, x10, x12, x13, x14, x15, x68, x300000, x300001, x301000, x301001, x301002, x324000, x324001 => if x68 = true then (some false) else ((laws_toFlow.f k x300000 x300001).bind fun bt339 => ((laws_eqFlow.f k x324000 x324001 bt339.1 bt339.2).bind fun t343 => (if t343 = true then ((laws_toIntS.f k x2).bind fun t344 => ((laws_eqIntS.f k x12 t344).bind fun t347 => (if t347 = true then ((laws_markFlow.f k x324000 x324001 1).bind fun bt348 => ((laws_markIntS.f k x12 bt348.1).bind fun bt350 => (if bt350.1 < 0 then (laws_FnExactRunRule.j1 k x2 x8 x9 x10 x13 x14 true x300000 x300001 x301000 x301001 x301002) else ((laws_eqIntS.f k x13 x8).bind fun t352 => (if t352 = true then ((laws_eqIntS.f k x14 x9).bind fun t353 => (if t353 = true then (laws_FnExactRunRule.j1 k x2 x8 x9 x10 x13 x14 (x15 != x10) x300000 x300001 x301000 x301001 x301002) else (laws_FnExactRunRule.j1 k x2 x8 x9 x10 x13 x14 true x300000 x300001 x301000 x301001 x301002))) else (laws_FnExactRunRule.j1 k x2 x8 x9 x10 x13 x14 true x300000 x300001 x301000 x301001 x301002)))))) else (some false)))) else (some false))))
def laws_FnExactRunRule.j1 : Nat → List Int → List Int → List Int → Bool → List Int → List Int → Bool → Int → List Int → Int → Int → Int → Option (Bool)
 | 0, _, _, _, _, _, _, _, _, _, _, _, _ => none
 | k + 1, x2, x8, x9, x10, x13, x14, x103, x300000, x300001, x301000, x301001, x301002 => if x103 = true then (some false) else ((laws_markIntS.f k x13 1).bind fun bt354 => ((laws_markIntS.f k x14 bt354.1).bind fun bt356 => ((laws_heldIntS.f k bt354.2 1).bind fun t358 => (if t358 < 0 then (some false) else ((laws_heldIntS.f k bt356.2 t358).bind fun t359 => (if t359 < 0 then (some false) else (if t359 = bt356.1 then ((laws_toFlow.f k x300000 x300001).bind fun bt360 => ((laws_toRule.f x301000 x301001 x301002).bind fun bt364 => ((laws_toIntS.f k x2).bind fun t367 => ((impl_RunRule.f k bt360.1 bt360.2 bt364.1 bt364.2.1 bt364.2.2 t367).bind fun bt370 => ((laws_eqIntS.f k bt370.1 x8).bind fun t377 => (if t377 = true then ((laws_eqIntS.f k bt370.2.1 x9).bind fun t378 => (if t378 = true then (laws_FnExactRunRule.j2 k bt354.2 bt356.2 bt356.1 (bt370.2.2 != x10)) else (laws_FnExactRunRule.j2 k bt354.2 bt356.2 bt356.1 true))) else (laws_FnExactRunRule.j2 k bt354.2 bt356.2 bt356.1 true))))))) else (some false))))))))
def laws_FnExactRunRule.j2 : Nat → List Int → List Int → Int → Bool → Option (Bool)
 | 0, _, _, _, _ => none
 | k + 1, x13, x14, x17, x148 => if x148 = true then (some false) else ((laws_heldIntS.f k x13 1).bind fun t379 => (if t379 < 0 then (some false) else ((laws_heldIntS.f k x14 t379).bind fun t380 => (if t380 < 0 then (some false) else (if t380 = x17 then (some true) else (some false))))))
end
def laws_FnExactRunRule.f (k : Nat) (a0_0 : Int) (l0_1 : List Int) (a1_0 : Int) (a1_1 : Int) (a1_2 : Int) (l2 : List Int) : Option (Bool) := if (l2.length : Int) > 1048576 then (some true) else ((laws_szFlow.f a0_0 l0_1 1048576).bind fun t301 => (if t301 < 0 then (some true) else ((laws_toFlow.f k a0_0 l0_1).bind fun bt302 => ((laws_toRule.f a1_0 a1_1 a1_2).bind fun bt306 => ((laws_toIntS.f k l2).bind fun t309 => ((spec_RunRule.f k bt302.1 bt302.2 bt306.1 bt306.2.1 bt306.2.2 t309).bind fun bt312 => ((laws_toFlow.f k a0_0 l0_1).bind fun bt319 => ((laws_toIntS.f k l2).bind fun t324 => ((laws_toRule.f a1_0 a1_1 a1_2).bind fun bt327 => ((impl_RunRule.f k bt319.1 bt319.2 bt327.1 bt327.2.1 bt327.2.2 t324).bind fun bt330 => ((laws_eqIntS.f k bt330.1 bt312.1).bind fun t337 => (if t337 = true then ((laws_eqIntS.f k bt330.2.1 bt312.2.1).bind fun t338 => (if t338 = true then (laws_FnExactRunRule.j0 k l2 bt312.1 bt312.2.1 bt312.2.2 t324 bt330.1 bt330.2.1 bt330.2.2 (bt330.2.2 != bt312.2.2) a0_0 l0_1 a1_0 a1_1 a1_2 bt319.1 bt319.2) else (laws_FnExactRunRule.j0 k l2 bt312.1 bt312.2.1 bt312.2.2 t324 bt330.1 bt330.2.1 bt330.2.2 true a0_0 l0_1 a1_0 a1_1 a1_2 bt319.1 bt319.2))) else (laws_FnExactRunRule.j0 k l2 bt312.1 bt312.2.1 bt312.2.2 t324 bt330.1 bt330.2.1 bt330.2.2 true a0_0 l0_1 a1_0 a1_1 a1_2 bt319.1 bt319.2)))))))))))))
theorem laws_FnExactRunRule.mono_l : ∀ k, (∀ y0 y1 y2 y3 y4 y5 y6 y7 y8 y9 y10 y11 y12 y13 y14 y15, LeO (laws_FnExactRunRule.j0 k y0 y1 y2 y3 y4 y5 y6 y7 y8 y9 y10 y11 y12 y13 y14 y15) (laws_FnExactRunRule.j0 (k + 1) y0 y1 y2 y3 y4 y5 y6 y7 y8 y9 y10 y11 y12 y13 y14 y15)) ∧ (∀ y0 y1 y2 y3 y4 y5 y6 y7 y8 y9 y10 y11, LeO (laws_FnExactRunRule.j1 k y0 y1 y2 y3 y4 y5 y6 y7 y8 y9 y10 y11) (laws_FnExactRunRule.j1 (k + 1) y0 y1 y2 y3 y4 y5 y6 y7 y8 y9 y10 y11)) ∧ (∀ y0 y1 y2 y3, LeO (laws_FnExactRunRule.j2 k y0 y1 y2 y3) (laws_FnExactRunRule.j2 (k + 1) y0 y1 y2 y3))
 | 0 => ⟨fun _ _ _ _ _ _ _ _ _ _ _ _ _ _ _ _ r h => by simp [laws_FnExactRunRule.j0] at h, fun _ _ _ _ _ _ _ _ _ _ _ _ r h => by simp [laws_FnExactRunRule.j1] at h, fun _ _ _ _ r h => by simp [laws_FnExactRunRule.j2] at h⟩
 | k + 1 => by
  obtain ⟨ih0, ih1, ih2⟩ := laws_FnExactRunRule.mono_l k
  refine ⟨?_, ?_, ?_⟩
  ·intro y0 y1 y2 y3 y4 y5 y6 y7 y8 y9 y10 y11 y12 y13 y14 y15
   unfold laws_FnExactRunRule.j0
   repeat' first
   | (with_reducible exact ih0 _ _ _ _ _ _ _ _ _ _ _ _ _ _ _ _)
   | (with_reducible exact ih1 _ _ _ _ _ _ _ _ _ _ _ _)
   | (with_reducible exact ih2 _ _ _ _)
   | (with_reducible exact impl_RunRule.mono _ _ _ _ _ _ _)
   | (with_reducible exact laws_eqFlow.mono _ _ _ _ _)
   | (with_reducible exact laws_eqIntS.mono _ _ _)
   | (with_reducible exact laws_heldIntS.mono _ _ _)
   | (with_reducible exact laws_markFlow.mono _ _ _ _)
   | (with_reducible exact laws_markIntS.mono _ _ _)
   | (with_reducible exact laws_toFlow.mono _ _ _)
   | (with_reducible exact laws_toIntS.mono _ _)
   | (with_reducible exact spec_RunRule.mono _ _ _ _ _ _ _)
   | (with_reducible exact LeO.refl _)
   | (with_reducible exact LeO.none _)
   | (with_reducible refine LeO.ite ?_ ?_)
   | (with_reducible refine LeO.bind ?_ (fun _ => ?_))
   | exact ih0 _ _ _ _ _ _ _ _ _ _ _ _ _ _ _ _
   | exact ih1 _ _ _ _ _ _ _ _ _ _ _ _
   | exact ih2 _ _ _ _
   | exact impl_RunRule.mono _ _ _ _ _ _ _
   | exact laws_eqFlow.mono _ _ _ _ _
   | exact laws_eqIntS.mono _ _ _
   | exact laws_heldIntS.mono _ _ _
   | exact laws_markFlow.mono _ _ _ _
   | exact laws_markIntS.mono _ _ _
   | exact laws_toFlow.mono _ _ _
   | exact laws_toIntS.mono _ _
   | exact spec_RunRule.mono _ _ _ _ _ _ _
   | exact LeO.none _
   | refine LeO.ite ?_ ?_
   | refine LeO.bind ?_ (fun _ => ?_)
  ·intro y0 y1 y2 y3 y4 y5 y6 y7 y8 y9 y10 y11
   unfold laws_FnExactRunRule.j1
   repeat' first
   | (with_reducible exact ih0 _ _ _ _ _ _ _ _ _ _ _ _ _ _ _ _)
   | (with_reducible exact ih1 _ _ _ _ _ _ _ _ _ _ _ _)
   | (with_reducible exact ih2 _ _ _ _)
   | (with_reducible exact impl_RunRule.mono _ _ _ _ _ _ _)
   | (with_reducible exact laws_eqFlow.mono _ _ _ _ _)
   | (with_reducible exact laws_eqIntS.mono _ _ _)
   | (with_reducible exact laws_heldIntS.mono _ _ _)
   | (with_reducible exact laws_markFlow.mono _ _ _ _)
   | (with_reducible exact laws_markIntS.mono _ _ _)
   | (with_reducible exact laws_toFlow.mono _ _ _)
   | (with_reducible exact laws_toIntS.mono _ _)
   | (with_reducible exact spec_RunRule.mono _ _ _ _ _ _ _)
   | (with_reducible exact LeO.refl _)
   | (with_reducible exact LeO.none _)
   | (with_reducible refine LeO.ite ?_ ?_)
   | (with_reducible refine LeO.bind ?_ (fun _ => ?_))
   | exact ih0 _ _ _ _ _ _ _ _ _ _ _ _ _ _ _ _
   | exact ih1 _ _ _ _ _ _ _ _ _ _ _ _
   | exact ih2 _ _ _ _
   | exact impl_RunRule.mono _ _ _ _ _ _ _
   | exact laws_eqFlow.mono _ _ _ _ _
   | exact laws_eqIntS.mono _ _ _
   | exact laws_heldIntS.mono _ _ _
   | exact laws_markFlow.mono _ _ _ _
   | exact laws_markIntS.mono _ _ _
   | exact laws_toFlow.mono _ _ _
   | exact laws_toIntS.mono _ _
   | exact spec_RunRule.mono _ _ _ _ _ _ _
   | exact LeO.none _
   | refine LeO.ite ?_ ?_
   | refine LeO.bind ?_ (fun _ => ?_)
  ·intro y0 y1 y2 y3
   unfold laws_FnExactRunRule.j2
   repeat' first
   | (with_reducible exact ih0 _ _ _ _ _ _ _ _ _ _ _ _ _ _ _ _)
   | (with_reducible exact ih1 _ _ _ _ _ _ _ _ _ _ _ _)
   | (with_reducible exact ih2 _ _ _ _)
   | (with_reducible exact impl_RunRule.mono _ _ _ _ _ _ _)
   | (with_reducible exact laws_eqFlow.mono _ _ _ _ _)
   | (with_reducible exact laws_eqIntS.mono _ _ _)
   | (with_reducible exact laws_heldIntS.mono _ _ _)
   | (with_reducible exact laws_markFlow.mono _ _ _ _)
   | (with_reducible exact laws_markIntS.mono _ _ _)
   | (with_reducible exact laws_toFlow.mono _ _ _)
   | (with_reducible exact laws_toIntS.mono _ _)
   | (with_reducible exact spec_RunRule.mono _ _ _ _ _ _ _)
   | (with_reducible exact LeO.refl _)
   | (with_reducible exact LeO.none _)
   | (with_reducible refine LeO.ite ?_ ?_)
   | (with_reducible refine LeO.bind ?_ (fun _ => ?_))
   | exact ih0 _ _ _ _ _ _ _ _ _ _ _ _ _ _ _ _
   | exact ih1 _ _ _ _ _ _ _ _ _ _ _ _
   | exact ih2 _ _ _ _
   | exact impl_RunRule.mono _ _ _ _ _ _ _
   | exact laws_eqFlow.mono _ _ _ _ _
   | exact laws_eqIntS.mono _ _ _
   | exact laws_heldIntS.mono _ _ _
   | exact laws_markFlow.mono _ _ _ _
   | exact laws_markIntS.mono _ _ _
   | exact laws_toFlow.mono _ _ _
   | exact laws_toIntS.mono _ _
   | exact spec_RunRule.mono _ _ _ _ _ _ _
   | exact LeO.none _
   | refine LeO.ite ?_ ?_
   | refine LeO.bind ?_ (fun _ => ?_)
theorem laws_FnExactRunRule.mono : ∀ a0 a1 a2 a3 a4 a5 k, LeO (laws_FnExactRunRule.f k a0 a1 a2 a3 a4 a5) (laws_FnExactRunRule.f (k + 1) a0 a1 a2 a3 a4 a5) := by
 intro a0 a1 a2 a3 a4 a5 k
 obtain ⟨ih0, ih1, ih2⟩ := laws_FnExactRunRule.mono_l k
 unfold laws_FnExactRunRule.f
 repeat' first
   | (with_reducible exact ih0 _ _ _ _ _ _ _ _ _ _ _ _ _ _ _ _)
   | (with_reducible exact ih1 _ _ _ _ _ _ _ _ _ _ _ _)
   | (with_reducible exact ih2 _ _ _ _)
   | (with_reducible exact impl_RunRule.mono _ _ _ _ _ _ _)
   | (with_reducible exact laws_eqFlow.mono _ _ _ _ _)
   | (with_reducible exact laws_eqIntS.mono _ _ _)
   | (with_reducible exact laws_heldIntS.mono _ _ _)
   | (with_reducible exact laws_markFlow.mono _ _ _ _)
   | (with_reducible exact laws_markIntS.mono _ _ _)
   | (with_reducible exact laws_toFlow.mono _ _ _)
   | (with_reducible exact laws_toIntS.mono _ _)
   | (with_reducible exact spec_RunRule.mono _ _ _ _ _ _ _)
   | (with_reducible exact LeO.refl _)
   | (with_reducible exact LeO.none _)
   | (with_reducible refine LeO.ite ?_ ?_)
   | (with_reducible refine LeO.bind ?_ (fun _ => ?_))
   | exact ih0 _ _ _ _ _ _ _ _ _ _ _ _ _ _ _ _
   | exact ih1 _ _ _ _ _ _ _ _ _ _ _ _
   | exact ih2 _ _ _ _
   | exact impl_RunRule.mono _ _ _ _ _ _ _
   | exact laws_eqFlow.mono _ _ _ _ _
   | exact laws_eqIntS.mono _ _ _
   | exact laws_heldIntS.mono _ _ _
   | exact laws_markFlow.mono _ _ _ _
   | exact laws_markIntS.mono _ _ _
   | exact laws_toFlow.mono _ _ _
   | exact laws_toIntS.mono _ _
   | exact spec_RunRule.mono _ _ _ _ _ _ _
   | exact LeO.none _
   | refine LeO.ite ?_ ?_
   | refine LeO.bind ?_ (fun _ => ?_)
def laws_FnExactRunRule.T7 : Bool × List (List Nat × List Nat) := (true, [([], []), ([0], [0]), ([], []), ([2, 1], [2]), ([], []), ([4, 3], [4]), ([1, 3, 5, 5], [1, 3, 5]), ([6], [6]), ([7], [7]), ([7], [7]), ([7], [7]), ([8, 6, 0, 1, 2, 3, 4, 5, 6, 7, 8], [8]), ([9, 11, 0, 1, 2, 3, 4, 5, 6, 7, 8, 9, 11], [9]), ([10, 12, 0, 1, 2, 3, 4, 5, 6, 7, 8, 9, 10, 11, 12], [10])])
def laws_FnExactRunRule.B7 : List Nat := [0, 1, 0, 7, 0, 31, 63, 127, 255, 255, 255, 511, 3071, 8191]
theorem laws_FnExactRunRule.tab7 : rtab .any (opsOf Try.f4 7) = laws_FnExactRunRule.T7 := z8_12
theorem laws_FnExactRunRule.bits7 : waitsOk laws_FnExactRunRule.T7.2 laws_FnExactRunRule.B7 = true := z8_12
def laws_FnExactRunRule.T10 : Bool × List (List Nat × List Nat) := (true, [([], []), ([], []), ([1], [1]), ([], []), ([0, 2, 3, 2], [0, 2, 3]), ([4], [4]), ([5], [5]), ([5], [5]), ([5], [5]), ([6, 4, 0, 1, 2, 3, 4, 5, 6], [6]), ([7, 9, 0, 1, 2, 3, 4, 5, 6, 7, 9], [7]), ([8, 10, 0, 1, 2, 3, 4, 5, 6, 7, 8, 9, 10], [8])])
def laws_FnExactRunRule.B10 : List Nat := [0, 0, 2, 0, 15, 31, 63, 63, 63, 127, 767, 2047]
theorem laws_FnExactRunRule.tab10 : rtab .any (opsOf Try.f4 10) = laws_FnExactRunRule.T10 := z8_12
theorem laws_FnExactRunRule.bits10 : waitsOk laws_FnExactRunRule.T10.2 laws_FnExactRunRule.B10 = true := z8_12
def laws_FnExactRunRule.T34 : Bool × List (List Nat × List Nat) := (true, [([], []), ([0], [0]), ([], []), ([2, 1], [2]), ([], []), ([4, 3], [4]), ([1, 3, 5, 5], [1, 3, 5]), ([6], [6]), ([7], [7]), ([7], [7]), ([7], [7]), ([8, 6, 0, 1, 2, 3, 4, 5, 6, 7, 8], [8]), ([9, 11, 0, 1, 2, 3, 4, 5, 6, 7, 8, 9, 11], [9]), ([10, 12, 0, 1, 2, 3, 4, 5, 6, 7, 8, 9, 10, 11, 12], [10])])
def laws_FnExactRunRule.B34 : List Nat := [0, 1, 0, 7, 0, 31, 63, 127, 255, 255, 255, 511, 3071, 8191]
theorem laws_FnExactRunRule.tab34 : rtab .any (opsOf Try.f4 34) = laws_FnExactRunRule.T34 := z8_12
theorem laws_FnExactRunRule.bits34 : waitsOk laws_FnExactRunRule.T34.2 laws_FnExactRunRule.B34 = true := z8_12
set_option maxHeartbeats 8000000 in
set_option maxRecDepth 100000 in
theorem laws_FnExactRunRule.calls (k : Nat) (a0_0 : Int) (A0_1 : Option Addr) (c0_1 : Nat) (l0_1 : List Int) (a1_0 : Int) (a1_1 : Int) (a1_2 : Int) (A2 : Option Addr) (c2 : Nat) (l2 : List Int) (r : Bool) (w : World) (hr0_1 : Kd.C (Kd.int .i64) w A0_1 l0_1.length l0_1) (hc0_1 : l0_1.length ≤ c0_1) (hr2 : Kd.C (Kd.int .i64) w A2 l2.length l2) (hc2 : l2.length ≤ c2) (h : laws_FnExactRunRule.f k a0_0 l0_1 a1_0 a1_1 a1_2 l2 = some r) :
  Calls Try.prog 4 #[.agg #[.int .i64 a0_0, .slice A0_1 l0_1.length c0_1], .agg #[.int .i64 a1_0, .int .i64 a1_1, .int .i64 a1_2], .slice A2 l2.length c2] w fun e w' => e = .returned (.bool r) ∧ Below w.heap.size w w' := by
 have hu24 := Try.underlying24
 have hu26 := Try.underlying26
 have hu30 := Try.underlying30
 have HR0_1 := z8_A hr0_1
 have HC0_1 := z8_A hc0_1
 clear hr0_1 hc0_1
 have HR2 := z8_A hr2
 have HC2 := z8_A hc2
 clear hr2 hc2
 have HB := z8_A (Below.refl w.heap.size w)
 have H : (if (l2.length : Int) > 1048576 then (some true) else ((laws_szFlow.f a0_0 l0_1 1048576).bind fun t301 => (if t301 < 0 then (some true) else ((laws_toFlow.f k a0_0 l0_1).bind fun bt302 => ((laws_toRule.f a1_0 a1_1 a1_2).bind fun bt306 => ((laws_toIntS.f k l2).bind fun t309 => ((spec_RunRule.f k bt302.1 bt302.2 bt306.1 bt306.2.1 bt306.2.2 t309).bind fun bt312 => ((laws_toFlow.f k a0_0 l0_1).bind fun bt319 => ((laws_toIntS.f k l2).bind fun t324 => ((laws_toRule.f a1_0 a1_1 a1_2).bind fun bt327 => ((impl_RunRule.f k bt319.1 bt319.2 bt327.1 bt327.2.1 bt327.2.2 t324).bind fun bt330 => ((laws_eqIntS.f k bt330.1 bt312.1).bind fun t337 => (if t337 = true then ((laws_eqIntS.f k bt330.2.1 bt312.2.1).bind fun t338 => (if t338 = true then (laws_FnExactRunRule.j0 k l2 bt312.1 bt312.2.1 bt312.2.2 t324 bt330.1 bt330.2.1 bt330.2.2 (bt330.2.2 != bt312.2.2) a0_0 l0_1 a1_0 a1_1 a1_2 bt319.1 bt319.2) else (laws_FnExactRunRule.j0 k l2 bt312.1 bt312.2.1 bt312.2.2 t324 bt330.1 bt330.2.1 bt330.2.2 true a0_0 l0_1 a1_0 a1_1 a1_2 bt319.1 bt319.2))) else (laws_FnExactRunRule.j0 k l2 bt312.1 bt312.2.1 bt312.2.2 t324 bt330.1 bt330.2.1 bt330.2.2 true a0_0 l0_1 a1_0 a1_1 a1_2 bt319.1 bt319.2)))))))))))))) = some r := h
 clear h
 by_cases c4 : (l2.length : Int) > 1048576
 ·rw [if_pos c4] at H
  have c4b0 : decide (1048576 < (l2.length : Int)) = true := decide_eq_true c4
  have c4b1 : decide (1048576 < l2.length) = true := decide_eq_true (by omega)
  clear c4
  obtain rfl := Option.some.inj H
  go_enter Try.func4, Try.ntmps4
  go_wp2_with (first | ((with_reducible refine gate_dst (N := 3) rfl ?_); refine box_event ?hg (N := 3) ?hd (cs := #[.int .i64 a0_0, .slice A0_1 l0_1.length c0_1]) (t := 24) ?hr ?_; (case hd => rfl); (case hg => rfl); (case hr => first | (go_simp; done) | (go_simp; rfl)); intro gb299 hg w5 hbox hb; have n0_ := z8_A (below_step z8_17 hb); have n1_ := z8_A (hbox); have n2_ := z8_A ((z8_58 : w.heap.size ≤ gb299)); have n3_ := z8_A ((z8_58 : w.heap.size ≤ gb299)); clear HB; revert n0_ n1_ n2_ n3_; intro HB BK299 GW299 GE299; clear hb hbox hg) | ((with_reducible refine gate_dst (N := 4) rfl ?_); refine box_event ?hg (N := 4) ?hd (cs := #[.int .i64 a1_0, .int .i64 a1_1, .int .i64 a1_2]) (t := 26) ?hr ?_; (case hd => rfl); (case hg => rfl); (case hr => first | (go_simp; done) | (go_simp; rfl)); intro gb300 hg w6 hbox hb; have n0_ := z8_A (blk_below (g := gb299) (o := .cells #[.int .i64 a0_0, .slice A0_1 l0_1.length c0_1] 24 (0, 0)) z8_3 hb); have n1_ := z8_A (below_step z8_13 hb); have n2_ := z8_A (hbox); have n3_ := z8_A ((z8_59 : w.heap.size ≤ gb300)); have n4_ := z8_A ((z8_59 : w.heap.size ≤ gb300)); have n5_ := z8_A ((z8_41 : gb299 ≠ gb300)); have n6_ := z8_A ((z8_42 : gb300 ≠ gb299)); clear BK299 HB; revert n0_ n1_ n2_ n3_ n4_ n5_ n6_; intro BK299 HB BK300 GW300 GE300 NB299_300 NB300_299; clear hb hbox hg))
  go_ret
  exact ⟨z8_16, z8_6⟩
 ·rw [if_neg c4] at H
  have c4b0 : decide (1048576 < (l2.length : Int)) = false := decide_eq_false c4
  have c4b1 : decide (1048576 < l2.length) = false := decide_eq_false (by omega)
  clear c4
  replace H := Option.bind_eq_some_iff.mp H
  obtain ⟨t301, A70, H⟩ := H
  (try dsimp only at H)
  have A7 := z8_A A70
  clear A70
  by_cases c8 : t301 < 0
  ·rw [if_pos c8] at H
   have c8b0 : decide (t301 < 0) = true := decide_eq_true c8
   clear c8
   obtain rfl := Option.some.inj H
   go_enter Try.func4, Try.ntmps4
   go_wp2_with (first | ((with_reducible refine gate_dst (N := 3) rfl ?_); refine box_event ?hg (N := 3) ?hd (cs := #[.int .i64 a0_0, .slice A0_1 l0_1.length c0_1]) (t := 24) ?hr ?_; (case hd => rfl); (case hg => rfl); (case hr => first | (go_simp; done) | (go_simp; rfl)); intro gb299 hg w9 hbox hb; have n0_ := z8_A (below_step z8_17 hb); have n1_ := z8_A (hbox); have n2_ := z8_A ((z8_58 : w.heap.size ≤ gb299)); have n3_ := z8_A ((z8_58 : w.heap.size ≤ gb299)); clear HB; revert n0_ n1_ n2_ n3_; intro HB BK299 GW299 GE299; clear hb hbox hg) | ((with_reducible refine gate_dst (N := 4) rfl ?_); refine box_event ?hg (N := 4) ?hd (cs := #[.int .i64 a1_0, .int .i64 a1_1, .int .i64 a1_2]) (t := 26) ?hr ?_; (case hd => rfl); (case hg => rfl); (case hr => first | (go_simp; done) | (go_simp; rfl)); intro gb300 hg w10 hbox hb; have n0_ := z8_A (blk_below (g := gb299) (o := .cells #[.int .i64 a0_0, .slice A0_1 l0_1.length c0_1] 24 (0, 0)) z8_3 hb); have n1_ := z8_A (below_step z8_13 hb); have n2_ := z8_A (hbox); have n3_ := z8_A ((z8_59 : w.heap.size ≤ gb300)); have n4_ := z8_A ((z8_59 : w.heap.size ≤ gb300)); have n5_ := z8_A ((z8_41 : gb299 ≠ gb300)); have n6_ := z8_A ((z8_42 : gb300 ≠ gb299)); clear BK299 HB; revert n0_ n1_ n2_ n3_ n4_ n5_ n6_; intro BK299 HB BK300 GW300 GE300 NB299_300 NB300_299; clear hb hbox hg; have hnb11 := NB299_300.out; have hnc11 := NB300_299.out; have hcz12_0 : w10.cell? ⟨gb299, 0, none⟩ = some (.int .i64 a0_0) := (blk_cell BK299.out 0).trans rfl; have hcz12_1 : w10.cell? ⟨gb299, 1, none⟩ = some (.slice A0_1 l0_1.length c0_1) := (blk_cell BK299.out 1).trans rfl; have hfz12_0 := blk_frozen BK299.out 0; have hfz12_1 := blk_frozen BK299.out 1) | ((with_reducible refine gate_callee (f := 9) rfl ?_); refine goesL_ (some 27) rfl rfl Try.func9 z8_12 rfl #[.agg #[.int .i64 a0_0, .slice A0_1 l0_1.length c0_1], .int .i64 1048576] rfl z8_2 ?_; (with_reducible refine (laws_szFlow.calls a0_0 _ _ l0_1 1048576 t301 _ ?side1 ?side2 A7.out).mono ?_); (case side1 => have zh := (Kd.C_below HR0_1.out HB.out); exact z8_C); (case side2 => exact HC0_1.out); rintro e w13 ⟨rfl, hb⟩; refine ⟨_, rfl, ?_⟩; have n0_ := z8_A (blk_below (g := gb299) (o := .cells #[.int .i64 a0_0, .slice A0_1 l0_1.length c0_1] 24 (0, 0)) z8_3 hb); have n1_ := z8_A (blk_below (g := gb300) (o := .cells #[.int .i64 a1_0, .int .i64 a1_1, .int .i64 a1_2] 26 (0, 0)) z8_4 hb); have n2_ := z8_A (below_step z8_6 hb); clear BK299 BK300 HB; revert n0_ n1_ n2_; intro BK299 BK300 HB; (try clear hb); (try clear hb2); (try clear hk); (try clear hi)))
   go_ret
   exact ⟨z8_16, z8_6⟩
  ·rw [if_neg c8] at H
   have c8b0 : decide (t301 < 0) = false := decide_eq_false c8
   clear c8
   replace H := Option.bind_eq_some_iff.mp H
   obtain ⟨⟨t302, t303⟩, A140, H⟩ := H
   (try dsimp only at H)
   have A14 := z8_A A140
   clear A140
   replace H := Option.bind_eq_some_iff.mp H
   obtain ⟨⟨t306, t307, t308⟩, A150, H⟩ := H
   (try dsimp only at H)
   have A15 := z8_A A150
   clear A150
   replace H := Option.bind_eq_some_iff.mp H
   obtain ⟨t309, A160, H⟩ := H
   (try dsimp only at H)
   have A16 := z8_A A160
   clear A160
   replace H := Option.bind_eq_some_iff.mp H
   obtain ⟨⟨t312, t315, t318⟩, A170, H⟩ := H
   (try dsimp only at H)
   have A17 := z8_A A170
   clear A170
   replace H := Option.bind_eq_some_iff.mp H
   obtain ⟨⟨t319, t320⟩, A180, H⟩ := H
   (try dsimp only at H)
   have A18 := z8_A A180
   clear A180
   replace H := Option.bind_eq_some_iff.mp H
   obtain ⟨t324, A190, H⟩ := H
   (try dsimp only at H)
   have A19 := z8_A A190
   clear A190
   replace H := Option.bind_eq_some_iff.mp H
   obtain ⟨⟨t327, t328, t329⟩, A200, H⟩ := H
   (try dsimp only at H)
   have A20 := z8_A A200
   clear A200
   replace H := Option.bind_eq_some_iff.mp H
   obtain ⟨⟨t330, t333, t336⟩, A210, H⟩ := H
   (try dsimp only at H)
   have A21 := z8_A A210
   clear A210
   have HC22 := z8_A H
   clear H
   go_enter Try.func4, Try.ntmps4
   try go_wp2_with (first | ((with_reducible refine gate_dst (N := 3) rfl ?_); refine box_event ?hg (N := 3) ?hd (cs := #[.int .i64 a0_0, .slice A0_1 l0_1.length c0_1]) (t := 24) ?hr ?_; (case hd => rfl); (case hg => rfl); (case hr => first | (go_simp; done) | (go_simp; rfl)); intro gb299 hg w23 hbox hb; have n0_ := z8_A (below_step z8_17 hb); have n1_ := z8_A (hbox); have n2_ := z8_A ((z8_58 : w.heap.size ≤ gb299)); have n3_ := z8_A ((z8_58 : w.heap.size ≤ gb299)); clear HB; revert n0_ n1_ n2_ n3_; intro HB BK299 GW299 GE299; clear hb hbox hg) | ((with_reducible refine gate_dst (N := 4) rfl ?_); refine box_event ?hg (N := 4) ?hd (cs := #[.int .i64 a1_0, .int .i64 a1_1, .int .i64 a1_2]) (t := 26) ?hr ?_; (case hd => rfl); (case hg => rfl); (case hr => first | (go_simp; done) | (go_simp; rfl)); intro gb300 hg w24 hbox hb; have n0_ := z8_A (blk_below (g := gb299) (o := .cells #[.int .i64 a0_0, .slice A0_1 l0_1.length c0_1] 24 (0, 0)) z8_3 hb); have n1_ := z8_A (below_step z8_13 hb); have n2_ := z8_A (hbox); have n3_ := z8_A ((z8_59 : w.heap.size ≤ gb300)); have n4_ := z8_A ((z8_59 : w.heap.size ≤ gb300)); have n5_ := z8_A ((z8_41 : gb299 ≠ gb300)); have n6_ := z8_A ((z8_42 : gb300 ≠ gb299)); clear BK299 HB; revert n0_ n1_ n2_ n3_ n4_ n5_ n6_; intro BK299 HB BK300 GW300 GE300 NB299_300 NB300_299; clear hb hbox hg; have hnb25 := NB299_300.out; have hnc25 := NB300_299.out; have hcz26_0 : w24.cell? ⟨gb299, 0, none⟩ = some (.int .i64 a0_0) := (blk_cell BK299.out 0).trans rfl; have hcz26_1 : w24.cell? ⟨gb299, 1, none⟩ = some (.slice A0_1 l0_1.length c0_1) := (blk_cell BK299.out 1).trans rfl; have hfz26_0 := blk_frozen BK299.out 0; have hfz26_1 := blk_frozen BK299.out 1) | ((with_reducible refine gate_callee (f := 9) rfl ?_); refine goesL_ (some 27) rfl rfl Try.func9 z8_12 rfl #[.agg #[.int .i64 a0_0, .slice A0_1 l0_1.length c0_1], .int .i64 1048576] rfl z8_2 ?_; (with_reducible refine (laws_szFlow.calls a0_0 _ _ l0_1 1048576 t301 _ ?side1 ?side2 A7.out).mono ?_); (case side1 => have zh := (Kd.C_below HR0_1.out HB.out); exact z8_C); (case side2 => exact HC0_1.out); rintro e w27 ⟨rfl, hb⟩; refine ⟨_, rfl, ?_⟩; have n0_ := z8_A (blk_below (g := gb299) (o := .cells #[.int .i64 a0_0, .slice A0_1 l0_1.length c0_1] 24 (0, 0)) z8_3 hb); have n1_ := z8_A (blk_below (g := gb300) (o := .cells #[.int .i64 a1_0, .int .i64 a1_1, .int .i64 a1_2] 26 (0, 0)) z8_4 hb); have n2_ := z8_A (below_step z8_6 hb); clear BK299 BK300 HB; revert n0_ n1_ n2_; intro BK299 BK300 HB; (try clear hb); (try clear hb2); (try clear hk); (try clear hi)))
   have n0_ := z8_A (blk_drew BK299.out)
   have n1_ := z8_A (blk_drew BK300.out)
   have n2_ := z8_A (below_drew1 HB.out)
   clear BK299
   clear BK300
   clear HB
   have BK299 := n0_
   have BK300 := n1_
   have HB := n2_
   clear n0_ n1_ n2_
   refine start_ (n := 14) (S := fun w' => w'.cell? ⟨gb299, 0, none⟩ = some (.int .i64 a0_0) ∧ w'.cell? ⟨gb299, 1, none⟩ = some (.slice A0_1 l0_1.length c0_1) ∧ w'.cell? ⟨gb300, 0, none⟩ = some (.int .i64 a1_0) ∧ w'.cell? ⟨gb300, 1, none⟩ = some (.int .i64 a1_1) ∧ w'.cell? ⟨gb300, 2, none⟩ = some (.int .i64 a1_2)) (ds := []) #[false, false, false, false, false, false, false, false, false, false, false, false, false, false] z8_12 rfl rfl ⟨(blk_cell BK299.out 0).trans rfl, (blk_cell BK299.out 1).trans rfl, (blk_cell BK300.out 0).trans rfl, (blk_cell BK300.out 1).trans rfl, (blk_cell BK300.out 2).trans rfl⟩ (fun hHeld => ?_); refine with_tabW laws_FnExactRunRule.tab7 laws_FnExactRunRule.bits7 (fun HT_ HW_ => ?_)
   generalize w27.drew = w28 at BK299 BK300 HB hHeld ⊢
   refine pure_ (i := 4) (N := some 35) (v := ?_) (a' := ?_) #[false, false, false, false, true, false, false, false, false, false, false, false, false, false] rfl rfl (any_of HT_.out z8_12) (fun _ _ _ h => h) (Or.inl ⟨z8_55, ?_⟩) ?_ ?_
   rotate_left
   ·intro w'
    go_simp
    with_reducible rfl
   rotate_left
   ·simp only [Act.put, List.setIfInBounds_toArray, List.set_cons_zero, List.set_cons_succ, i64_w, i32_w]
    rfl
   refine take_ (i := 0) (N := some 31) (v := ?_) (a' := ?_) #[true, false, false, false, true, false, false, false, false, false, false, false, false, false] rfl rfl (take_ofW HT_.out HW_.out z8_12) (fun _ _ _ h => h) (Or.inl ⟨z8_55, ?_⟩) hHeld ?_ ?_
   rotate_left
   ·rintro w' ⟨s0, s1, s2, s3, s4⟩
    go_simp
    with_reducible rfl
   rotate_left
   ·simp only [Act.put, List.setIfInBounds_toArray, List.set_cons_zero, List.set_cons_succ, i64_w, i32_w]
    rfl
   refine take_ (i := 2) (N := some 33) (v := ?_) (a' := ?_) #[true, false, true, false, true, false, false, false, false, false, false, false, false, false] rfl rfl (take_ofW HT_.out HW_.out z8_12) (fun _ _ _ h => h) (Or.inl ⟨z8_55, ?_⟩) hHeld ?_ ?_
   rotate_left
   ·rintro w' ⟨s0, s1, s2, s3, s4⟩
    go_simp
    with_reducible rfl
   rotate_left
   ·simp only [Act.put, List.setIfInBounds_toArray, List.set_cons_zero, List.set_cons_succ, i64_w, i32_w]
    rfl
   refine one_ (i := 1) (N := some 32) #[true, true, true, false, true, false, false, false, false, false, false, false, false, false] rfl rfl (one_of HT_.out z8_12) z8_36 (fun K hK => ?_)
   refine goes_ Try.func11 z8_12 rfl #[.agg #[.int .i64 a0_0, .slice A0_1 l0_1.length c0_1]] z8_55 rfl rfl z8_2 ?_
   with_reducible refine (laws_toFlow.calls k a0_0 _ _ l0_1 t302 t303 _ ?side1 ?side2 A14.out).mono ?_
   (case side1 => have zh := (Kd.C_below HR0_1.out HB.out); exact z8_C)
   (case side2 => exact HC0_1.out)
   rintro e w29 ⟨v304, rfl, ho0, hb⟩
   refine ⟨_, rfl, ?_⟩
   have n0_ := z8_A (Kd.R_lower ho0 (below_size z8_6))
   have n1_ := z8_A (blk_below (g := gb299) (o := .cells #[.int .i64 a0_0, .slice A0_1 l0_1.length c0_1] 24 (0, 0)) z8_3 hb)
   have n2_ := z8_A (blk_below (g := gb300) (o := .cells #[.int .i64 a1_0, .int .i64 a1_1, .int .i64 a1_2] 26 (0, 0)) z8_4 hb)
   have n3_ := z8_A (below_step z8_6 hb)
   clear BK299
   clear BK300
   clear HB
   have HO305 := n0_
   have BK299 := n1_
   have BK300 := n2_
   have HB := n3_
   clear n0_ n1_ n2_ n3_
   (try clear hb)
   (try clear hb2)
   (try clear hk)
   (try clear hi)
   (try clear ho0)
   refine hK.out _ _ ⟨(blk_cell BK299.out 0).trans rfl, (blk_cell BK299.out 1).trans rfl, (blk_cell BK300.out 0).trans rfl, (blk_cell BK300.out 1).trans rfl, (blk_cell BK300.out 2).trans rfl⟩ (fun hHeld => ?_)
   clear hK K
   refine norm_ (a' := ?_) ?_ ?_
   rotate_left
   ·show Act.put _ (some 32) _ = _
    simp only [Act.put, List.setIfInBounds_toArray, List.set_cons_zero, List.set_cons_succ, i64_w, i32_w]
    rfl
   refine one_ (i := 3) (N := some 34) #[true, true, true, true, true, false, false, false, false, false, false, false, false, false] rfl rfl (one_of HT_.out z8_12) z8_36 (fun K hK => ?_)
   refine goes_ Try.func12 z8_12 rfl #[.agg #[.int .i64 a1_0, .int .i64 a1_1, .int .i64 a1_2]] z8_55 rfl rfl z8_2 ?_
   with_reducible refine (laws_toRule.calls a1_0 a1_1 a1_2 t306 t307 t308 _ A15.out).mono ?_
   rintro e w30 ⟨rfl, hb⟩
   refine ⟨_, rfl, ?_⟩
   have n0_ := z8_A (Kd.R_below z8_15 hb)
   have n1_ := z8_A (blk_below (g := gb299) (o := .cells #[.int .i64 a0_0, .slice A0_1 l0_1.length c0_1] 24 (0, 0)) z8_3 hb)
   have n2_ := z8_A (blk_below (g := gb300) (o := .cells #[.int .i64 a1_0, .int .i64 a1_1, .int .i64 a1_2] 26 (0, 0)) z8_4 hb)
   have n3_ := z8_A (below_step z8_6 hb)
   clear HO305
   clear BK299
   clear BK300
   clear HB
   have HO305 := n0_
   have BK299 := n1_
   have BK300 := n2_
   have HB := n3_
   clear n0_ n1_ n2_ n3_
   (try clear hb)
   (try clear hb2)
   (try clear hk)
   (try clear hi)
   refine hK.out _ _ ⟨(blk_cell BK299.out 0).trans rfl, (blk_cell BK299.out 1).trans rfl, (blk_cell BK300.out 0).trans rfl, (blk_cell BK300.out 1).trans rfl, (blk_cell BK300.out 2).trans rfl⟩ (fun hHeld => ?_)
   clear hK K
   refine norm_ (a' := ?_) ?_ ?_
   rotate_left
   ·show Act.put _ (some 34) _ = _
    simp only [Act.put, List.setIfInBounds_toArray, List.set_cons_zero, List.set_cons_succ, i64_w, i32_w]
    rfl
   refine one_ (i := 5) (N := some 36) #[true, true, true, true, true, true, false, false, false, false, false, false, false, false] rfl rfl (one_of HT_.out z8_12) z8_36 (fun K hK => ?_)
   refine goes_ Try.func13 z8_12 rfl #[.slice A2 l2.length c2] z8_55 rfl rfl z8_2 ?_
   with_reducible refine (laws_toIntS.calls k _ _ l2 t309 _ ?side1 ?side2 A16.out).mono ?_
   (case side1 => have zh := (Kd.C_below HR2.out HB.out); exact z8_C)
   (case side2 => exact HC2.out)
   rintro e w31 ⟨v310, rfl, ho0, hb⟩
   refine ⟨_, rfl, ?_⟩
   have n0_ := z8_A (Kd.R_elder' z8_15 (Kd.R_base ho0) hb)
   have n1_ := z8_A (Kd.R_lower (Kd.R_new' ho0 (Kd.R_lt z8_15)) (below_size z8_6))
   have n2_ := z8_A (blk_below (g := gb299) (o := .cells #[.int .i64 a0_0, .slice A0_1 l0_1.length c0_1] 24 (0, 0)) z8_3 hb)
   have n3_ := z8_A (blk_below (g := gb300) (o := .cells #[.int .i64 a1_0, .int .i64 a1_1, .int .i64 a1_2] 26 (0, 0)) z8_4 hb)
   have n4_ := z8_A (below_step z8_6 hb)
   clear HO305
   clear BK299
   clear BK300
   clear HB
   have HO305 := n0_
   have HO311 := n1_
   have BK299 := n2_
   have BK300 := n3_
   have HB := n4_
   clear n0_ n1_ n2_ n3_ n4_
   (try clear hb)
   (try clear hb2)
   (try clear hk)
   (try clear hi)
   (try clear ho0)
   obtain ⟨Ao32, co32, eo32⟩ := Kd.R_slice HO305.out
   (first | subst eo32 | (injection eo32 with f1_ f2_ f3_; have f4_ := f1_.symm; have f5_ := f3_.symm; clear f1_ f2_ f3_; subst f4_; subst f5_))
   obtain ⟨Ao33, co33, eo33⟩ := Kd.R_slice HO311.out
   (first | subst eo33 | (injection eo33 with f1_ f2_ f3_; have f4_ := f1_.symm; have f5_ := f3_.symm; clear f1_ f2_ f3_; subst f4_; subst f5_))
   refine hK.out _ _ ⟨(blk_cell BK299.out 0).trans rfl, (blk_cell BK299.out 1).trans rfl, (blk_cell BK300.out 0).trans rfl, (blk_cell BK300.out 1).trans rfl, (blk_cell BK300.out 2).trans rfl⟩ (fun hHeld => ?_)
   clear hK K
   refine norm_ (a' := ?_) ?_ ?_
   rotate_left
   ·show Act.put _ (some 36) _ = _
    simp only [Act.put, List.setIfInBounds_toArray, List.set_cons_zero, List.set_cons_succ, i64_w, i32_w]
    rfl
   refine one_ (i := 6) (N := some 37) #[true, true, true, true, true, true, true, false, false, false, false, false, false, false] rfl rfl (one_of HT_.out z8_12) z8_36 (fun K hK => ?_)
   refine goes_ Try.func17 z8_12 rfl #[.agg #[.int .i64 t302, .slice Ao32 t303.length co32], .agg #[.int .i64 t306, .int .i64 t307, .int .i64 t308], .slice Ao33 t309.length co33] z8_55 rfl rfl z8_2 ?_
   with_reducible refine (spec_RunRule.calls k t302 _ _ t303 t306 t307 t308 _ _ t309 t312 t315 t318 _ ?side1 ?side2 ?side3 ?side4 A17.out).mono ?_
   (case side1 => have zh := (Kd.R_reads' HO305.out).2.2; exact z8_C)
   (case side2 => exact (Kd.R_reads' HO305.out).2.1)
   (case side3 => have zh := (Kd.R_reads' HO311.out).2.2; exact z8_C)
   (case side4 => exact (Kd.R_reads' HO311.out).2.1)
   rintro e w34 ⟨v313, v316, rfl, ho0, ho1, hb⟩
   refine ⟨_, rfl, ?_⟩
   have n0_ := z8_A (Kd.R_mono (Kd.R_told (Kd.R_told (Kd.R_old z8_15 hb) (Kd.R_base ho0)) (Kd.R_base ho1)) (fun _ h_ => h_.1))
   have n1_ := z8_A (Kd.R_mono (Kd.R_told (Kd.R_told (Kd.R_old z8_18 hb) (Kd.R_base ho0)) (Kd.R_base ho1)) (fun _ h_ => h_.1))
   have n2_ := z8_A (Kd.R_lower (Kd.R_new' (Kd.R_new' ho0 (Kd.R_lt z8_15)) (Kd.R_lt z8_18)) (below_size z8_6))
   have n3_ := z8_A (Kd.R_lower (Kd.R_new' (Kd.R_new' ho1 (Kd.R_lt z8_15)) (Kd.R_lt z8_18)) (below_size z8_6))
   have n4_ := z8_A (blk_below (g := gb299) (o := .cells #[.int .i64 a0_0, .slice A0_1 l0_1.length c0_1] 24 (0, 0)) z8_3 hb)
   have n5_ := z8_A (blk_below (g := gb300) (o := .cells #[.int .i64 a1_0, .int .i64 a1_1, .int .i64 a1_2] 26 (0, 0)) z8_4 hb)
   have n6_ := z8_A (below_step z8_6 hb)
   clear HO305
   clear HO311
   clear BK299
   clear BK300
   clear HB
   have HO305 := n0_
   have HO311 := n1_
   have HO314 := n2_
   have HO317 := n3_
   have BK299 := n4_
   have BK300 := n5_
   have HB := n6_
   clear n0_ n1_ n2_ n3_ n4_ n5_ n6_
   (try clear hb)
   (try clear hb2)
   (try clear hk)
   (try clear hi)
   (try clear ho0)
   (try clear ho1)
   refine hK.out _ _ ⟨(blk_cell BK299.out 0).trans rfl, (blk_cell BK299.out 1).trans rfl, (blk_cell BK300.out 0).trans rfl, (blk_cell BK300.out 1).trans rfl, (blk_cell BK300.out 2).trans rfl⟩ (fun hHeld => ?_)
   clear hK K
   refine norm_ (a' := ?_) ?_ ?_
   rotate_left
   ·show Act.put _ (some 37) _ = _
    simp only [Act.put, List.setIfInBounds_toArray, List.set_cons_zero, List.set_cons_succ, i64_w, i32_w]
    rfl
   refine pure_ (i := 7) (N := some 30) (v := ?_) (a' := ?_) #[true, true, true, true, true, true, true, true, false, false, false, false, false, false] rfl rfl (any_of HT_.out z8_12) (fun _ _ _ h => h) (Or.inl ⟨z8_55, ?_⟩) ?_ ?_
   rotate_left
   ·intro w'
    go_simp
    with_reducible rfl
   rotate_left
   ·simp only [Act.put, List.setIfInBounds_toArray, List.set_cons_zero, List.set_cons_succ, i64_w, i32_w]
    rfl
   refine pure_ (i := 8) (N := some 38) (v := ?_) (a' := ?_) #[true, true, true, true, true, true, true, true, true, false, false, false, false, false] rfl rfl (any_of HT_.out z8_12) (fun _ _ _ h => h) (Or.inl ⟨z8_55, ?_⟩) ?_ ?_
   rotate_left
   ·intro w'
    go_simp
    with_reducible rfl
   rotate_left
   ·simp only [Act.put, List.setIfInBounds_toArray, List.set_cons_zero, List.set_cons_succ, i64_w, i32_w]
    rfl
   refine pure_ (i := 9) (N := some 39) (v := ?_) (a' := ?_) #[true, true, true, true, true, true, true, true, true, true, false, false, false, false] rfl rfl (any_of HT_.out z8_12) (fun _ _ _ h => h) (Or.inl ⟨z8_55, ?_⟩) ?_ ?_
   rotate_left
   ·intro w'
    go_simp
    with_reducible rfl
   rotate_left
   ·simp only [Act.put, List.setIfInBounds_toArray, List.set_cons_zero, List.set_cons_succ, i64_w, i32_w]
    rfl
   refine pure_ (i := 10) (N := some 40) (v := ?_) (a' := ?_) #[true, true, true, true, true, true, true, true, true, true, true, false, false, false] rfl rfl (any_of HT_.out z8_12) (fun _ _ _ h => h) (Or.inl ⟨z8_55, ?_⟩) ?_ ?_
   rotate_left
   ·intro w'
    go_simp
    with_reducible rfl
   rotate_left
   ·simp only [Act.put, List.setIfInBounds_toArray, List.set_cons_zero, List.set_cons_succ, i64_w, i32_w]
    rfl
   refine pure_ (i := 11) (N := some 8) (v := ?_) (a' := ?_) #[true, true, true, true, true, true, true, true, true, true, true, true, false, false] rfl rfl (any_of HT_.out z8_12) (fun _ _ _ h => h) (Or.inl ⟨z8_55, ?_⟩) ?_ ?_
   rotate_left
   ·intro w'
    go_simp
    with_reducible rfl
   rotate_left
   ·simp only [Act.put, List.setIfInBounds_toArray, List.set_cons_zero, List.set_cons_succ, i64_w, i32_w]
    rfl
   refine pure_ (i := 12) (N := some 9) (v := ?_) (a' := ?_) #[true, true, true, true, true, true, true, true, true, true, true, true, true, false] rfl rfl (any_of HT_.out z8_12) (fun _ _ _ h => h) (Or.inl ⟨z8_55, ?_⟩) ?_ ?_
   rotate_left
   ·intro w'
    go_simp
    with_reducible rfl
   rotate_left
   ·simp only [Act.put, List.setIfInBounds_toArray, List.set_cons_zero, List.set_cons_succ, i64_w, i32_w]
    rfl
   refine pure_ (i := 13) (N := some 10) (v := ?_) (a' := ?_) #[true, true, true, true, true, true, true, true, true, true, true, true, true, true] rfl rfl (any_of HT_.out z8_12) (fun _ _ _ h => h) (Or.inl ⟨z8_55, ?_⟩) ?_ ?_
   rotate_left
   ·intro w'
    go_simp
    with_reducible rfl
   rotate_left
   ·simp only [Act.put, List.setIfInBounds_toArray, List.set_cons_zero, List.set_cons_succ, i64_w, i32_w]
    rfl
   refine done_ (done_of HT_.out z8_12) ?_
   have hcz35_0 : w34.cell? ⟨gb299, 0, none⟩ = some (.int .i64 a0_0) := (blk_cell BK299.out 0).trans rfl
   have hcz35_1 : w34.cell? ⟨gb299, 1, none⟩ = some (.slice A0_1 l0_1.length c0_1) := (blk_cell BK299.out 1).trans rfl
   have hfz35_0 := blk_frozen BK299.out 0
   have hfz35_1 := blk_frozen BK299.out 1
   try go_wp2_with (first | ((with_reducible refine gate_callee (f := 11) rfl ?_); refine goesL_ (some 42) rfl rfl Try.func11 z8_12 rfl #[.agg #[.int .i64 a0_0, .slice A0_1 l0_1.length c0_1]] rfl z8_2 ?_; (with_reducible refine (laws_toFlow.calls k a0_0 _ _ l0_1 t319 t320 _ ?side1 ?side2 A18.out).mono ?_); (case side1 => have zh := (Kd.C_below HR0_1.out HB.out); exact z8_C); (case side2 => exact HC0_1.out); rintro e w36 ⟨v321, rfl, ho0, hb⟩; refine ⟨_, rfl, ?_⟩; have n0_ := z8_A (Kd.R_elder' z8_15 (Kd.R_base ho0) hb); have n1_ := z8_A (Kd.R_elder' z8_18 (Kd.R_base ho0) hb); have n2_ := z8_A (Kd.R_elder' z8_22 (Kd.R_base ho0) hb); have n3_ := z8_A (Kd.R_elder' z8_21 (Kd.R_base ho0) hb); have n4_ := z8_A (Kd.R_lower (Kd.R_new' (Kd.R_new' (Kd.R_new' (Kd.R_new' ho0 (Kd.R_lt z8_15)) (Kd.R_lt z8_18)) (Kd.R_lt z8_22)) (Kd.R_lt z8_21)) (below_size z8_6)); have n5_ := z8_A (blk_below (g := gb299) (o := .cells #[.int .i64 a0_0, .slice A0_1 l0_1.length c0_1] 24 (0, 0)) z8_3 hb); have n6_ := z8_A (blk_below (g := gb300) (o := .cells #[.int .i64 a1_0, .int .i64 a1_1, .int .i64 a1_2] 26 (0, 0)) z8_4 hb); have n7_ := z8_A (below_step z8_6 hb); clear HO305 HO311 HO314 HO317 BK299 BK300 HB; revert n0_ n1_ n2_ n3_ n4_ n5_ n6_ n7_; intro HO305 HO311 HO314 HO317 HO322 BK299 BK300 HB; (try clear hb); (try clear hb2); (try clear hk); (try clear hi); (try clear ho0)) | ((with_reducible refine gate_dst (N := 11) rfl ?_); refine box_event ?hg (N := 11) ?hd (cs := #[.int .i64 0, .slice none 0 0]) (t := 30) ?hr ?_; (case hd => rfl); (case hg => rfl); (case hr => first | (go_simp; done) | (go_simp; rfl)); intro gb323 hg w37 hbox hb; have n0_ := z8_A (Kd.R_below z8_15 hb); have n1_ := z8_A (Kd.R_below z8_18 hb); have n2_ := z8_A (Kd.R_below z8_22 hb); have n3_ := z8_A (Kd.R_below z8_21 hb); have n4_ := z8_A (Kd.R_below z8_31 hb); have n5_ := z8_A (blk_below (g := gb299) (o := .cells #[.int .i64 a0_0, .slice A0_1 l0_1.length c0_1] 24 (0, 0)) z8_3 hb); have n6_ := z8_A (blk_below (g := gb300) (o := .cells #[.int .i64 a1_0, .int .i64 a1_1, .int .i64 a1_2] 26 (0, 0)) z8_4 hb); have n7_ := z8_A (below_step z8_6 hb); have n8_ := z8_A (hbox); have n9_ := z8_A ((by rw [hg]; exact (below_size z8_6) : w.heap.size ≤ gb323)); have n10_ := z8_A ((by rw [hg]; exact (below_size z8_6) : w.heap.size ≤ gb323)); have n11_ := z8_A ((z8_41 : gb299 ≠ gb323)); have n12_ := z8_A ((z8_42 : gb323 ≠ gb299)); have n13_ := z8_A ((by rw [hg]; exact Nat.ne_of_lt (blk_lt (g := gb300) (o := .cells #[.int .i64 a1_0, .int .i64 a1_1, .int .i64 a1_2] 26 (0, 0)) z8_4) : gb300 ≠ gb323)); have n14_ := z8_A ((by rw [hg]; exact Nat.ne_of_gt (blk_lt (g := gb300) (o := .cells #[.int .i64 a1_0, .int .i64 a1_1, .int .i64 a1_2] 26 (0, 0)) z8_4) : gb323 ≠ gb300)); clear HO305 HO311 HO314 HO317 HO322 BK299 BK300 HB; revert n0_ n1_ n2_ n3_ n4_ n5_ n6_ n7_ n8_ n9_ n10_ n11_ n12_ n13_ n14_; intro HO305 HO311 HO314 HO317 HO322 BK299 BK300 HB BK323 GW323 GE323 NB299_323 NB323_299 NB300_323 NB323_300; clear hb hbox hg; have hnb38 := NB323_299.out; have hnc38 := NB299_323.out; have hnb39 := NB323_300.out; have hnc39 := NB300_323.out; have hcz40_0 : w37.cell? ⟨gb323, 0, none⟩ = some (.int .i64 0) := (blk_cell BK323.out 0).trans rfl; have hcz40_1 : w37.cell? ⟨gb323, 1, none⟩ = some (.slice none 0 0) := (blk_cell BK323.out 1).trans rfl; have hfz40_0 := blk_frozen BK323.out 0; have hfz40_1 := blk_frozen BK323.out 1; obtain ⟨Ao41, co41, eo41⟩ := Kd.R_slice HO322.out; subst eo41) | ((with_reducible refine gate_callee (f := 13) rfl ?_); refine goesL_ (some 44) rfl rfl Try.func13 z8_12 rfl #[.slice A2 l2.length c2] rfl z8_2 ?_; (with_reducible refine (laws_toIntS.calls k _ _ l2 t324 _ ?side1 ?side2 A19.out).mono ?_); (case side1 => exact Kd.C_below HR2.out z8_1); (case side2 => exact HC2.out); rintro e w42 ⟨v325, rfl, ho0, hb⟩; refine ⟨_, rfl, ?_⟩; have n0_ := z8_A (Kd.R_elder' z8_49 (Kd.R_base ho0) hb); have n1_ := z8_A (Kd.R_elder' z8_48 (Kd.R_base ho0) hb); have n2_ := z8_A (Kd.R_elder' z8_47 (Kd.R_base ho0) hb); have n3_ := z8_A (Kd.R_elder' z8_46 (Kd.R_base ho0) hb); have n4_ := z8_A (Kd.R_elder' z8_45 (Kd.R_base ho0) hb); have n5_ := z8_A (Kd.R_lower (Kd.R_new' (Kd.R_new' (Kd.R_new' (Kd.R_new' (Kd.R_new' ho0 (Kd.R_lt z8_49)) (Kd.R_lt z8_48)) (Kd.R_lt z8_47)) (Kd.R_lt z8_46)) (Kd.R_lt z8_45)) (below_size z8_1)); have n6_ := z8_A (blk_below (g := gb299) (o := .cells #[.int .i64 a0_0, .slice A0_1 l0_1.length c0_1] 24 (0, 0)) (by (with_reducible repeat (first | refine blk_drewN ?_ _ | refine blk_drew ?_ | refine blk_alloc ?_ _)); refine blk_far ?_ NB299_323.out _; (with_reducible repeat (first | refine blk_drewN ?_ _ | refine blk_drew ?_ | refine blk_alloc ?_ _)); refine blk_far ?_ NB299_323.out _; (with_reducible repeat (first | refine blk_drewN ?_ _ | refine blk_drew ?_ | refine blk_alloc ?_ _)); exact BK299.out) hb); have n7_ := z8_A (blk_below (g := gb300) (o := .cells #[.int .i64 a1_0, .int .i64 a1_1, .int .i64 a1_2] 26 (0, 0)) (by (with_reducible repeat (first | refine blk_drewN ?_ _ | refine blk_drew ?_ | refine blk_alloc ?_ _)); refine blk_far ?_ NB300_323.out _; (with_reducible repeat (first | refine blk_drewN ?_ _ | refine blk_drew ?_ | refine blk_alloc ?_ _)); refine blk_far ?_ NB300_323.out _; (with_reducible repeat (first | refine blk_drewN ?_ _ | refine blk_drew ?_ | refine blk_alloc ?_ _)); exact BK300.out) hb); have n8_ := z8_A (blk_below (g := gb323) (o := .cells #[.int .i64 t319, .slice Ao41 t320.length co41] 30 (0, 0)) (by (with_reducible repeat (first | refine blk_drewN ?_ _ | refine blk_drew ?_ | refine blk_alloc ?_ _)); refine blk_put (cs := #[.int .i64 t319, .slice none 0 0]) ?_ 1 _ rfl; (with_reducible repeat (first | refine blk_drewN ?_ _ | refine blk_drew ?_ | refine blk_alloc ?_ _)); refine blk_put (cs := #[.int .i64 0, .slice none 0 0]) ?_ 0 _ rfl; (with_reducible repeat (first | refine blk_drewN ?_ _ | refine blk_drew ?_ | refine blk_alloc ?_ _)); exact BK323.out) hb); have n9_ := z8_A (below_step z8_1 hb); clear HO305 HO311 HO314 HO317 HO322 BK299 BK300 BK323 HB; revert n0_ n1_ n2_ n3_ n4_ n5_ n6_ n7_ n8_ n9_; intro HO305 HO311 HO314 HO317 HO322 HO326 BK299 BK300 BK323 HB; (try clear hb); (try clear hb2); (try clear hk); (try clear hi); (try clear ho0)))
   have n0_ := z8_A (Kd.R_drew HO305.out)
   have n1_ := z8_A (Kd.R_drew HO311.out)
   have n2_ := z8_A (Kd.R_drew HO314.out)
   have n3_ := z8_A (Kd.R_drew HO317.out)
   have n4_ := z8_A (Kd.R_drew HO322.out)
   have n5_ := z8_A (Kd.R_drew HO326.out)
   have n6_ := z8_A (blk_drew BK299.out)
   have n7_ := z8_A (blk_drew BK300.out)
   have n8_ := z8_A (blk_drew BK323.out)
   have n9_ := z8_A (below_drew1 HB.out)
   clear HO305
   clear HO311
   clear HO314
   clear HO317
   clear HO322
   clear HO326
   clear BK299
   clear BK300
   clear BK323
   clear HB
   have HO305 := n0_
   have HO311 := n1_
   have HO314 := n2_
   have HO317 := n3_
   have HO322 := n4_
   have HO326 := n5_
   have BK299 := n6_
   have BK300 := n7_
   have BK323 := n8_
   have HB := n9_
   clear n0_ n1_ n2_ n3_ n4_ n5_ n6_ n7_ n8_ n9_
   refine start_ (n := 12) (S := fun w' => w'.cell? ⟨gb323, 0, none⟩ = some (.int .i64 t319) ∧ w'.cell? ⟨gb323, 1, none⟩ = some (.slice Ao41 t320.length co41) ∧ w'.cell? ⟨gb300, 0, none⟩ = some (.int .i64 a1_0) ∧ w'.cell? ⟨gb300, 1, none⟩ = some (.int .i64 a1_1) ∧ w'.cell? ⟨gb300, 2, none⟩ = some (.int .i64 a1_2)) (ds := []) #[false, false, false, false, false, false, false, false, false, false, false, false] z8_12 rfl rfl ⟨(blk_cell BK323.out 0).trans rfl, (blk_cell BK323.out 1).trans rfl, (blk_cell BK300.out 0).trans rfl, (blk_cell BK300.out 1).trans rfl, (blk_cell BK300.out 2).trans rfl⟩ (fun hHeld => ?_); refine with_tabW laws_FnExactRunRule.tab10 laws_FnExactRunRule.bits10 (fun HT_ HW_ => ?_)
   generalize w42.drew = w43 at HO305 HO311 HO314 HO317 HO322 HO326 BK299 BK300 BK323 HB hHeld ⊢
   refine pure_ (i := 3) (N := some 49) (v := ?_) (a' := ?_) #[false, false, false, true, false, false, false, false, false, false, false, false] rfl rfl (any_of HT_.out z8_12) (fun _ _ _ h => h) (Or.inl ⟨z8_55, ?_⟩) ?_ ?_
   rotate_left
   ·intro w'
    go_simp
    with_reducible rfl
   rotate_left
   ·simp only [Act.put, List.setIfInBounds_toArray, List.set_cons_zero, List.set_cons_succ, i64_w, i32_w]
    rfl
   refine take_ (i := 0) (N := some 46) (v := ?_) (a' := ?_) #[true, false, false, true, false, false, false, false, false, false, false, false] rfl rfl (take_ofW HT_.out HW_.out z8_12) (fun _ _ _ h => h) (Or.inl ⟨z8_55, ?_⟩) hHeld ?_ ?_
   rotate_left
   ·rintro w' ⟨s0, s1, s2, s3, s4⟩
    go_simp
    with_reducible rfl
   rotate_left
   ·simp only [Act.put, List.setIfInBounds_toArray, List.set_cons_zero, List.set_cons_succ, i64_w, i32_w]
    rfl
   refine take_ (i := 1) (N := some 47) (v := ?_) (a' := ?_) #[true, true, false, true, false, false, false, false, false, false, false, false] rfl rfl (take_ofW HT_.out HW_.out z8_12) (fun _ _ _ h => h) (Or.inl ⟨z8_55, ?_⟩) hHeld ?_ ?_
   rotate_left
   ·rintro w' ⟨s0, s1, s2, s3, s4⟩
    go_simp
    with_reducible rfl
   rotate_left
   ·simp only [Act.put, List.setIfInBounds_toArray, List.set_cons_zero, List.set_cons_succ, i64_w, i32_w]
    rfl
   refine one_ (i := 2) (N := some 48) #[true, true, true, true, false, false, false, false, false, false, false, false] rfl rfl (one_of HT_.out z8_12) z8_36 (fun K hK => ?_)
   refine goes_ Try.func12 z8_12 rfl #[.agg #[.int .i64 a1_0, .int .i64 a1_1, .int .i64 a1_2]] z8_55 rfl rfl z8_2 ?_
   with_reducible refine (laws_toRule.calls a1_0 a1_1 a1_2 t327 t328 t329 _ A20.out).mono ?_
   rintro e w44 ⟨rfl, hb⟩
   refine ⟨_, rfl, ?_⟩
   have n0_ := z8_A (Kd.R_below z8_15 hb)
   have n1_ := z8_A (Kd.R_below z8_18 hb)
   have n2_ := z8_A (Kd.R_below z8_22 hb)
   have n3_ := z8_A (Kd.R_below z8_21 hb)
   have n4_ := z8_A (Kd.R_below z8_31 hb)
   have n5_ := z8_A (Kd.R_below z8_50 hb)
   have n6_ := z8_A (blk_below (g := gb299) (o := .cells #[.int .i64 a0_0, .slice A0_1 l0_1.length c0_1] 24 (0, 0)) z8_3 hb)
   have n7_ := z8_A (blk_below (g := gb300) (o := .cells #[.int .i64 a1_0, .int .i64 a1_1, .int .i64 a1_2] 26 (0, 0)) z8_4 hb)
   have n8_ := z8_A (blk_below (g := gb323) (o := .cells #[.int .i64 t319, .slice Ao41 t320.length co41] 30 (0, 0)) z8_5 hb)
   have n9_ := z8_A (below_step z8_1 hb)
   clear HO305
   clear HO311
   clear HO314
   clear HO317
   clear HO322
   clear HO326
   clear BK299
   clear BK300
   clear BK323
   clear HB
   have HO305 := n0_
   have HO311 := n1_
   have HO314 := n2_
   have HO317 := n3_
   have HO322 := n4_
   have HO326 := n5_
   have BK299 := n6_
   have BK300 := n7_
   have BK323 := n8_
   have HB := n9_
   clear n0_ n1_ n2_ n3_ n4_ n5_ n6_ n7_ n8_ n9_
   (try clear hb)
   (try clear hb2)
   (try clear hk)
   (try clear hi)
   obtain ⟨Ao45, co45, eo45⟩ := Kd.R_slice HO326.out
   (first | subst eo45 | (injection eo45 with f1_ f2_ f3_; have f4_ := f1_.symm; have f5_ := f3_.symm; clear f1_ f2_ f3_; subst f4_; subst f5_))
   refine hK.out _ _ ⟨(blk_cell BK323.out 0).trans rfl, (blk_cell BK323.out 1).trans rfl, (blk_cell BK300.out 0).trans rfl, (blk_cell BK300.out 1).trans rfl, (blk_cell BK300.out 2).trans rfl⟩ (fun hHeld => ?_)
   clear hK K
   refine norm_ (a' := ?_) ?_ ?_
   rotate_left
   ·show Act.put _ (some 48) _ = _
    simp only [Act.put, List.setIfInBounds_toArray, List.set_cons_zero, List.set_cons_succ, i64_w, i32_w]
    rfl
   refine one_ (i := 4) (N := some 50) #[true, true, true, true, true, false, false, false, false, false, false, false] rfl rfl (one_of HT_.out z8_12) z8_36 (fun K hK => ?_)
   refine goes_ Try.func18 z8_12 rfl #[.agg #[.int .i64 t319, .slice Ao41 t320.length co41], .agg #[.int .i64 t327, .int .i64 t328, .int .i64 t329], .slice Ao45 t324.length co45] z8_55 rfl rfl z8_2 ?_
   with_reducible refine (impl_RunRule.calls k t319 _ _ t320 t327 t328 t329 _ _ t324 t330 t333 t336 _ ?side1 ?side2 ?side3 ?side4 A21.out).mono ?_
   (case side1 => have zh := (Kd.R_reads' HO322.out).2.2; exact z8_C)
   (case side2 => exact (Kd.R_reads' HO322.out).2.1)
   (case side3 => have zh := (Kd.R_reads' HO326.out).2.2; exact z8_C)
   (case side4 => exact (Kd.R_reads' HO326.out).2.1)
   rintro e w46 ⟨v331, v334, rfl, ho0, ho1, hb⟩
   refine ⟨_, rfl, ?_⟩
   have n0_ := z8_A (Kd.R_mono (Kd.R_told (Kd.R_told (Kd.R_old z8_15 hb) (Kd.R_base ho0)) (Kd.R_base ho1)) (fun _ h_ => h_.1))
   have n1_ := z8_A (Kd.R_mono (Kd.R_told (Kd.R_told (Kd.R_old z8_18 hb) (Kd.R_base ho0)) (Kd.R_base ho1)) (fun _ h_ => h_.1))
   have n2_ := z8_A (Kd.R_mono (Kd.R_told (Kd.R_told (Kd.R_old z8_22 hb) (Kd.R_base ho0)) (Kd.R_base ho1)) (fun _ h_ => h_.1))
   have n3_ := z8_A (Kd.R_mono (Kd.R_told (Kd.R_told (Kd.R_old z8_21 hb) (Kd.R_base ho0)) (Kd.R_base ho1)) (fun _ h_ => h_.1))
   have n4_ := z8_A (Kd.R_mono (Kd.R_told (Kd.R_told (Kd.R_old z8_31 hb) (Kd.R_base ho0)) (Kd.R_base ho1)) (fun _ h_ => h_.1))
   have n5_ := z8_A (Kd.R_mono (Kd.R_told (Kd.R_told (Kd.R_old z8_50 hb) (Kd.R_base ho0)) (Kd.R_base ho1)) (fun _ h_ => h_.1))
   have n6_ := z8_A (Kd.R_lower (Kd.R_new' (Kd.R_new' (Kd.R_new' (Kd.R_new' (Kd.R_new' (Kd.R_new' ho0 (Kd.R_lt z8_15)) (Kd.R_lt z8_18)) (Kd.R_lt z8_22)) (Kd.R_lt z8_21)) (Kd.R_lt z8_31)) (Kd.R_lt z8_50)) (below_size z8_1))
   have n7_ := z8_A (Kd.R_lower (Kd.R_new' (Kd.R_new' (Kd.R_new' (Kd.R_new' (Kd.R_new' (Kd.R_new' ho1 (Kd.R_lt z8_15)) (Kd.R_lt z8_18)) (Kd.R_lt z8_22)) (Kd.R_lt z8_21)) (Kd.R_lt z8_31)) (Kd.R_lt z8_50)) (below_size z8_1))
   have n8_ := z8_A (blk_below (g := gb299) (o := .cells #[.int .i64 a0_0, .slice A0_1 l0_1.length c0_1] 24 (0, 0)) z8_3 hb)
   have n9_ := z8_A (blk_below (g := gb300) (o := .cells #[.int .i64 a1_0, .int .i64 a1_1, .int .i64 a1_2] 26 (0, 0)) z8_4 hb)
   have n10_ := z8_A (blk_below (g := gb323) (o := .cells #[.int .i64 t319, .slice Ao41 t320.length co41] 30 (0, 0)) z8_5 hb)
   have n11_ := z8_A (below_step z8_1 hb)
   clear HO305
   clear HO311
   clear HO314
   clear HO317
   clear HO322
   clear HO326
   clear BK299
   clear BK300
   clear BK323
   clear HB
   have HO305 := n0_
   have HO311 := n1_
   have HO314 := n2_
   have HO317 := n3_
   have HO322 := n4_
   have HO326 := n5_
   have HO332 := n6_
   have HO335 := n7_
   have BK299 := n8_
   have BK300 := n9_
   have BK323 := n10_
   have HB := n11_
   clear n0_ n1_ n2_ n3_ n4_ n5_ n6_ n7_ n8_ n9_ n10_ n11_
   (try clear hb)
   (try clear hb2)
   (try clear hk)
   (try clear hi)
   (try clear ho0)
   (try clear ho1)
   refine hK.out _ _ ⟨(blk_cell BK323.out 0).trans rfl, (blk_cell BK323.out 1).trans rfl, (blk_cell BK300.out 0).trans rfl, (blk_cell BK300.out 1).trans rfl, (blk_cell BK300.out 2).trans rfl⟩ (fun hHeld => ?_)
   clear hK K
   refine norm_ (a' := ?_) ?_ ?_
   rotate_left
   ·show Act.put _ (some 50) _ = _
    simp only [Act.put, List.setIfInBounds_toArray, List.set_cons_zero, List.set_cons_succ, i64_w, i32_w]
    rfl
   refine pure_ (i := 5) (N := some 45) (v := ?_) (a' := ?_) #[true, true, true, true, true, true, false, false, false, false, false, false] rfl rfl (any_of HT_.out z8_12) (fun _ _ _ h => h) (Or.inl ⟨z8_55, ?_⟩) ?_ ?_
   rotate_left
   ·intro w'
    go_simp
    with_reducible rfl
   rotate_left
   ·simp only [Act.put, List.setIfInBounds_toArray, List.set_cons_zero, List.set_cons_succ, i64_w, i32_w]
    rfl
   refine pure_ (i := 6) (N := some 51) (v := ?_) (a' := ?_) #[true, true, true, true, true, true, true, false, false, false, false, false] rfl rfl (any_of HT_.out z8_12) (fun _ _ _ h => h) (Or.inl ⟨z8_55, ?_⟩) ?_ ?_
   rotate_left
   ·intro w'
    go_simp
    with_reducible rfl
   rotate_left
   ·simp only [Act.put, List.setIfInBounds_toArray, List.set_cons_zero, List.set_cons_succ, i64_w, i32_w]
    rfl
   refine pure_ (i := 7) (N := some 52) (v := ?_) (a' := ?_) #[true, true, true, true, true, true, true, true, false, false, false, false] rfl rfl (any_of HT_.out z8_12) (fun _ _ _ h => h) (Or.inl ⟨z8_55, ?_⟩) ?_ ?_
   rotate_left
   ·intro w'
    go_simp
    with_reducible rfl
   rotate_left
   ·simp only [Act.put, List.setIfInBounds_toArray, List.set_cons_zero, List.set_cons_succ, i64_w, i32_w]
    rfl
   refine pure_ (i := 8) (N := some 53) (v := ?_) (a' := ?_) #[true, true, true, true, true, true, true, true, true, false, false, false] rfl rfl (any_of HT_.out z8_12) (fun _ _ _ h => h) (Or.inl ⟨z8_55, ?_⟩) ?_ ?_
   rotate_left
   ·intro w'
    go_simp
    with_reducible rfl
   rotate_left
   ·simp only [Act.put, List.setIfInBounds_toArray, List.set_cons_zero, List.set_cons_succ, i64_w, i32_w]
    rfl
   refine pure_ (i := 9) (N := some 13) (v := ?_) (a' := ?_) #[true, true, true, true, true, true, true, true, true, true, false, false] rfl rfl (any_of HT_.out z8_12) (fun _ _ _ h => h) (Or.inl ⟨z8_55, ?_⟩) ?_ ?_
   rotate_left
   ·intro w'
    go_simp
    with_reducible rfl
   rotate_left
   ·simp only [Act.put, List.setIfInBounds_toArray, List.set_cons_zero, List.set_cons_succ, i64_w, i32_w]
    rfl
   refine pure_ (i := 10) (N := some 14) (v := ?_) (a' := ?_) #[true, true, true, true, true, true, true, true, true, true, true, false] rfl rfl (any_of HT_.out z8_12) (fun _ _ _ h => h) (Or.inl ⟨z8_55, ?_⟩) ?_ ?_
   rotate_left
   ·intro w'
    go_simp
    with_reducible rfl
   rotate_left
   ·simp only [Act.put, List.setIfInBounds_toArray, List.set_cons_zero, List.set_cons_succ, i64_w, i32_w]
    rfl
   refine pure_ (i := 11) (N := some 15) (v := ?_) (a' := ?_) #[true, true, true, true, true, true, true, true, true, true, true, true] rfl rfl (any_of HT_.out z8_12) (fun _ _ _ h => h) (Or.inl ⟨z8_55, ?_⟩) ?_ ?_
   rotate_left
   ·intro w'
    go_simp
    with_reducible rfl
   rotate_left
   ·simp only [Act.put, List.setIfInBounds_toArray, List.set_cons_zero, List.set_cons_succ, i64_w, i32_w]
    rfl
   refine done_ (done_of HT_.out z8_12) ?_
   go_upto_region 11 with (fail)
   go_cut [68] (fun v68 wc => ∃ (kq : Nat) (x68_21 : Bool), v68 = .bool x68_21 ∧ Aside0 (laws_FnExactRunRule.j0 kq l2 t312 t315 t318 t324 t330 t333 t336 x68_21 a0_0 l0_1 a1_0 a1_1 a1_2 t319 t320 = some r) ∧ Aside0 (kq ≤ k) ∧ Aside0 (Kd.R (Kd.int .i64) 3 wc w.heap.size (fun k_ => z8_V k_ v316 ∧ some k_ ≠ ((.slice Ao45 t324.length co45) : Value).ownBlock ∧ z8_V k_ v331 ∧ z8_V k_ v334 ∧ some k_ ≠ ((.slice Ao41 t320.length co41) : Value).ownBlock) v313 t312) ∧ Aside0 (Kd.R (Kd.int .i64) 3 wc w.heap.size (fun k_ => z8_V k_ v313 ∧ some k_ ≠ ((.slice Ao45 t324.length co45) : Value).ownBlock ∧ z8_V k_ v331 ∧ z8_V k_ v334 ∧ some k_ ≠ ((.slice Ao41 t320.length co41) : Value).ownBlock) v316 t315) ∧ Aside0 (Kd.R (Kd.int .i64) 3 wc w.heap.size (fun k_ => z8_V k_ v313 ∧ z8_V k_ v316 ∧ z8_V k_ v331 ∧ z8_V k_ v334 ∧ some k_ ≠ ((.slice Ao41 t320.length co41) : Value).ownBlock) (.slice Ao45 t324.length co45) t324) ∧ Aside0 (Kd.Q (Kd.int .i64) 3 wc w.heap.size (fun k_ => z8_V k_ v313 ∧ z8_V k_ v316 ∧ some k_ ≠ ((.slice Ao45 t324.length co45) : Value).ownBlock ∧ z8_V k_ v334 ∧ some k_ ≠ ((.slice Ao41 t320.length co41) : Value).ownBlock) v331 t330) ∧ Aside0 (Kd.Q (Kd.int .i64) 3 wc w.heap.size (fun k_ => z8_V k_ v313 ∧ z8_V k_ v316 ∧ some k_ ≠ ((.slice Ao45 t324.length co45) : Value).ownBlock ∧ z8_V k_ v331 ∧ some k_ ≠ ((.slice Ao41 t320.length co41) : Value).ownBlock) v334 t333) ∧ Aside0 (Kd.Q (Kd.int .i64) 3 wc w.heap.size (fun k_ => z8_V k_ v313 ∧ z8_V k_ v316 ∧ some k_ ≠ ((.slice Ao45 t324.length co45) : Value).ownBlock ∧ z8_V k_ v331 ∧ z8_V k_ v334) (.slice Ao41 t320.length co41) t320) ∧ Aside0 (wc.heap[gb299]? = some (.cells #[.int .i64 a0_0, (.slice A0_1 l0_1.length c0_1)] 24 (0, 0))) ∧ Aside0 (wc.heap[gb300]? = some (.cells #[.int .i64 a1_0, .int .i64 a1_1, .int .i64 a1_2] 26 (0, 0))) ∧ Aside0 (wc.heap[gb323]? = some (.cells #[.int .i64 t319, (.slice Ao41 t320.length co41)] 30 (0, 0))) ∧ Aside0 (Below w.heap.size w wc))
   case first =>
    have H := HC22.out
    clear HC22
    replace H := Option.bind_eq_some_iff.mp H
    obtain ⟨t337, A470, H⟩ := H
    (try dsimp only at H)
    have A47 := z8_A A470
    clear A470
    by_cases c48 : t337 = true
    ·subst c48
     have H1 : ((laws_eqIntS.f k t333 t315).bind fun t338 => (if t338 = true then (laws_FnExactRunRule.j0 k l2 t312 t315 t318 t324 t330 t333 t336 (t336 != t318) a0_0 l0_1 a1_0 a1_1 a1_2 t319 t320) else (laws_FnExactRunRule.j0 k l2 t312 t315 t318 t324 t330 t333 t336 true a0_0 l0_1 a1_0 a1_1 a1_2 t319 t320))) = some r := z8_51
     clear H
     have H := H1
     clear H1
     replace H := Option.bind_eq_some_iff.mp H
     obtain ⟨t338, A490, H⟩ := H
     (try dsimp only at H)
     have A49 := z8_A A490
     clear A490
     by_cases c50 : t338 = true
     ·subst c50
      have H1 : (laws_FnExactRunRule.j0 k l2 t312 t315 t318 t324 t330 t333 t336 (t336 != t318) a0_0 l0_1 a1_0 a1_1 a1_2 t319 t320) = some r := z8_51
      clear H
      have H := H1
      clear H1
      have H' := z8_A H
      clear H
      obtain ⟨Ao51, co51, eo51⟩ := Kd.R_slice HO332.out
      subst eo51
      obtain ⟨Ao52, co52, eo52⟩ := Kd.R_slice HO314.out
      subst eo52
      go_wp2_with (first | ((with_reducible refine gate_callee (f := 16) rfl ?_); refine goesL_ (some 56) rfl rfl Try.func16 z8_12 rfl #[.slice Ao51 t330.length co51, .slice Ao52 t312.length co52] rfl z8_2 ?_; (with_reducible refine (laws_eqIntS.calls k _ _ t330 _ _ t312 true _ ?side1 ?side2 ?side3 ?side4 A47.out).mono ?_); (case side1 => have zh := (Kd.R_reads' HO332.out).2.2; exact z8_C); (case side2 => exact (Kd.R_reads' HO332.out).2.1); (case side3 => have zh := (Kd.R_reads' HO314.out).2.2; exact z8_C); (case side4 => exact (Kd.R_reads' HO314.out).2.1); rintro e w' ⟨rfl, ⟨nd, rfl⟩⟩; refine ⟨_, rfl, ?_⟩; obtain ⟨Ao53, co53, eo53⟩ := Kd.R_slice HO335.out; subst eo53; obtain ⟨Ao54, co54, eo54⟩ := Kd.R_slice HO317.out; subst eo54) | (go_at_call 16; (with_reducible refine (laws_eqIntS.calls k _ _ t333 _ _ t315 true _ ?side1 ?side2 ?side3 ?side4 A49.out).mono ?_); (case side1 => have zh := (Kd.R_reads' HO335.out).2.2; exact z8_C); (case side2 => exact (Kd.R_reads' HO335.out).2.1); (case side3 => have zh := (Kd.R_reads' HO317.out).2.2; exact z8_C); (case side4 => exact (Kd.R_reads' HO317.out).2.1); rintro e w' ⟨rfl, ⟨nd, rfl⟩⟩))
      go_meet
      case rel => exact ⟨_, ((t336 != t318)), z8_32, H', ⟨by first | omega | exact Nat.le_refl _⟩, ⟨z8_40⟩, ⟨z8_39⟩, ⟨z8_43⟩, ⟨Kd.Q_of_R z8_38⟩, ⟨Kd.Q_of_R z8_37⟩, ⟨Kd.Q_of_R z8_44⟩, ⟨z8_3⟩, ⟨z8_4⟩, ⟨z8_5⟩, ⟨z8_1⟩⟩
     ·replace c50 := Bool.eq_false_iff.mpr c50
      subst c50
      have H1 : (laws_FnExactRunRule.j0 k l2 t312 t315 t318 t324 t330 t333 t336 true a0_0 l0_1 a1_0 a1_1 a1_2 t319 t320) = some r := z8_23
      clear H
      have H := H1
      clear H1
      have H' := z8_A H
      clear H
      obtain ⟨Ao55, co55, eo55⟩ := Kd.R_slice HO332.out
      subst eo55
      obtain ⟨Ao56, co56, eo56⟩ := Kd.R_slice HO314.out
      subst eo56
      go_wp2_with (first | ((with_reducible refine gate_callee (f := 16) rfl ?_); refine goesL_ (some 56) rfl rfl Try.func16 z8_12 rfl #[.slice Ao55 t330.length co55, .slice Ao56 t312.length co56] rfl z8_2 ?_; (with_reducible refine (laws_eqIntS.calls k _ _ t330 _ _ t312 true _ ?side1 ?side2 ?side3 ?side4 A47.out).mono ?_); (case side1 => have zh := (Kd.R_reads' HO332.out).2.2; exact z8_C); (case side2 => exact (Kd.R_reads' HO332.out).2.1); (case side3 => have zh := (Kd.R_reads' HO314.out).2.2; exact z8_C); (case side4 => exact (Kd.R_reads' HO314.out).2.1); rintro e w' ⟨rfl, ⟨nd, rfl⟩⟩; refine ⟨_, rfl, ?_⟩; obtain ⟨Ao57, co57, eo57⟩ := Kd.R_slice HO335.out; subst eo57; obtain ⟨Ao58, co58, eo58⟩ := Kd.R_slice HO317.out; subst eo58) | (go_at_call 16; (with_reducible refine (laws_eqIntS.calls k _ _ t333 _ _ t315 false _ ?side1 ?side2 ?side3 ?side4 A49.out).mono ?_); (case side1 => have zh := (Kd.R_reads' HO335.out).2.2; exact z8_C); (case side2 => exact (Kd.R_reads' HO335.out).2.1); (case side3 => have zh := (Kd.R_reads' HO317.out).2.2; exact z8_C); (case side4 => exact (Kd.R_reads' HO317.out).2.1); rintro e w' ⟨rfl, ⟨nd, rfl⟩⟩))
      go_meet
      case rel => exact ⟨_, (true), z8_32, H', ⟨by first | omega | exact Nat.le_refl _⟩, ⟨z8_40⟩, ⟨z8_39⟩, ⟨z8_43⟩, ⟨Kd.Q_of_R z8_38⟩, ⟨Kd.Q_of_R z8_37⟩, ⟨Kd.Q_of_R z8_44⟩, ⟨z8_3⟩, ⟨z8_4⟩, ⟨z8_5⟩, ⟨z8_1⟩⟩
    ·replace c48 := Bool.eq_false_iff.mpr c48
     subst c48
     have H1 : (laws_FnExactRunRule.j0 k l2 t312 t315 t318 t324 t330 t333 t336 true a0_0 l0_1 a1_0 a1_1 a1_2 t319 t320) = some r := z8_23
     clear H
     have H := H1
     clear H1
     have H' := z8_A H
     clear H
     obtain ⟨Ao59, co59, eo59⟩ := Kd.R_slice HO332.out
     subst eo59
     obtain ⟨Ao60, co60, eo60⟩ := Kd.R_slice HO314.out
     subst eo60
     go_wp2_with (first | ((with_reducible refine gate_callee (f := 16) rfl ?_); refine goesL_ (some 56) rfl rfl Try.func16 z8_12 rfl #[.slice Ao59 t330.length co59, .slice Ao60 t312.length co60] rfl z8_2 ?_; (with_reducible refine (laws_eqIntS.calls k _ _ t330 _ _ t312 false _ ?side1 ?side2 ?side3 ?side4 A47.out).mono ?_); (case side1 => have zh := (Kd.R_reads' HO332.out).2.2; exact z8_C); (case side2 => exact (Kd.R_reads' HO332.out).2.1); (case side3 => have zh := (Kd.R_reads' HO314.out).2.2; exact z8_C); (case side4 => exact (Kd.R_reads' HO314.out).2.1); rintro e w' ⟨rfl, ⟨nd, rfl⟩⟩; refine ⟨_, rfl, ?_⟩))
     go_meet
     case rel => exact ⟨_, (true), z8_32, H', ⟨by first | omega | exact Nat.le_refl _⟩, ⟨z8_40⟩, ⟨z8_39⟩, ⟨z8_43⟩, ⟨Kd.Q_of_R z8_38⟩, ⟨Kd.Q_of_R z8_37⟩, ⟨Kd.Q_of_R z8_44⟩, ⟨z8_3⟩, ⟨z8_4⟩, ⟨z8_5⟩, ⟨z8_1⟩⟩
   case rest =>
    clear HC22
    (try clear c1); (try clear c2); (try clear p2); (try clear c3); (try clear c4); (try clear c4b0); (try clear c4b1); (try clear c5); (try clear c8); (try clear c8b0); (try clear c9); (try clear c11); (try clear c12); (try clear c13); (try clear c16); (try clear c17); (try clear c18); (try clear c25); (try clear c38); (try clear c39); (try clear c48); (try clear c50); (try clear hcz12_0); (try clear hcz12_1); (try clear hcz26_0); (try clear hcz26_1); (try clear hcz35_0); (try clear hcz35_1); (try clear hcz40_0); (try clear hcz40_1); (try clear hfz12_0); (try clear hfz12_1); (try clear hfz26_0); (try clear hfz26_1); (try clear hfz35_0); (try clear hfz35_1); (try clear hfz40_0); (try clear hfz40_1)
    obtain ⟨kq, x68_21, rfl, HA, HJ21, HO_8, HO_9, HO_12, HO_13, HO_14, HO_324001, BK299, BK300, BK323, HB⟩ := hcut
    cases kq with
    | zero => exact absurd HA.out (by simp [laws_FnExactRunRule.j0])
    | succ kj21 =>
     have H := HA.out
     clear HA
     simp only [laws_FnExactRunRule.j0] at H
     by_cases c61 : x68_21 = true
     ·subst c61
      have H1 : (some false) = some r := z8_51
      clear H
      have H := H1
      clear H1
      obtain rfl := Option.some.inj H
      go_wp2
      go_ret
      exact ⟨z8_16, z8_1⟩
     ·replace c61 := Bool.eq_false_iff.mpr c61
      subst c61
      have H1 : ((laws_toFlow.f kj21 a0_0 l0_1).bind fun bt339 => ((laws_eqFlow.f kj21 t319 t320 bt339.1 bt339.2).bind fun t343 => (if t343 = true then ((laws_toIntS.f kj21 l2).bind fun t344 => ((laws_eqIntS.f kj21 t324 t344).bind fun t347 => (if t347 = true then ((laws_markFlow.f kj21 t319 t320 1).bind fun bt348 => ((laws_markIntS.f kj21 t324 bt348.1).bind fun bt350 => (if bt350.1 < 0 then (laws_FnExactRunRule.j1 kj21 l2 t312 t315 t318 t330 t333 true a0_0 l0_1 a1_0 a1_1 a1_2) else ((laws_eqIntS.f kj21 t330 t312).bind fun t352 => (if t352 = true then ((laws_eqIntS.f kj21 t333 t315).bind fun t353 => (if t353 = true then (laws_FnExactRunRule.j1 kj21 l2 t312 t315 t318 t330 t333 (t336 != t318) a0_0 l0_1 a1_0 a1_1 a1_2) else (laws_FnExactRunRule.j1 kj21 l2 t312 t315 t318 t330 t333 true a0_0 l0_1 a1_0 a1_1 a1_2))) else (laws_FnExactRunRule.j1 kj21 l2 t312 t315 t318 t330 t333 true a0_0 l0_1 a1_0 a1_1 a1_2)))))) else (some false)))) else (some false)))) = some r := z8_23
      clear H
      have H := H1
      clear H1
      replace H := Option.bind_eq_some_iff.mp H
      obtain ⟨⟨t339, t340⟩, A620, H⟩ := H
      (try dsimp only at H)
      have A62 := z8_A A620
      clear A620
      replace H := Option.bind_eq_some_iff.mp H
      obtain ⟨t343, A630, H⟩ := H
      (try dsimp only at H)
      have A63 := z8_A A630
      clear A630
      by_cases c64 : t343 = true
      ·subst c64
       have H1 : ((laws_toIntS.f kj21 l2).bind fun t344 => ((laws_eqIntS.f kj21 t324 t344).bind fun t347 => (if t347 = true then ((laws_markFlow.f kj21 t319 t320 1).bind fun bt348 => ((laws_markIntS.f kj21 t324 bt348.1).bind fun bt350 => (if bt350.1 < 0 then (laws_FnExactRunRule.j1 kj21 l2 t312 t315 t318 t330 t333 true a0_0 l0_1 a1_0 a1_1 a1_2) else ((laws_eqIntS.f kj21 t330 t312).bind fun t352 => (if t352 = true then ((laws_eqIntS.f kj21 t333 t315).bind fun t353 => (if t353 = true then (laws_FnExactRunRule.j1 kj21 l2 t312 t315 t318 t330 t333 (t336 != t318) a0_0 l0_1 a1_0 a1_1 a1_2) else (laws_FnExactRunRule.j1 kj21 l2 t312 t315 t318 t330 t333 true a0_0 l0_1 a1_0 a1_1 a1_2))) else (laws_FnExactRunRule.j1 kj21 l2 t312 t315 t318 t330 t333 true a0_0 l0_1 a1_0 a1_1 a1_2)))))) else (some false)))) = some r := z8_51
       clear H
       have H := H1
       clear H1
       replace H := Option.bind_eq_some_iff.mp H
       obtain ⟨t344, A650, H⟩ := H
       (try dsimp only at H)
       have A65 := z8_A A650
       clear A650
       replace H := Option.bind_eq_some_iff.mp H
       obtain ⟨t347, A660, H⟩ := H
       (try dsimp only at H)
       have A66 := z8_A A660
       clear A660
       by_cases c67 : t347 = true
       ·subst c67
        have H1 : ((laws_markFlow.f kj21 t319 t320 1).bind fun bt348 => ((laws_markIntS.f kj21 t324 bt348.1).bind fun bt350 => (if bt350.1 < 0 then (laws_FnExactRunRule.j1 kj21 l2 t312 t315 t318 t330 t333 true a0_0 l0_1 a1_0 a1_1 a1_2) else ((laws_eqIntS.f kj21 t330 t312).bind fun t352 => (if t352 = true then ((laws_eqIntS.f kj21 t333 t315).bind fun t353 => (if t353 = true then (laws_FnExactRunRule.j1 kj21 l2 t312 t315 t318 t330 t333 (t336 != t318) a0_0 l0_1 a1_0 a1_1 a1_2) else (laws_FnExactRunRule.j1 kj21 l2 t312 t315 t318 t330 t333 true a0_0 l0_1 a1_0 a1_1 a1_2))) else (laws_FnExactRunRule.j1 kj21 l2 t312 t315 t318 t330 t333 true a0_0 l0_1 a1_0 a1_1 a1_2)))))) = some r := z8_51
        clear H
        have H := H1
        clear H1
        replace H := Option.bind_eq_some_iff.mp H
        obtain ⟨⟨t348, t349⟩, A680, H⟩ := H
        (try dsimp only at H)
        have A68 := z8_A A680
        clear A680
        replace H := Option.bind_eq_some_iff.mp H
        obtain ⟨⟨t350, t351⟩, A690, H⟩ := H
        (try dsimp only at H)
        have A69 := z8_A A690
        clear A690
        have HC70 := z8_A H
        clear H
        try go_wp2
        have n0_ := z8_A (Kd.R_drew HO_8.out)
        have n1_ := z8_A (Kd.R_drew HO_9.out)
        have n2_ := z8_A (Kd.R_drew HO_12.out)
        have n3_ := z8_A (Kd.Q_drew HO_13.out)
        have n4_ := z8_A (Kd.Q_drew HO_14.out)
        have n5_ := z8_A (Kd.Q_drew HO_324001.out)
        have n6_ := z8_A (blk_drew BK299.out)
        have n7_ := z8_A (blk_drew BK300.out)
        have n8_ := z8_A (blk_drew BK323.out)
        have n9_ := z8_A (below_drew1 HB.out)
        clear HO_8
        clear HO_9
        clear HO_12
        clear HO_13
        clear HO_14
        clear HO_324001
        clear BK299
        clear BK300
        clear BK323
        clear HB
        have HO_8 := n0_
        have HO_9 := n1_
        have HO_12 := n2_
        have HO_13 := n3_
        have HO_14 := n4_
        have HO_324001 := n5_
        have BK299 := n6_
        have BK300 := n7_
        have BK323 := n8_
        have HB := n9_
        clear n0_ n1_ n2_ n3_ n4_ n5_ n6_ n7_ n8_ n9_
        refine start_ (n := 5) (S := fun w' => w'.cell? ⟨gb323, 0, none⟩ = some (.int .i64 t319) ∧ w'.cell? ⟨gb323, 1, none⟩ = some (.slice Ao41 t320.length co41) ∧ w'.cell? ⟨gb299, 0, none⟩ = some (.int .i64 a0_0) ∧ w'.cell? ⟨gb299, 1, none⟩ = some (.slice A0_1 l0_1.length c0_1)) (ds := []) #[false, false, false, false, false] z8_12 rfl rfl ⟨(blk_cell BK323.out 0).trans rfl, (blk_cell BK323.out 1).trans rfl, (blk_cell BK299.out 0).trans rfl, (blk_cell BK299.out 1).trans rfl⟩ (fun hHeld => ?_)
        generalize wc.drew = w71 at HO_8 HO_9 HO_12 HO_13 HO_14 HO_324001 BK299 BK300 BK323 HB hHeld ⊢
        refine take_ (i := 0) (N := some 69) (v := ?_) (a' := ?_) #[true, false, false, false, false] rfl rfl z8_12 (fun _ _ _ h => h) (Or.inl ⟨z8_55, ?_⟩) hHeld ?_ ?_
        rotate_left
        ·rintro w' ⟨s0, s1, s2, s3⟩
         go_simp
         with_reducible rfl
        rotate_left
        ·simp only [Act.put, List.setIfInBounds_toArray, List.set_cons_zero, List.set_cons_succ, i64_w, i32_w]
         rfl
        refine take_ (i := 1) (N := some 70) (v := ?_) (a' := ?_) #[true, true, false, false, false] rfl rfl z8_12 (fun _ _ _ h => h) (Or.inl ⟨z8_55, ?_⟩) hHeld ?_ ?_
        rotate_left
        ·rintro w' ⟨s0, s1, s2, s3⟩
         go_simp
         with_reducible rfl
        rotate_left
        ·simp only [Act.put, List.setIfInBounds_toArray, List.set_cons_zero, List.set_cons_succ, i64_w, i32_w]
         rfl
        refine one_ (i := 2) (N := some 71) #[true, true, true, false, false] rfl rfl z8_12 z8_36 (fun K hK => ?_)
        refine goes_ Try.func11 z8_12 rfl #[.agg #[.int .i64 a0_0, .slice A0_1 l0_1.length c0_1]] z8_55 rfl rfl z8_2 ?_
        with_reducible refine (laws_toFlow.calls kj21 a0_0 _ _ l0_1 t339 t340 _ ?side1 ?side2 A62.out).mono ?_
        (case side1 => have zh := (Kd.C_below HR0_1.out HB.out); exact z8_C)
        (case side2 => exact HC0_1.out)
        rintro e w72 ⟨v341, rfl, ho0, hb⟩
        refine ⟨_, rfl, ?_⟩
        have n0_ := z8_A (Kd.R_elder' z8_11 (Kd.R_base ho0) hb)
        have n1_ := z8_A (Kd.R_elder' z8_10 (Kd.R_base ho0) hb)
        have n2_ := z8_A (Kd.R_elder' z8_14 (Kd.R_base ho0) hb)
        have n3_ := z8_A (Kd.Q_elder' z8_9 (Kd.R_base ho0) hb)
        have n4_ := z8_A (Kd.Q_elder' z8_8 (Kd.R_base ho0) hb)
        have n5_ := z8_A (Kd.Q_elder' z8_7 (Kd.R_base ho0) hb)
        have n6_ := z8_A (Kd.R_lower (Kd.R_new' (Kd.R_new' (Kd.R_new' (Kd.R_new' (Kd.R_new' (Kd.R_new' ho0 (Kd.R_lt z8_11)) (Kd.R_lt z8_10)) (Kd.R_lt z8_14)) (Kd.Q_lt z8_9)) (Kd.Q_lt z8_8)) (Kd.Q_lt z8_7)) (below_size z8_1))
        have n7_ := z8_A (blk_below (g := gb299) (o := .cells #[.int .i64 a0_0, .slice A0_1 l0_1.length c0_1] 24 (0, 0)) z8_3 hb)
        have n8_ := z8_A (blk_below (g := gb300) (o := .cells #[.int .i64 a1_0, .int .i64 a1_1, .int .i64 a1_2] 26 (0, 0)) z8_4 hb)
        have n9_ := z8_A (blk_below (g := gb323) (o := .cells #[.int .i64 t319, .slice Ao41 t320.length co41] 30 (0, 0)) z8_5 hb)
        have n10_ := z8_A (below_step z8_1 hb)
        clear HO_8
        clear HO_9
        clear HO_12
        clear HO_13
        clear HO_14
        clear HO_324001
        clear BK299
        clear BK300
        clear BK323
        clear HB
        have HO_8 := n0_
        have HO_9 := n1_
        have HO_12 := n2_
        have HO_13 := n3_
        have HO_14 := n4_
        have HO_324001 := n5_
        have HO342 := n6_
        have BK299 := n7_
        have BK300 := n8_
        have BK323 := n9_
        have HB := n10_
        clear n0_ n1_ n2_ n3_ n4_ n5_ n6_ n7_ n8_ n9_ n10_
        (try clear hb)
        (try clear hb2)
        (try clear hk)
        (try clear hi)
        (try clear ho0)
        obtain ⟨Ao73, co73, eo73⟩ := Kd.R_slice HO342.out
        (first | subst eo73 | (injection eo73 with f1_ f2_ f3_; have f4_ := f1_.symm; have f5_ := f3_.symm; clear f1_ f2_ f3_; subst f4_; subst f5_))
        refine hK.out _ _ ⟨(blk_cell BK323.out 0).trans rfl, (blk_cell BK323.out 1).trans rfl, (blk_cell BK299.out 0).trans rfl, (blk_cell BK299.out 1).trans rfl⟩ (fun hHeld => ?_)
        clear hK K
        refine norm_ (a' := ?_) ?_ ?_
        rotate_left
        ·show Act.put _ (some 71) _ = _
         simp only [Act.put, List.setIfInBounds_toArray, List.set_cons_zero, List.set_cons_succ, i64_w, i32_w]
         rfl
        refine one_ (i := 3) (N := some 72) #[true, true, true, true, false] rfl rfl z8_12 z8_36 (fun K hK => ?_)
        refine goes_ Try.func15 z8_12 rfl #[.agg #[.int .i64 t319, .slice Ao41 t320.length co41], .agg #[.int .i64 t339, .slice Ao73 t340.length co73]] z8_55 rfl rfl z8_2 ?_
        with_reducible refine (laws_eqFlow.calls kj21 t319 _ _ t320 t339 _ _ t340 true _ ?side1 ?side2 ?side3 ?side4 A63.out).mono ?_
        (case side1 => have zh := (Kd.Q_reads' HO_324001.out).2.2; exact z8_C)
        (case side2 => exact (Kd.Q_reads' HO_324001.out).2.1)
        (case side3 => have zh := (Kd.R_reads' HO342.out).2.2; exact z8_C)
        (case side4 => exact (Kd.R_reads' HO342.out).2.1)
        rintro e w74 ⟨rfl, hb⟩
        refine ⟨_, rfl, ?_⟩
        have n0_ := z8_A (Kd.R_below z8_11 hb)
        have n1_ := z8_A (Kd.R_below z8_10 hb)
        have n2_ := z8_A (Kd.R_below z8_14 hb)
        have n3_ := z8_A (Kd.Q_below z8_9 hb)
        have n4_ := z8_A (Kd.Q_below z8_8 hb)
        have n5_ := z8_A (Kd.Q_below z8_7 hb)
        have n6_ := z8_A (Kd.R_below z8_20 hb)
        have n7_ := z8_A (blk_below (g := gb299) (o := .cells #[.int .i64 a0_0, .slice A0_1 l0_1.length c0_1] 24 (0, 0)) z8_3 hb)
        have n8_ := z8_A (blk_below (g := gb300) (o := .cells #[.int .i64 a1_0, .int .i64 a1_1, .int .i64 a1_2] 26 (0, 0)) z8_4 hb)
        have n9_ := z8_A (blk_below (g := gb323) (o := .cells #[.int .i64 t319, .slice Ao41 t320.length co41] 30 (0, 0)) z8_5 hb)
        have n10_ := z8_A (below_step z8_1 hb)
        clear HO_8
        clear HO_9
        clear HO_12
        clear HO_13
        clear HO_14
        clear HO_324001
        clear HO342
        clear BK299
        clear BK300
        clear BK323
        clear HB
        have HO_8 := n0_
        have HO_9 := n1_
        have HO_12 := n2_
        have HO_13 := n3_
        have HO_14 := n4_
        have HO_324001 := n5_
        have HO342 := n6_
        have BK299 := n7_
        have BK300 := n8_
        have BK323 := n9_
        have HB := n10_
        clear n0_ n1_ n2_ n3_ n4_ n5_ n6_ n7_ n8_ n9_ n10_
        (try clear hb)
        (try clear hb2)
        (try clear hk)
        (try clear hi)
        refine hK.out _ _ ⟨(blk_cell BK323.out 0).trans rfl, (blk_cell BK323.out 1).trans rfl, (blk_cell BK299.out 0).trans rfl, (blk_cell BK299.out 1).trans rfl⟩ (fun hHeld => ?_)
        clear hK K
        refine norm_ (a' := ?_) ?_ ?_
        rotate_left
        ·show Act.put _ (some 72) _ = _
         simp only [Act.put, List.setIfInBounds_toArray, List.set_cons_zero, List.set_cons_succ, i64_w, i32_w]
         rfl
        refine pure_ (i := 4) (N := some 73) (v := ?_) (a' := ?_) #[true, true, true, true, true] rfl rfl z8_12 (fun _ _ _ h => h) (Or.inl ⟨z8_55, ?_⟩) ?_ ?_
        rotate_left
        ·intro w'
         go_simp
         with_reducible rfl
        rotate_left
        ·simp only [Act.put, List.setIfInBounds_toArray, List.set_cons_zero, List.set_cons_succ, i64_w, i32_w]
         rfl
        refine done_ z8_12 ?_
        go_upto_region 20 with (first | ((with_reducible refine gate_callee (f := 13) rfl ?_); refine goesL_ (some 76) rfl rfl Try.func13 z8_12 rfl #[.slice A2 l2.length c2] rfl z8_2 ?_; (with_reducible refine (laws_toIntS.calls kj21 _ _ l2 t344 _ ?side1 ?side2 A65.out).mono ?_); (case side1 => have zh := (Kd.C_below HR2.out HB.out); exact z8_C); (case side2 => exact HC2.out); rintro e w75 ⟨v345, rfl, ho0, hb⟩; refine ⟨_, rfl, ?_⟩; have n0_ := z8_A (Kd.R_elder' z8_11 (Kd.R_base ho0) hb); have n1_ := z8_A (Kd.R_elder' z8_10 (Kd.R_base ho0) hb); have n2_ := z8_A (Kd.R_elder' z8_14 (Kd.R_base ho0) hb); have n3_ := z8_A (Kd.Q_elder' z8_9 (Kd.R_base ho0) hb); have n4_ := z8_A (Kd.Q_elder' z8_8 (Kd.R_base ho0) hb); have n5_ := z8_A (Kd.Q_elder' z8_7 (Kd.R_base ho0) hb); have n6_ := z8_A (Kd.R_elder' z8_20 (Kd.R_base ho0) hb); have n7_ := z8_A (Kd.R_lower (Kd.R_new' (Kd.R_new' (Kd.R_new' (Kd.R_new' (Kd.R_new' (Kd.R_new' (Kd.R_new' ho0 (Kd.R_lt z8_11)) (Kd.R_lt z8_10)) (Kd.R_lt z8_14)) (Kd.Q_lt z8_9)) (Kd.Q_lt z8_8)) (Kd.Q_lt z8_7)) (Kd.R_lt z8_20)) (below_size z8_1)); have n8_ := z8_A (blk_below (g := gb299) (o := .cells #[.int .i64 a0_0, .slice A0_1 l0_1.length c0_1] 24 (0, 0)) z8_3 hb); have n9_ := z8_A (blk_below (g := gb300) (o := .cells #[.int .i64 a1_0, .int .i64 a1_1, .int .i64 a1_2] 26 (0, 0)) z8_4 hb); have n10_ := z8_A (blk_below (g := gb323) (o := .cells #[.int .i64 t319, .slice Ao41 t320.length co41] 30 (0, 0)) z8_5 hb); have n11_ := z8_A (below_step z8_1 hb); clear HO_8 HO_9 HO_12 HO_13 HO_14 HO_324001 HO342 BK299 BK300 BK323 HB; revert n0_ n1_ n2_ n3_ n4_ n5_ n6_ n7_ n8_ n9_ n10_ n11_; intro HO_8 HO_9 HO_12 HO_13 HO_14 HO_324001 HO342 HO346 BK299 BK300 BK323 HB; (try clear hb); (try clear hb2); (try clear hk); (try clear hi); (try clear ho0); obtain ⟨Ao76, co76, eo76⟩ := Kd.R_slice HO346.out; subst eo76) | ((with_reducible refine gate_callee (f := 16) rfl ?_); refine goesL_ (some 77) rfl rfl Try.func16 z8_12 rfl #[.slice Ao45 t324.length co45, .slice Ao76 t344.length co76] rfl z8_2 ?_; (with_reducible refine (laws_eqIntS.calls kj21 _ _ t324 _ _ t344 true _ ?side1 ?side2 ?side3 ?side4 A66.out).mono ?_); (case side1 => have zh := (Kd.R_reads' HO_12.out).2.2; exact z8_C); (case side2 => exact (Kd.R_reads' HO_12.out).2.1); (case side3 => have zh := (Kd.R_reads' HO346.out).2.2; exact z8_C); (case side4 => exact (Kd.R_reads' HO346.out).2.1); rintro e w' ⟨rfl, ⟨nd, rfl⟩⟩; refine ⟨_, rfl, ?_⟩; have hnb77 := NB323_299.out; have hnc77 := NB299_323.out; have hnb78 := NB323_300.out; have hnc78 := NB300_323.out; have hcz79_0 : w75.cell? ⟨gb323, 0, none⟩ = some (.int .i64 t319) := (blk_cell BK323.out 0).trans rfl; have hcz79_1 : w75.cell? ⟨gb323, 1, none⟩ = some (.slice Ao41 t320.length co41) := (blk_cell BK323.out 1).trans rfl; have hfz79_0 := blk_frozen BK323.out 0; have hfz79_1 := blk_frozen BK323.out 1) | ((with_reducible refine gate_callee (f := 19) rfl ?_); refine goesL_ (some 81) rfl rfl Try.func19 z8_12 rfl #[.agg #[.int .i64 t319, .slice Ao41 t320.length co41], .int .i64 1] rfl z8_2 ?_; (with_reducible refine (laws_markFlow.calls kj21 t319 (fun k_ => some k_ = (.slice Ao41 t320.length co41 : Value).ownBlock) (.slice Ao41 t320.length co41) t320 1 t348 t349 w _ ?side1 ?side2 A68.out).mono ?_); (case side1 => repeat (first | (with_reducible first | exact HB.out | apply below_alloc | apply pw_below_drewN | apply below_drew1 | refine below_set ?_ GE299.out | refine below_set ?_ GE300.out | refine below_set ?_ GE323.out) | exact HB.out)); (case side2 => exact Kd.Q_tight rfl HO_324001.out); rintro e w80 ⟨rfl, hy0, hb, hkp⟩; refine ⟨_, rfl, ?_⟩; have n0_ := z8_A (Kd.R_mono (ok' := fun k_ => z8_V k_ v316 ∧ z8_S k_ Ao45 t324.length co45 ∧ z8_V k_ v331 ∧ z8_V k_ v334 ∧ z8_S k_ Ao41 t320.length co41 ∧ z8_S k_ Ao73 t340.length co73 ∧ z8_S k_ Ao76 t344.length co76) (Kd.R_keptB (HO_8.out) hkp (fun k_ hk_ hs_ => (hk_.1.1.2.2.2.2) hs_)) (fun k_ hk_ => ⟨hk_.1.1.1.1, hk_.1.1.1.2.1, hk_.1.1.1.2.2.1, hk_.1.1.1.2.2.2.1, hk_.1.1.1.2.2.2.2, hk_.1.1.2, hk_.1.2⟩)); have n1_ := z8_A (Kd.R_mono (ok' := fun k_ => z8_V k_ v313 ∧ z8_S k_ Ao45 t324.length co45 ∧ z8_V k_ v331 ∧ z8_V k_ v334 ∧ z8_S k_ Ao41 t320.length co41 ∧ z8_S k_ Ao73 t340.length co73 ∧ z8_S k_ Ao76 t344.length co76) (Kd.R_keptB (HO_9.out) hkp (fun k_ hk_ hs_ => (hk_.1.1.2.2.2.2) hs_)) (fun k_ hk_ => ⟨hk_.1.1.1.1, hk_.1.1.1.2.1, hk_.1.1.1.2.2.1, hk_.1.1.1.2.2.2.1, hk_.1.1.1.2.2.2.2, hk_.1.1.2, hk_.1.2⟩)); have n2_ := z8_A (Kd.R_mono (ok' := fun k_ => z8_V k_ v313 ∧ z8_V k_ v316 ∧ z8_V k_ v331 ∧ z8_V k_ v334 ∧ z8_S k_ Ao41 t320.length co41 ∧ z8_S k_ Ao73 t340.length co73 ∧ z8_S k_ Ao76 t344.length co76) (Kd.R_keptB (HO_12.out) hkp (fun k_ hk_ hs_ => (hk_.1.1.2.2.2.2) hs_)) (fun k_ hk_ => ⟨hk_.1.1.1.1, hk_.1.1.1.2.1, hk_.1.1.1.2.2.1, hk_.1.1.1.2.2.2.1, hk_.1.1.1.2.2.2.2, hk_.1.1.2, hk_.1.2⟩)); have n3_ := z8_A (Kd.Q_mono (ok' := fun k_ => z8_V k_ v313 ∧ z8_V k_ v316 ∧ z8_S k_ Ao45 t324.length co45 ∧ z8_V k_ v334 ∧ z8_S k_ Ao41 t320.length co41 ∧ z8_S k_ Ao73 t340.length co73 ∧ z8_S k_ Ao76 t344.length co76) (Kd.Q_keptB (HO_13.out) hkp (fun k_ hk_ hs_ => (hk_.1.1.2.2.2.2) hs_)) (fun k_ hk_ => ⟨hk_.1.1.1.1, hk_.1.1.1.2.1, hk_.1.1.1.2.2.1, hk_.1.1.1.2.2.2.1, hk_.1.1.1.2.2.2.2, hk_.1.1.2, hk_.1.2⟩)); have n4_ := z8_A (Kd.Q_mono (ok' := fun k_ => z8_V k_ v313 ∧ z8_V k_ v316 ∧ z8_S k_ Ao45 t324.length co45 ∧ z8_V k_ v331 ∧ z8_S k_ Ao41 t320.length co41 ∧ z8_S k_ Ao73 t340.length co73 ∧ z8_S k_ Ao76 t344.length co76) (Kd.Q_keptB (HO_14.out) hkp (fun k_ hk_ hs_ => (hk_.1.1.2.2.2.2) hs_)) (fun k_ hk_ => ⟨hk_.1.1.1.1, hk_.1.1.1.2.1, hk_.1.1.1.2.2.1, hk_.1.1.1.2.2.2.1, hk_.1.1.1.2.2.2.2, hk_.1.1.2, hk_.1.2⟩)); have n5_ := z8_A (Kd.Q_mono (Kd.Q_tight rfl hy0) (fun k_ hk_ => HO_324001.out.1 k_ hk_.symm)); have n6_ := z8_A (blk_kept (g := gb299) (o := .cells #[.int .i64 a0_0, .slice A0_1 l0_1.length c0_1] 24 (0, 0)) z8_3 hkp (fun hs_ => (fun e_ => (Kd.Q_ne HO_324001.out BK299.out z8_36) e_) hs_)); have n7_ := z8_A (blk_kept (g := gb300) (o := .cells #[.int .i64 a1_0, .int .i64 a1_1, .int .i64 a1_2] 26 (0, 0)) z8_4 hkp (fun hs_ => (fun e_ => (Kd.Q_ne HO_324001.out BK300.out z8_36) e_) hs_)); have n8_ := z8_A (blk_kept (g := gb323) (o := .cells #[.int .i64 t319, .slice Ao41 t320.length co41] 30 (0, 0)) z8_5 hkp (fun hs_ => (fun e_ => (Kd.Q_ne HO_324001.out BK323.out z8_36) e_) hs_)); have n9_ := z8_A (Kd.R_mono (ok' := fun k_ => z8_V k_ v313 ∧ z8_V k_ v316 ∧ z8_S k_ Ao45 t324.length co45 ∧ z8_V k_ v331 ∧ z8_V k_ v334 ∧ z8_S k_ Ao41 t320.length co41 ∧ z8_S k_ Ao76 t344.length co76) (Kd.R_keptB (HO342.out) hkp (fun k_ hk_ hs_ => (hk_.1.2) hs_)) (fun k_ hk_ => ⟨hk_.1.1.1.1.1.1.1.2, hk_.1.1.1.1.1.1.2, hk_.1.1.1.1.1.2, hk_.1.1.1.1.2, hk_.1.1.1.2, hk_.1.1.2, hk_.1.2⟩)); have n10_ := z8_A (Kd.R_mono (ok' := fun k_ => z8_V k_ v313 ∧ z8_V k_ v316 ∧ z8_S k_ Ao45 t324.length co45 ∧ z8_V k_ v331 ∧ z8_V k_ v334 ∧ z8_S k_ Ao41 t320.length co41 ∧ z8_S k_ Ao73 t340.length co73) (Kd.R_keptB (HO346.out) hkp (fun k_ hk_ hs_ => (hk_.1.2) hs_)) (fun k_ hk_ => ⟨hk_.1.1.1.1.1.1.1.2, hk_.1.1.1.1.1.1.2, hk_.1.1.1.1.1.2, hk_.1.1.1.1.2, hk_.1.1.1.2, hk_.1.1.2, hk_.1.2⟩)); have n11_ := z8_A (hb); clear HO_8 HO_9 HO_12 HO_13 HO_14 HO_324001 BK299 BK300 BK323 HO342 HO346 HB; revert n0_ n1_ n2_ n3_ n4_ n5_ n6_ n7_ n8_ n9_ n10_ n11_; intro HO_8 HO_9 HO_12 HO_13 HO_14 HO_324001 BK299 BK300 BK323 HO342 HO346 HB; (try clear hb); (try clear hkp); (try clear hy0)) | ((with_reducible refine gate_callee (f := 20) rfl ?_); refine goesL_ (some 84) rfl rfl Try.func20 z8_12 rfl #[.slice Ao45 t324.length co45, .int .i64 t348] rfl z8_2 ?_; (with_reducible refine (laws_markIntS.calls kj21 (fun k_ => some k_ = (.slice Ao45 t324.length co45 : Value).ownBlock) (.slice Ao45 t324.length co45) t324 t348 t350 t351 w _ ?side1 ?side2 A69.out).mono ?_); (case side1 => repeat (first | (with_reducible first | exact HB.out | apply below_alloc | apply pw_below_drewN | apply below_drew1 | refine below_set ?_ GE299.out | refine below_set ?_ GE300.out | refine below_set ?_ GE323.out) | exact HB.out)); (case side2 => exact Kd.Q_tight rfl (Kd.Q_of_R HO_12.out)); rintro e w81 ⟨rfl, hy0, hb, hkp⟩; refine ⟨_, rfl, ?_⟩; have n0_ := z8_A (Kd.R_mono (ok' := fun k_ => z8_V k_ v316 ∧ z8_S k_ Ao45 t324.length co45 ∧ z8_V k_ v331 ∧ z8_V k_ v334 ∧ z8_S k_ Ao41 t320.length co41 ∧ z8_S k_ Ao73 t340.length co73 ∧ z8_S k_ Ao76 t344.length co76) (Kd.R_keptB (HO_8.out) hkp (fun k_ hk_ hs_ => (hk_.2.1) hs_)) (fun k_ hk_ => ⟨hk_.1.1, hk_.1.2.1, hk_.1.2.2.1, hk_.1.2.2.2.1, hk_.1.2.2.2.2.1, hk_.1.2.2.2.2.2.1, hk_.1.2.2.2.2.2.2⟩)); have n1_ := z8_A (Kd.R_mono (ok' := fun k_ => z8_V k_ v313 ∧ z8_S k_ Ao45 t324.length co45 ∧ z8_V k_ v331 ∧ z8_V k_ v334 ∧ z8_S k_ Ao41 t320.length co41 ∧ z8_S k_ Ao73 t340.length co73 ∧ z8_S k_ Ao76 t344.length co76) (Kd.R_keptB (HO_9.out) hkp (fun k_ hk_ hs_ => (hk_.2.1) hs_)) (fun k_ hk_ => ⟨hk_.1.1, hk_.1.2.1, hk_.1.2.2.1, hk_.1.2.2.2.1, hk_.1.2.2.2.2.1, hk_.1.2.2.2.2.2.1, hk_.1.2.2.2.2.2.2⟩)); have n2_ := z8_A (Kd.Q_mono (Kd.Q_tight rfl hy0) (fun k_ hk_ => HO_12.out.1 k_ hk_.symm)); have n3_ := z8_A (Kd.Q_mono (ok' := fun k_ => z8_V k_ v313 ∧ z8_V k_ v316 ∧ z8_S k_ Ao45 t324.length co45 ∧ z8_V k_ v334 ∧ z8_S k_ Ao41 t320.length co41 ∧ z8_S k_ Ao73 t340.length co73 ∧ z8_S k_ Ao76 t344.length co76) (Kd.Q_keptB (HO_13.out) hkp (fun k_ hk_ hs_ => (hk_.2.2.1) hs_)) (fun k_ hk_ => ⟨hk_.1.1, hk_.1.2.1, hk_.1.2.2.1, hk_.1.2.2.2.1, hk_.1.2.2.2.2.1, hk_.1.2.2.2.2.2.1, hk_.1.2.2.2.2.2.2⟩)); have n4_ := z8_A (Kd.Q_mono (ok' := fun k_ => z8_V k_ v313 ∧ z8_V k_ v316 ∧ z8_S k_ Ao45 t324.length co45 ∧ z8_V k_ v331 ∧ z8_S k_ Ao41 t320.length co41 ∧ z8_S k_ Ao73 t340.length co73 ∧ z8_S k_ Ao76 t344.length co76) (Kd.Q_keptB (HO_14.out) hkp (fun k_ hk_ hs_ => (hk_.2.2.1) hs_)) (fun k_ hk_ => ⟨hk_.1.1, hk_.1.2.1, hk_.1.2.2.1, hk_.1.2.2.2.1, hk_.1.2.2.2.2.1, hk_.1.2.2.2.2.2.1, hk_.1.2.2.2.2.2.2⟩)); have n5_ := z8_A (Kd.Q_mono (ok' := fun k_ => z8_V k_ v313 ∧ z8_V k_ v316 ∧ z8_S k_ Ao45 t324.length co45 ∧ z8_V k_ v331 ∧ z8_V k_ v334 ∧ z8_S k_ Ao73 t340.length co73 ∧ z8_S k_ Ao76 t344.length co76) (Kd.Q_keptB (HO_324001.out) hkp (fun k_ hk_ hs_ => (hk_.1.1.2.2.1) hs_)) (fun k_ hk_ => ⟨hk_.1.1.1.1, hk_.1.1.1.2.1, hk_.1.1.1.2.2.1, hk_.1.1.1.2.2.2.1, hk_.1.1.1.2.2.2.2, hk_.1.1.2, hk_.1.2⟩)); have n6_ := z8_A (blk_kept (g := gb299) (o := .cells #[.int .i64 a0_0, .slice A0_1 l0_1.length c0_1] 24 (0, 0)) z8_3 hkp (fun hs_ => (fun e_ => (Kd.R_ne HO_12.out BK299.out z8_36) e_) hs_)); have n7_ := z8_A (blk_kept (g := gb300) (o := .cells #[.int .i64 a1_0, .int .i64 a1_1, .int .i64 a1_2] 26 (0, 0)) z8_4 hkp (fun hs_ => (fun e_ => (Kd.R_ne HO_12.out BK300.out z8_36) e_) hs_)); have n8_ := z8_A (blk_kept (g := gb323) (o := .cells #[.int .i64 t319, .slice Ao41 t320.length co41] 30 (0, 0)) z8_5 hkp (fun hs_ => (fun e_ => (Kd.R_ne HO_12.out BK323.out z8_36) e_) hs_)); have n9_ := z8_A (Kd.R_mono (ok' := fun k_ => z8_V k_ v313 ∧ z8_V k_ v316 ∧ z8_S k_ Ao45 t324.length co45 ∧ z8_V k_ v331 ∧ z8_V k_ v334 ∧ z8_S k_ Ao41 t320.length co41 ∧ z8_S k_ Ao76 t344.length co76) (Kd.R_keptB (HO342.out) hkp (fun k_ hk_ hs_ => (hk_.2.2.1) hs_)) (fun k_ hk_ => ⟨hk_.1.1, hk_.1.2.1, hk_.1.2.2.1, hk_.1.2.2.2.1, hk_.1.2.2.2.2.1, hk_.1.2.2.2.2.2.1, hk_.1.2.2.2.2.2.2⟩)); have n10_ := z8_A (Kd.R_mono (ok' := fun k_ => z8_V k_ v313 ∧ z8_V k_ v316 ∧ z8_S k_ Ao45 t324.length co45 ∧ z8_V k_ v331 ∧ z8_V k_ v334 ∧ z8_S k_ Ao41 t320.length co41 ∧ z8_S k_ Ao73 t340.length co73) (Kd.R_keptB (HO346.out) hkp (fun k_ hk_ hs_ => (hk_.2.2.1) hs_)) (fun k_ hk_ => ⟨hk_.1.1, hk_.1.2.1, hk_.1.2.2.1, hk_.1.2.2.2.1, hk_.1.2.2.2.2.1, hk_.1.2.2.2.2.2.1, hk_.1.2.2.2.2.2.2⟩)); have n11_ := z8_A (hb); clear HO_8 HO_9 HO_12 HO_13 HO_14 HO_324001 BK299 BK300 BK323 HO342 HO346 HB; revert n0_ n1_ n2_ n3_ n4_ n5_ n6_ n7_ n8_ n9_ n10_ n11_; intro HO_8 HO_9 HO_12 HO_13 HO_14 HO_324001 BK299 BK300 BK323 HO342 HO346 HB; (try clear hb); (try clear hkp); (try clear hy0)))
        (try simp only [Act.put, List.setIfInBounds_toArray, List.set_cons_zero, List.set_cons_succ])
        go_cut [103] (fun v103 wc => ∃ (kq : Nat) (x103_69 : Bool), v103 = .bool x103_69 ∧ Aside0 (laws_FnExactRunRule.j1 kq l2 t312 t315 t318 t330 t333 x103_69 a0_0 l0_1 a1_0 a1_1 a1_2 = some r) ∧ Aside0 (kq ≤ kj21) ∧ Aside0 (Kd.R (Kd.int .i64) 3 wc w.heap.size (fun k_ => z8_V k_ v316 ∧ z8_V k_ v331 ∧ z8_V k_ v334 ∧ some k_ ≠ ((.slice Ao41 t320.length co41) : Value).ownBlock) v313 t312) ∧ Aside0 (Kd.R (Kd.int .i64) 3 wc w.heap.size (fun k_ => z8_V k_ v313 ∧ z8_V k_ v331 ∧ z8_V k_ v334 ∧ some k_ ≠ ((.slice Ao41 t320.length co41) : Value).ownBlock) v316 t315) ∧ Aside0 (Kd.Q (Kd.int .i64) 3 wc w.heap.size (fun k_ => z8_V k_ v313 ∧ z8_V k_ v316 ∧ z8_V k_ v334 ∧ some k_ ≠ ((.slice Ao41 t320.length co41) : Value).ownBlock) v331 t330) ∧ Aside0 (Kd.Q (Kd.int .i64) 3 wc w.heap.size (fun k_ => z8_V k_ v313 ∧ z8_V k_ v316 ∧ z8_V k_ v331 ∧ some k_ ≠ ((.slice Ao41 t320.length co41) : Value).ownBlock) v334 t333) ∧ Aside0 (Kd.Q (Kd.int .i64) 3 wc w.heap.size (fun k_ => z8_V k_ v313 ∧ z8_V k_ v316 ∧ z8_V k_ v331 ∧ z8_V k_ v334) (.slice Ao41 t320.length co41) t349) ∧ Aside0 (wc.heap[gb299]? = some (.cells #[.int .i64 a0_0, (.slice A0_1 l0_1.length c0_1)] 24 (0, 0))) ∧ Aside0 (wc.heap[gb300]? = some (.cells #[.int .i64 a1_0, .int .i64 a1_1, .int .i64 a1_2] 26 (0, 0))) ∧ Aside0 (wc.heap[gb323]? = some (.cells #[.int .i64 t319, (.slice Ao41 t320.length co41)] 30 (0, 0))) ∧ Aside0 (Below w.heap.size w wc))
        case first =>
         have H := HC70.out
         clear HC70
         by_cases c82 : t350 < 0
         ·rw [if_pos c82] at H
          have c82b0 : decide (t350 < 0) = true := decide_eq_true c82
          clear c82
          (first | rw [c82b0] | (simp only [i64_w, i32_w]; rw [c82b0]) | skip)
          have H' := z8_A H
          clear H
          go_wp2
          go_meet
          case rel => exact ⟨_, (true), z8_32, H', ⟨z8_57⟩, ⟨z8_26⟩, ⟨z8_25⟩, ⟨z8_29⟩, ⟨z8_28⟩, ⟨z8_24⟩, ⟨z8_3⟩, ⟨z8_4⟩, ⟨z8_5⟩, ⟨z8_1⟩⟩
         ·rw [if_neg c82] at H
          have c82b0 : decide (t350 < 0) = false := decide_eq_false c82
          clear c82
          (first | rw [c82b0] | (simp only [i64_w, i32_w]; rw [c82b0]) | skip)
          replace H := Option.bind_eq_some_iff.mp H
          obtain ⟨t352, A830, H⟩ := H
          (try dsimp only at H)
          have A83 := z8_A A830
          clear A830
          by_cases c84 : t352 = true
          ·subst c84
           have H1 : ((laws_eqIntS.f kj21 t333 t315).bind fun t353 => (if t353 = true then (laws_FnExactRunRule.j1 kj21 l2 t312 t315 t318 t330 t333 (t336 != t318) a0_0 l0_1 a1_0 a1_1 a1_2) else (laws_FnExactRunRule.j1 kj21 l2 t312 t315 t318 t330 t333 true a0_0 l0_1 a1_0 a1_1 a1_2))) = some r := z8_51
           clear H
           have H := H1
           clear H1
           replace H := Option.bind_eq_some_iff.mp H
           obtain ⟨t353, A850, H⟩ := H
           (try dsimp only at H)
           have A85 := z8_A A850
           clear A850
           by_cases c86 : t353 = true
           ·subst c86
            have H1 : (laws_FnExactRunRule.j1 kj21 l2 t312 t315 t318 t330 t333 (t336 != t318) a0_0 l0_1 a1_0 a1_1 a1_2) = some r := z8_51
            clear H
            have H := H1
            clear H1
            have H' := z8_A H
            clear H
            obtain ⟨Ao87, co87, eo87, _⟩ := Kd.Q_slice HO_13.out
            subst eo87
            obtain ⟨Ao88, co88, eo88⟩ := Kd.R_slice HO_8.out
            subst eo88
            go_wp2_with (first | (go_at_call 16; (with_reducible refine (laws_eqIntS.calls kj21 _ _ t330 _ _ t312 true _ ?side1 ?side2 ?side3 ?side4 A83.out).mono ?_); (case side1 => have zh := (Kd.Q_reads' HO_13.out).2.2; exact z8_C); (case side2 => exact (Kd.Q_reads' HO_13.out).2.1); (case side3 => have zh := (Kd.R_reads' HO_8.out).2.2; exact z8_C); (case side4 => exact (Kd.R_reads' HO_8.out).2.1); rintro e w' ⟨rfl, ⟨nd, rfl⟩⟩; obtain ⟨Ao89, co89, eo89, _⟩ := Kd.Q_slice HO_14.out; subst eo89; obtain ⟨Ao90, co90, eo90⟩ := Kd.R_slice HO_9.out; subst eo90) | (go_at_call 16; (with_reducible refine (laws_eqIntS.calls kj21 _ _ t333 _ _ t315 true _ ?side1 ?side2 ?side3 ?side4 A85.out).mono ?_); (case side1 => have zh := (Kd.Q_reads' HO_14.out).2.2; exact z8_C); (case side2 => exact (Kd.Q_reads' HO_14.out).2.1); (case side3 => have zh := (Kd.R_reads' HO_9.out).2.2; exact z8_C); (case side4 => exact (Kd.R_reads' HO_9.out).2.1); rintro e w' ⟨rfl, ⟨nd, rfl⟩⟩))
            go_meet
            case rel => exact ⟨_, ((t336 != t318)), z8_32, H', ⟨z8_57⟩, ⟨z8_26⟩, ⟨z8_25⟩, ⟨z8_29⟩, ⟨z8_28⟩, ⟨z8_24⟩, ⟨z8_3⟩, ⟨z8_4⟩, ⟨z8_5⟩, ⟨z8_1⟩⟩
           ·replace c86 := Bool.eq_false_iff.mpr c86
            subst c86
            have H1 : (laws_FnExactRunRule.j1 kj21 l2 t312 t315 t318 t330 t333 true a0_0 l0_1 a1_0 a1_1 a1_2) = some r := z8_23
            clear H
            have H := H1
            clear H1
            have H' := z8_A H
            clear H
            obtain ⟨Ao91, co91, eo91, _⟩ := Kd.Q_slice HO_13.out
            subst eo91
            obtain ⟨Ao92, co92, eo92⟩ := Kd.R_slice HO_8.out
            subst eo92
            go_wp2_with (first | (go_at_call 16; (with_reducible refine (laws_eqIntS.calls kj21 _ _ t330 _ _ t312 true _ ?side1 ?side2 ?side3 ?side4 A83.out).mono ?_); (case side1 => have zh := (Kd.Q_reads' HO_13.out).2.2; exact z8_C); (case side2 => exact (Kd.Q_reads' HO_13.out).2.1); (case side3 => have zh := (Kd.R_reads' HO_8.out).2.2; exact z8_C); (case side4 => exact (Kd.R_reads' HO_8.out).2.1); rintro e w' ⟨rfl, ⟨nd, rfl⟩⟩; obtain ⟨Ao93, co93, eo93, _⟩ := Kd.Q_slice HO_14.out; subst eo93; obtain ⟨Ao94, co94, eo94⟩ := Kd.R_slice HO_9.out; subst eo94) | (go_at_call 16; (with_reducible refine (laws_eqIntS.calls kj21 _ _ t333 _ _ t315 false _ ?side1 ?side2 ?side3 ?side4 A85.out).mono ?_); (case side1 => have zh := (Kd.Q_reads' HO_14.out).2.2; exact z8_C); (case side2 => exact (Kd.Q_reads' HO_14.out).2.1); (case side3 => have zh := (Kd.R_reads' HO_9.out).2.2; exact z8_C); (case side4 => exact (Kd.R_reads' HO_9.out).2.1); rintro e w' ⟨rfl, ⟨nd, rfl⟩⟩))
            go_meet
            case rel => exact ⟨_, (true), z8_32, H', ⟨z8_57⟩, ⟨z8_26⟩, ⟨z8_25⟩, ⟨z8_29⟩, ⟨z8_28⟩, ⟨z8_24⟩, ⟨z8_3⟩, ⟨z8_4⟩, ⟨z8_5⟩, ⟨z8_1⟩⟩
          ·replace c84 := Bool.eq_false_iff.mpr c84
           subst c84
           have H1 : (laws_FnExactRunRule.j1 kj21 l2 t312 t315 t318 t330 t333 true a0_0 l0_1 a1_0 a1_1 a1_2) = some r := z8_23
           clear H
           have H := H1
           clear H1
           have H' := z8_A H
           clear H
           obtain ⟨Ao95, co95, eo95, _⟩ := Kd.Q_slice HO_13.out
           subst eo95
           obtain ⟨Ao96, co96, eo96⟩ := Kd.R_slice HO_8.out
           subst eo96
           go_wp2_with (first | (go_at_call 16; (with_reducible refine (laws_eqIntS.calls kj21 _ _ t330 _ _ t312 false _ ?side1 ?side2 ?side3 ?side4 A83.out).mono ?_); (case side1 => have zh := (Kd.Q_reads' HO_13.out).2.2; exact z8_C); (case side2 => exact (Kd.Q_reads' HO_13.out).2.1); (case side3 => have zh := (Kd.R_reads' HO_8.out).2.2; exact z8_C); (case side4 => exact (Kd.R_reads' HO_8.out).2.1); rintro e w' ⟨rfl, ⟨nd, rfl⟩⟩))
           go_meet
           case rel => exact ⟨_, (true), z8_32, H', ⟨z8_57⟩, ⟨z8_26⟩, ⟨z8_25⟩, ⟨z8_29⟩, ⟨z8_28⟩, ⟨z8_24⟩, ⟨z8_3⟩, ⟨z8_4⟩, ⟨z8_5⟩, ⟨z8_1⟩⟩
        case rest =>
         clear HC70
         (try clear c1); (try clear c2); (try clear p2); (try clear c3); (try clear c4); (try clear c4b0); (try clear c4b1); (try clear c5); (try clear c6); (try clear c7); (try clear c8); (try clear c8b0); (try clear c9); (try clear c11); (try clear c12); (try clear c13); (try clear c15); (try clear c16); (try clear c17); (try clear c18); (try clear c19); (try clear c20); (try clear c25); (try clear c38); (try clear c39); (try clear c48); (try clear c50); (try clear c61); (try clear c64); (try clear c67); (try clear c77); (try clear c78); (try clear c82); (try clear c82b0); (try clear c84); (try clear c86); (try clear hcz12_0); (try clear hcz12_1); (try clear hcz26_0); (try clear hcz26_1); (try clear hcz35_0); (try clear hcz35_1); (try clear hcz40_0); (try clear hcz40_1); (try clear hcz79_0); (try clear hcz79_1); (try clear hfz12_0); (try clear hfz12_1); (try clear hfz26_0); (try clear hfz26_1); (try clear hfz35_0); (try clear hfz35_1); (try clear hfz40_0); (try clear hfz40_1); (try clear hfz79_0); (try clear hfz79_1); (try clear p2)
         obtain ⟨kq, x103_69, rfl, HA, HJ69, HO_8, HO_9, HO_13, HO_14, HO_324001, BK299, BK300, BK323, HB⟩ := hcut
         have hl324001_69 := (Kd.Q_reads' HO_324001.out).1
         rw [hl324001_69] at HO_324001
         (try simp only [hl324001_69])
         (try simp only [hl324001_69] at BK299)
         (try simp only [hl324001_69] at BK300)
         (try simp only [hl324001_69] at BK323)
         (try simp only [hl324001_69] at HO_8)
         (try simp only [hl324001_69] at HO_9)
         (try simp only [hl324001_69] at HO_13)
         (try simp only [hl324001_69] at HO_14)
         cases kq with
         | zero => exact absurd HA.out (by simp [laws_FnExactRunRule.j1])
         | succ kj69 =>
          have H := HA.out
          clear HA
          simp only [laws_FnExactRunRule.j1] at H
          by_cases c97 : x103_69 = true
          ·subst c97
           have H1 : (some false) = some r := z8_51
           clear H
           have H := H1
           clear H1
           obtain rfl := Option.some.inj H
           go_wp2
           go_ret
           exact ⟨z8_16, z8_1⟩
          ·replace c97 := Bool.eq_false_iff.mpr c97
           subst c97
           have H1 : ((laws_markIntS.f kj69 t330 1).bind fun bt354 => ((laws_markIntS.f kj69 t333 bt354.1).bind fun bt356 => ((laws_heldIntS.f kj69 bt354.2 1).bind fun t358 => (if t358 < 0 then (some false) else ((laws_heldIntS.f kj69 bt356.2 t358).bind fun t359 => (if t359 < 0 then (some false) else (if t359 = bt356.1 then ((laws_toFlow.f kj69 a0_0 l0_1).bind fun bt360 => ((laws_toRule.f a1_0 a1_1 a1_2).bind fun bt364 => ((laws_toIntS.f kj69 l2).bind fun t367 => ((impl_RunRule.f kj69 bt360.1 bt360.2 bt364.1 bt364.2.1 bt364.2.2 t367).bind fun bt370 => ((laws_eqIntS.f kj69 bt370.1 t312).bind fun t377 => (if t377 = true then ((laws_eqIntS.f kj69 bt370.2.1 t315).bind fun t378 => (if t378 = true then (laws_FnExactRunRule.j2 kj69 bt354.2 bt356.2 bt356.1 (bt370.2.2 != t318)) else (laws_FnExactRunRule.j2 kj69 bt354.2 bt356.2 bt356.1 true))) else (laws_FnExactRunRule.j2 kj69 bt354.2 bt356.2 bt356.1 true))))))) else (some false)))))))) = some r := z8_23
           clear H
           have H := H1
           clear H1
           replace H := Option.bind_eq_some_iff.mp H
           obtain ⟨⟨t354, t355⟩, A980, H⟩ := H
           (try dsimp only at H)
           have A98 := z8_A A980
           clear A980
           replace H := Option.bind_eq_some_iff.mp H
           obtain ⟨⟨t356, t357⟩, A990, H⟩ := H
           (try dsimp only at H)
           have A99 := z8_A A990
           clear A990
           replace H := Option.bind_eq_some_iff.mp H
           obtain ⟨t358, A1000, H⟩ := H
           (try dsimp only at H)
           have A100 := z8_A A1000
           clear A1000
           by_cases c101 : t358 < 0
           ·rw [if_pos c101] at H
            have c101b0 : decide (t358 < 0) = true := decide_eq_true c101
            clear c101
            obtain rfl := Option.some.inj H
            obtain ⟨Ao102, co102, eo102, _⟩ := Kd.Q_slice HO_13.out
            subst eo102
            go_wp2_with (first | ((with_reducible refine gate_callee (f := 20) rfl ?_); refine goesL_ (some 106) rfl rfl Try.func20 z8_12 rfl #[.slice Ao102 t330.length co102, .int .i64 1] rfl z8_2 ?_; (with_reducible refine (laws_markIntS.calls kj69 (fun k_ => some k_ = (.slice Ao102 t330.length co102 : Value).ownBlock) (.slice Ao102 t330.length co102) t330 1 t354 t355 w _ ?side1 ?side2 A98.out).mono ?_); (case side1 => repeat (first | (with_reducible first | exact HB.out | apply below_alloc | apply pw_below_drewN | apply below_drew1 | refine below_set ?_ GE299.out | refine below_set ?_ GE300.out | refine below_set ?_ GE323.out) | exact HB.out)); (case side2 => exact Kd.Q_tight rfl HO_13.out); rintro e w103 ⟨rfl, hy0, hb, hkp⟩; refine ⟨_, rfl, ?_⟩; have n0_ := z8_A (Kd.R_mono (ok' := fun k_ => z8_V k_ v316 ∧ z8_S k_ Ao102 t330.length co102 ∧ z8_V k_ v334 ∧ z8_S k_ Ao41 t349.length co41) (Kd.R_keptB (HO_8.out) hkp (fun k_ hk_ hs_ => (hk_.2.1) hs_)) (fun k_ hk_ => ⟨hk_.1.1, hk_.1.2.1, hk_.1.2.2.1, hk_.1.2.2.2⟩)); have n1_ := z8_A (Kd.R_mono (ok' := fun k_ => z8_V k_ v313 ∧ z8_S k_ Ao102 t330.length co102 ∧ z8_V k_ v334 ∧ z8_S k_ Ao41 t349.length co41) (Kd.R_keptB (HO_9.out) hkp (fun k_ hk_ hs_ => (hk_.2.1) hs_)) (fun k_ hk_ => ⟨hk_.1.1, hk_.1.2.1, hk_.1.2.2.1, hk_.1.2.2.2⟩)); have n2_ := z8_A (Kd.Q_mono (Kd.Q_tight rfl hy0) (fun k_ hk_ => HO_13.out.1 k_ hk_.symm)); have n3_ := z8_A (Kd.Q_mono (ok' := fun k_ => z8_V k_ v313 ∧ z8_V k_ v316 ∧ z8_S k_ Ao102 t330.length co102 ∧ z8_S k_ Ao41 t349.length co41) (Kd.Q_keptB (HO_14.out) hkp (fun k_ hk_ hs_ => (hk_.2.2.1) hs_)) (fun k_ hk_ => ⟨hk_.1.1, hk_.1.2.1, hk_.1.2.2.1, hk_.1.2.2.2⟩)); have n4_ := z8_A (Kd.Q_mono (ok' := fun k_ => z8_V k_ v313 ∧ z8_V k_ v316 ∧ z8_S k_ Ao102 t330.length co102 ∧ z8_V k_ v334) (Kd.Q_keptB (HO_324001.out) hkp (fun k_ hk_ hs_ => (hk_.2.2.1) hs_)) (fun k_ hk_ => ⟨hk_.1.1, hk_.1.2.1, hk_.1.2.2.1, hk_.1.2.2.2⟩)); have n5_ := z8_A (blk_kept (g := gb299) (o := .cells #[.int .i64 a0_0, .slice A0_1 l0_1.length c0_1] 24 (0, 0)) z8_3 hkp (fun hs_ => (fun e_ => (Kd.Q_ne HO_13.out BK299.out z8_36) e_) hs_)); have n6_ := z8_A (blk_kept (g := gb300) (o := .cells #[.int .i64 a1_0, .int .i64 a1_1, .int .i64 a1_2] 26 (0, 0)) z8_4 hkp (fun hs_ => (fun e_ => (Kd.Q_ne HO_13.out BK300.out z8_36) e_) hs_)); have n7_ := z8_A (blk_kept (g := gb323) (o := .cells #[.int .i64 t319, .slice Ao41 t349.length co41] 30 (0, 0)) z8_5 hkp (fun hs_ => (fun e_ => (Kd.Q_ne HO_13.out BK323.out z8_36) e_) hs_)); have n8_ := z8_A (hb); clear HO_8 HO_9 HO_13 HO_14 HO_324001 BK299 BK300 BK323 HB; revert n0_ n1_ n2_ n3_ n4_ n5_ n6_ n7_ n8_; intro HO_8 HO_9 HO_13 HO_14 HO_324001 BK299 BK300 BK323 HB; (try clear hb); (try clear hkp); (try clear hy0); obtain ⟨Ao104, co104, eo104, _⟩ := Kd.Q_slice HO_14.out; subst eo104) | ((with_reducible refine gate_callee (f := 20) rfl ?_); refine goesL_ (some 109) rfl rfl Try.func20 z8_12 rfl #[.slice Ao104 t333.length co104, .int .i64 t354] rfl z8_2 ?_; (with_reducible refine (laws_markIntS.calls kj69 (fun k_ => some k_ = (.slice Ao104 t333.length co104 : Value).ownBlock) (.slice Ao104 t333.length co104) t333 t354 t356 t357 w _ ?side1 ?side2 A99.out).mono ?_); (case side1 => repeat (first | (with_reducible first | exact HB.out | apply below_alloc | apply pw_below_drewN | apply below_drew1 | refine below_set ?_ GE299.out | refine below_set ?_ GE300.out | refine below_set ?_ GE323.out) | exact HB.out)); (case side2 => exact Kd.Q_tight rfl HO_14.out); rintro e w105 ⟨rfl, hy0, hb, hkp⟩; refine ⟨_, rfl, ?_⟩; have n0_ := z8_A (Kd.R_mono (ok' := fun k_ => z8_V k_ v316 ∧ z8_S k_ Ao102 t330.length co102 ∧ z8_S k_ Ao104 t333.length co104 ∧ z8_S k_ Ao41 t349.length co41) (Kd.R_keptB (HO_8.out) hkp (fun k_ hk_ hs_ => (hk_.2.2.1) hs_)) (fun k_ hk_ => ⟨hk_.1.1, hk_.1.2.1, hk_.1.2.2.1, hk_.1.2.2.2⟩)); have n1_ := z8_A (Kd.R_mono (ok' := fun k_ => z8_V k_ v313 ∧ z8_S k_ Ao102 t330.length co102 ∧ z8_S k_ Ao104 t333.length co104 ∧ z8_S k_ Ao41 t349.length co41) (Kd.R_keptB (HO_9.out) hkp (fun k_ hk_ hs_ => (hk_.2.2.1) hs_)) (fun k_ hk_ => ⟨hk_.1.1, hk_.1.2.1, hk_.1.2.2.1, hk_.1.2.2.2⟩)); have n2_ := z8_A (Kd.Q_mono (ok' := fun k_ => z8_V k_ v313 ∧ z8_V k_ v316 ∧ z8_S k_ Ao104 t333.length co104 ∧ z8_S k_ Ao41 t349.length co41) (Kd.Q_keptB (HO_13.out) hkp (fun k_ hk_ hs_ => (hk_.2.2.1) hs_)) (fun k_ hk_ => ⟨hk_.1.1, hk_.1.2.1, hk_.1.2.2.1, hk_.1.2.2.2⟩)); have n3_ := z8_A (Kd.Q_mono (Kd.Q_tight rfl hy0) (fun k_ hk_ => HO_14.out.1 k_ hk_.symm)); have n4_ := z8_A (Kd.Q_mono (ok' := fun k_ => z8_V k_ v313 ∧ z8_V k_ v316 ∧ z8_S k_ Ao102 t330.length co102 ∧ z8_S k_ Ao104 t333.length co104) (Kd.Q_keptB (HO_324001.out) hkp (fun k_ hk_ hs_ => (hk_.2.2.2) hs_)) (fun k_ hk_ => ⟨hk_.1.1, hk_.1.2.1, hk_.1.2.2.1, hk_.1.2.2.2⟩)); have n5_ := z8_A (blk_kept (g := gb299) (o := .cells #[.int .i64 a0_0, .slice A0_1 l0_1.length c0_1] 24 (0, 0)) z8_3 hkp (fun hs_ => (fun e_ => (Kd.Q_ne HO_14.out BK299.out z8_36) e_) hs_)); have n6_ := z8_A (blk_kept (g := gb300) (o := .cells #[.int .i64 a1_0, .int .i64 a1_1, .int .i64 a1_2] 26 (0, 0)) z8_4 hkp (fun hs_ => (fun e_ => (Kd.Q_ne HO_14.out BK300.out z8_36) e_) hs_)); have n7_ := z8_A (blk_kept (g := gb323) (o := .cells #[.int .i64 t319, .slice Ao41 t349.length co41] 30 (0, 0)) z8_5 hkp (fun hs_ => (fun e_ => (Kd.Q_ne HO_14.out BK323.out z8_36) e_) hs_)); have n8_ := z8_A (hb); clear HO_8 HO_9 HO_13 HO_14 HO_324001 BK299 BK300 BK323 HB; revert n0_ n1_ n2_ n3_ n4_ n5_ n6_ n7_ n8_; intro HO_8 HO_9 HO_13 HO_14 HO_324001 BK299 BK300 BK323 HB; (try clear hb); (try clear hkp); (try clear hy0)) | ((with_reducible refine gate_callee (f := 21) rfl ?_); refine goesL_ (some 112) rfl rfl Try.func21 z8_12 rfl #[.slice Ao102 t355.length co102, .int .i64 1] rfl z8_19 ?_; (with_reducible refine (laws_heldIntS.calls kj69 _ _ t355 1 t358 _ ?side1 ?side2 A100.out).mono ?_); (case side1 => have zh := (Kd.Q_reads' HO_13.out).2.2; exact z8_C); (case side2 => rw [show t355.length = t330.length from (Kd.Q_reads' HO_13.out).1.symm]; exact (Kd.Q_reads' HO_13.out).2.1); rintro e w' ⟨rfl, ⟨nd, rfl⟩⟩; refine ⟨_, rfl, ?_⟩))
            go_ret
            exact ⟨z8_16, z8_1⟩
           ·rw [if_neg c101] at H
            have c101b0 : decide (t358 < 0) = false := decide_eq_false c101
            clear c101
            replace H := Option.bind_eq_some_iff.mp H
            obtain ⟨t359, A1060, H⟩ := H
            (try dsimp only at H)
            have A106 := z8_A A1060
            clear A1060
            by_cases c107 : t359 < 0
            ·rw [if_pos c107] at H
             have c107b0 : decide (t359 < 0) = true := decide_eq_true c107
             clear c107
             obtain rfl := Option.some.inj H
             obtain ⟨Ao108, co108, eo108, _⟩ := Kd.Q_slice HO_13.out
             subst eo108
             go_wp2_with (first | ((with_reducible refine gate_callee (f := 20) rfl ?_); refine goesL_ (some 106) rfl rfl Try.func20 z8_12 rfl #[.slice Ao108 t330.length co108, .int .i64 1] rfl z8_2 ?_; (with_reducible refine (laws_markIntS.calls kj69 (fun k_ => some k_ = (.slice Ao108 t330.length co108 : Value).ownBlock) (.slice Ao108 t330.length co108) t330 1 t354 t355 w _ ?side1 ?side2 A98.out).mono ?_); (case side1 => repeat (first | (with_reducible first | exact HB.out | apply below_alloc | apply pw_below_drewN | apply below_drew1 | refine below_set ?_ GE299.out | refine below_set ?_ GE300.out | refine below_set ?_ GE323.out) | exact HB.out)); (case side2 => exact Kd.Q_tight rfl HO_13.out); rintro e w109 ⟨rfl, hy0, hb, hkp⟩; refine ⟨_, rfl, ?_⟩; have n0_ := z8_A (Kd.R_mono (ok' := fun k_ => z8_V k_ v316 ∧ z8_S k_ Ao108 t330.length co108 ∧ z8_V k_ v334 ∧ z8_S k_ Ao41 t349.length co41) (Kd.R_keptB (HO_8.out) hkp (fun k_ hk_ hs_ => (hk_.2.1) hs_)) (fun k_ hk_ => ⟨hk_.1.1, hk_.1.2.1, hk_.1.2.2.1, hk_.1.2.2.2⟩)); have n1_ := z8_A (Kd.R_mono (ok' := fun k_ => z8_V k_ v313 ∧ z8_S k_ Ao108 t330.length co108 ∧ z8_V k_ v334 ∧ z8_S k_ Ao41 t349.length co41) (Kd.R_keptB (HO_9.out) hkp (fun k_ hk_ hs_ => (hk_.2.1) hs_)) (fun k_ hk_ => ⟨hk_.1.1, hk_.1.2.1, hk_.1.2.2.1, hk_.1.2.2.2⟩)); have n2_ := z8_A (Kd.Q_mono (Kd.Q_tight rfl hy0) (fun k_ hk_ => HO_13.out.1 k_ hk_.symm)); have n3_ := z8_A (Kd.Q_mono (ok' := fun k_ => z8_V k_ v313 ∧ z8_V k_ v316 ∧ z8_S k_ Ao108 t330.length co108 ∧ z8_S k_ Ao41 t349.length co41) (Kd.Q_keptB (HO_14.out) hkp (fun k_ hk_ hs_ => (hk_.2.2.1) hs_)) (fun k_ hk_ => ⟨hk_.1.1, hk_.1.2.1, hk_.1.2.2.1, hk_.1.2.2.2⟩)); have n4_ := z8_A (Kd.Q_mono (ok' := fun k_ => z8_V k_ v313 ∧ z8_V k_ v316 ∧ z8_S k_ Ao108 t330.length co108 ∧ z8_V k_ v334) (Kd.Q_keptB (HO_324001.out) hkp (fun k_ hk_ hs_ => (hk_.2.2.1) hs_)) (fun k_ hk_ => ⟨hk_.1.1, hk_.1.2.1, hk_.1.2.2.1, hk_.1.2.2.2⟩)); have n5_ := z8_A (blk_kept (g := gb299) (o := .cells #[.int .i64 a0_0, .slice A0_1 l0_1.length c0_1] 24 (0, 0)) z8_3 hkp (fun hs_ => (fun e_ => (Kd.Q_ne HO_13.out BK299.out z8_36) e_) hs_)); have n6_ := z8_A (blk_kept (g := gb300) (o := .cells #[.int .i64 a1_0, .int .i64 a1_1, .int .i64 a1_2] 26 (0, 0)) z8_4 hkp (fun hs_ => (fun e_ => (Kd.Q_ne HO_13.out BK300.out z8_36) e_) hs_)); have n7_ := z8_A (blk_kept (g := gb323) (o := .cells #[.int .i64 t319, .slice Ao41 t349.length co41] 30 (0, 0)) z8_5 hkp (fun hs_ => (fun e_ => (Kd.Q_ne HO_13.out BK323.out z8_36) e_) hs_)); have n8_ := z8_A (hb); clear HO_8 HO_9 HO_13 HO_14 HO_324001 BK299 BK300 BK323 HB; revert n0_ n1_ n2_ n3_ n4_ n5_ n6_ n7_ n8_; intro HO_8 HO_9 HO_13 HO_14 HO_324001 BK299 BK300 BK323 HB; (try clear hb); (try clear hkp); (try clear hy0); obtain ⟨Ao110, co110, eo110, _⟩ := Kd.Q_slice HO_14.out; subst eo110) | ((with_reducible refine gate_callee (f := 20) rfl ?_); refine goesL_ (some 109) rfl rfl Try.func20 z8_12 rfl #[.slice Ao110 t333.length co110, .int .i64 t354] rfl z8_2 ?_; (with_reducible refine (laws_markIntS.calls kj69 (fun k_ => some k_ = (.slice Ao110 t333.length co110 : Value).ownBlock) (.slice Ao110 t333.length co110) t333 t354 t356 t357 w _ ?side1 ?side2 A99.out).mono ?_); (case side1 => repeat (first | (with_reducible first | exact HB.out | apply below_alloc | apply pw_below_drewN | apply below_drew1 | refine below_set ?_ GE299.out | refine below_set ?_ GE300.out | refine below_set ?_ GE323.out) | exact HB.out)); (case side2 => exact Kd.Q_tight rfl HO_14.out); rintro e w111 ⟨rfl, hy0, hb, hkp⟩; refine ⟨_, rfl, ?_⟩; have n0_ := z8_A (Kd.R_mono (ok' := fun k_ => z8_V k_ v316 ∧ z8_S k_ Ao108 t330.length co108 ∧ z8_S k_ Ao110 t333.length co110 ∧ z8_S k_ Ao41 t349.length co41) (Kd.R_keptB (HO_8.out) hkp (fun k_ hk_ hs_ => (hk_.2.2.1) hs_)) (fun k_ hk_ => ⟨hk_.1.1, hk_.1.2.1, hk_.1.2.2.1, hk_.1.2.2.2⟩)); have n1_ := z8_A (Kd.R_mono (ok' := fun k_ => z8_V k_ v313 ∧ z8_S k_ Ao108 t330.length co108 ∧ z8_S k_ Ao110 t333.length co110 ∧ z8_S k_ Ao41 t349.length co41) (Kd.R_keptB (HO_9.out) hkp (fun k_ hk_ hs_ => (hk_.2.2.1) hs_)) (fun k_ hk_ => ⟨hk_.1.1, hk_.1.2.1, hk_.1.2.2.1, hk_.1.2.2.2⟩)); have n2_ := z8_A (Kd.Q_mono (ok' := fun k_ => z8_V k_ v313 ∧ z8_V k_ v316 ∧ z8_S k_ Ao110 t333.length co110 ∧ z8_S k_ Ao41 t349.length co41) (Kd.Q_keptB (HO_13.out) hkp (fun k_ hk_ hs_ => (hk_.2.2.1) hs_)) (fun k_ hk_ => ⟨hk_.1.1, hk_.1.2.1, hk_.1.2.2.1, hk_.1.2.2.2⟩)); have n3_ := z8_A (Kd.Q_mono (Kd.Q_tight rfl hy0) (fun k_ hk_ => HO_14.out.1 k_ hk_.symm)); have n4_ := z8_A (Kd.Q_mono (ok' := fun k_ => z8_V k_ v313 ∧ z8_V k_ v316 ∧ z8_S k_ Ao108 t330.length co108 ∧ z8_S k_ Ao110 t333.length co110) (Kd.Q_keptB (HO_324001.out) hkp (fun k_ hk_ hs_ => (hk_.2.2.2) hs_)) (fun k_ hk_ => ⟨hk_.1.1, hk_.1.2.1, hk_.1.2.2.1, hk_.1.2.2.2⟩)); have n5_ := z8_A (blk_kept (g := gb299) (o := .cells #[.int .i64 a0_0, .slice A0_1 l0_1.length c0_1] 24 (0, 0)) z8_3 hkp (fun hs_ => (fun e_ => (Kd.Q_ne HO_14.out BK299.out z8_36) e_) hs_)); have n6_ := z8_A (blk_kept (g := gb300) (o := .cells #[.int .i64 a1_0, .int .i64 a1_1, .int .i64 a1_2] 26 (0, 0)) z8_4 hkp (fun hs_ => (fun e_ => (Kd.Q_ne HO_14.out BK300.out z8_36) e_) hs_)); have n7_ := z8_A (blk_kept (g := gb323) (o := .cells #[.int .i64 t319, .slice Ao41 t349.length co41] 30 (0, 0)) z8_5 hkp (fun hs_ => (fun e_ => (Kd.Q_ne HO_14.out BK323.out z8_36) e_) hs_)); have n8_ := z8_A (hb); clear HO_8 HO_9 HO_13 HO_14 HO_324001 BK299 BK300 BK323 HB; revert n0_ n1_ n2_ n3_ n4_ n5_ n6_ n7_ n8_; intro HO_8 HO_9 HO_13 HO_14 HO_324001 BK299 BK300 BK323 HB; (try clear hb); (try clear hkp); (try clear hy0)) | ((with_reducible refine gate_callee (f := 21) rfl ?_); refine goesL_ (some 112) rfl rfl Try.func21 z8_12 rfl #[.slice Ao108 t355.length co108, .int .i64 1] rfl z8_19 ?_; (with_reducible refine (laws_heldIntS.calls kj69 _ _ t355 1 t358 _ ?side1 ?side2 A100.out).mono ?_); (case side1 => have zh := (Kd.Q_reads' HO_13.out).2.2; exact z8_C); (case side2 => rw [show t355.length = t330.length from (Kd.Q_reads' HO_13.out).1.symm]; exact (Kd.Q_reads' HO_13.out).2.1); rintro e w' ⟨rfl, ⟨nd, rfl⟩⟩; refine ⟨_, rfl, ?_⟩) | ((with_reducible refine gate_callee (f := 21) rfl ?_); refine goesL_ (some 117) rfl rfl Try.func21 z8_12 rfl #[.slice Ao110 t357.length co110, .int .i64 t358] rfl z8_30 ?_; (with_reducible refine (laws_heldIntS.calls kj69 _ _ t357 t358 t359 _ ?side1 ?side2 A106.out).mono ?_); (case side1 => have zh := (Kd.Q_reads' HO_14.out).2.2; exact z8_C); (case side2 => rw [show t357.length = t333.length from (Kd.Q_reads' HO_14.out).1.symm]; exact (Kd.Q_reads' HO_14.out).2.1); rintro e w' ⟨rfl, ⟨nd, rfl⟩⟩; refine ⟨_, rfl, ?_⟩))
             go_ret
             exact ⟨z8_16, z8_1⟩
            ·rw [if_neg c107] at H
             have c107b0 : decide (t359 < 0) = false := decide_eq_false c107
             clear c107
             by_cases c112 : t359 = t356
             ·rw [if_pos c112] at H
              have c112b0 : (t359 == t356) = true := beq_iff_eq.mpr c112
              have c112b1 : (t359 != t356) = false := bne_eq_false_iff_eq.mpr c112
              clear c112
              replace H := Option.bind_eq_some_iff.mp H
              obtain ⟨⟨t360, t361⟩, A1130, H⟩ := H
              (try dsimp only at H)
              have A113 := z8_A A1130
              clear A1130
              replace H := Option.bind_eq_some_iff.mp H
              obtain ⟨⟨t364, t365, t366⟩, A1140, H⟩ := H
              (try dsimp only at H)
              have A114 := z8_A A1140
              clear A1140
              replace H := Option.bind_eq_some_iff.mp H
              obtain ⟨t367, A1150, H⟩ := H
              (try dsimp only at H)
              have A115 := z8_A A1150
              clear A1150
              replace H := Option.bind_eq_some_iff.mp H
              obtain ⟨⟨t370, t373, t376⟩, A1160, H⟩ := H
              (try dsimp only at H)
              have A116 := z8_A A1160
              clear A1160
              have HC117 := z8_A H
              clear H
              obtain ⟨Ao118, co118, eo118, _⟩ := Kd.Q_slice HO_13.out
              subst eo118
              try go_wp2_with (first | ((with_reducible refine gate_callee (f := 20) rfl ?_); refine goesL_ (some 106) rfl rfl Try.func20 z8_12 rfl #[.slice Ao118 t330.length co118, .int .i64 1] rfl z8_2 ?_; (with_reducible refine (laws_markIntS.calls kj69 (fun k_ => some k_ = (.slice Ao118 t330.length co118 : Value).ownBlock) (.slice Ao118 t330.length co118) t330 1 t354 t355 w _ ?side1 ?side2 A98.out).mono ?_); (case side1 => repeat (first | (with_reducible first | exact HB.out | apply below_alloc | apply pw_below_drewN | apply below_drew1 | refine below_set ?_ GE299.out | refine below_set ?_ GE300.out | refine below_set ?_ GE323.out) | exact HB.out)); (case side2 => exact Kd.Q_tight rfl HO_13.out); rintro e w119 ⟨rfl, hy0, hb, hkp⟩; refine ⟨_, rfl, ?_⟩; have n0_ := z8_A (Kd.R_mono (ok' := fun k_ => z8_V k_ v316 ∧ z8_S k_ Ao118 t330.length co118 ∧ z8_V k_ v334 ∧ z8_S k_ Ao41 t349.length co41) (Kd.R_keptB (HO_8.out) hkp (fun k_ hk_ hs_ => (hk_.2.1) hs_)) (fun k_ hk_ => ⟨hk_.1.1, hk_.1.2.1, hk_.1.2.2.1, hk_.1.2.2.2⟩)); have n1_ := z8_A (Kd.R_mono (ok' := fun k_ => z8_V k_ v313 ∧ z8_S k_ Ao118 t330.length co118 ∧ z8_V k_ v334 ∧ z8_S k_ Ao41 t349.length co41) (Kd.R_keptB (HO_9.out) hkp (fun k_ hk_ hs_ => (hk_.2.1) hs_)) (fun k_ hk_ => ⟨hk_.1.1, hk_.1.2.1, hk_.1.2.2.1, hk_.1.2.2.2⟩)); have n2_ := z8_A (Kd.Q_mono (Kd.Q_tight rfl hy0) (fun k_ hk_ => HO_13.out.1 k_ hk_.symm)); have n3_ := z8_A (Kd.Q_mono (ok' := fun k_ => z8_V k_ v313 ∧ z8_V k_ v316 ∧ z8_S k_ Ao118 t330.length co118 ∧ z8_S k_ Ao41 t349.length co41) (Kd.Q_keptB (HO_14.out) hkp (fun k_ hk_ hs_ => (hk_.2.2.1) hs_)) (fun k_ hk_ => ⟨hk_.1.1, hk_.1.2.1, hk_.1.2.2.1, hk_.1.2.2.2⟩)); have n4_ := z8_A (Kd.Q_mono (ok' := fun k_ => z8_V k_ v313 ∧ z8_V k_ v316 ∧ z8_S k_ Ao118 t330.length co118 ∧ z8_V k_ v334) (Kd.Q_keptB (HO_324001.out) hkp (fun k_ hk_ hs_ => (hk_.2.2.1) hs_)) (fun k_ hk_ => ⟨hk_.1.1, hk_.1.2.1, hk_.1.2.2.1, hk_.1.2.2.2⟩)); have n5_ := z8_A (blk_kept (g := gb299) (o := .cells #[.int .i64 a0_0, .slice A0_1 l0_1.length c0_1] 24 (0, 0)) z8_3 hkp (fun hs_ => (fun e_ => (Kd.Q_ne HO_13.out BK299.out z8_36) e_) hs_)); have n6_ := z8_A (blk_kept (g := gb300) (o := .cells #[.int .i64 a1_0, .int .i64 a1_1, .int .i64 a1_2] 26 (0, 0)) z8_4 hkp (fun hs_ => (fun e_ => (Kd.Q_ne HO_13.out BK300.out z8_36) e_) hs_)); have n7_ := z8_A (blk_kept (g := gb323) (o := .cells #[.int .i64 t319, .slice Ao41 t349.length co41] 30 (0, 0)) z8_5 hkp (fun hs_ => (fun e_ => (Kd.Q_ne HO_13.out BK323.out z8_36) e_) hs_)); have n8_ := z8_A (hb); clear HO_8 HO_9 HO_13 HO_14 HO_324001 BK299 BK300 BK323 HB; revert n0_ n1_ n2_ n3_ n4_ n5_ n6_ n7_ n8_; intro HO_8 HO_9 HO_13 HO_14 HO_324001 BK299 BK300 BK323 HB; (try clear hb); (try clear hkp); (try clear hy0); obtain ⟨Ao120, co120, eo120, _⟩ := Kd.Q_slice HO_14.out; subst eo120) | ((with_reducible refine gate_callee (f := 20) rfl ?_); refine goesL_ (some 109) rfl rfl Try.func20 z8_12 rfl #[.slice Ao120 t333.length co120, .int .i64 t354] rfl z8_2 ?_; (with_reducible refine (laws_markIntS.calls kj69 (fun k_ => some k_ = (.slice Ao120 t333.length co120 : Value).ownBlock) (.slice Ao120 t333.length co120) t333 t354 t356 t357 w _ ?side1 ?side2 A99.out).mono ?_); (case side1 => repeat (first | (with_reducible first | exact HB.out | apply below_alloc | apply pw_below_drewN | apply below_drew1 | refine below_set ?_ GE299.out | refine below_set ?_ GE300.out | refine below_set ?_ GE323.out) | exact HB.out)); (case side2 => exact Kd.Q_tight rfl HO_14.out); rintro e w121 ⟨rfl, hy0, hb, hkp⟩; refine ⟨_, rfl, ?_⟩; have n0_ := z8_A (Kd.R_mono (ok' := fun k_ => z8_V k_ v316 ∧ z8_S k_ Ao118 t330.length co118 ∧ z8_S k_ Ao120 t333.length co120 ∧ z8_S k_ Ao41 t349.length co41) (Kd.R_keptB (HO_8.out) hkp (fun k_ hk_ hs_ => (hk_.2.2.1) hs_)) (fun k_ hk_ => ⟨hk_.1.1, hk_.1.2.1, hk_.1.2.2.1, hk_.1.2.2.2⟩)); have n1_ := z8_A (Kd.R_mono (ok' := fun k_ => z8_V k_ v313 ∧ z8_S k_ Ao118 t330.length co118 ∧ z8_S k_ Ao120 t333.length co120 ∧ z8_S k_ Ao41 t349.length co41) (Kd.R_keptB (HO_9.out) hkp (fun k_ hk_ hs_ => (hk_.2.2.1) hs_)) (fun k_ hk_ => ⟨hk_.1.1, hk_.1.2.1, hk_.1.2.2.1, hk_.1.2.2.2⟩)); have n2_ := z8_A (Kd.Q_mono (ok' := fun k_ => z8_V k_ v313 ∧ z8_V k_ v316 ∧ z8_S k_ Ao120 t333.length co120 ∧ z8_S k_ Ao41 t349.length co41) (Kd.Q_keptB (HO_13.out) hkp (fun k_ hk_ hs_ => (hk_.2.2.1) hs_)) (fun k_ hk_ => ⟨hk_.1.1, hk_.1.2.1, hk_.1.2.2.1, hk_.1.2.2.2⟩)); have n3_ := z8_A (Kd.Q_mono (Kd.Q_tight rfl hy0) (fun k_ hk_ => HO_14.out.1 k_ hk_.symm)); have n4_ := z8_A (Kd.Q_mono (ok' := fun k_ => z8_V k_ v313 ∧ z8_V k_ v316 ∧ z8_S k_ Ao118 t330.length co118 ∧ z8_S k_ Ao120 t333.length co120) (Kd.Q_keptB (HO_324001.out) hkp (fun k_ hk_ hs_ => (hk_.2.2.2) hs_)) (fun k_ hk_ => ⟨hk_.1.1, hk_.1.2.1, hk_.1.2.2.1, hk_.1.2.2.2⟩)); have n5_ := z8_A (blk_kept (g := gb299) (o := .cells #[.int .i64 a0_0, .slice A0_1 l0_1.length c0_1] 24 (0, 0)) z8_3 hkp (fun hs_ => (fun e_ => (Kd.Q_ne HO_14.out BK299.out z8_36) e_) hs_)); have n6_ := z8_A (blk_kept (g := gb300) (o := .cells #[.int .i64 a1_0, .int .i64 a1_1, .int .i64 a1_2] 26 (0, 0)) z8_4 hkp (fun hs_ => (fun e_ => (Kd.Q_ne HO_14.out BK300.out z8_36) e_) hs_)); have n7_ := z8_A (blk_kept (g := gb323) (o := .cells #[.int .i64 t319, .slice Ao41 t349.length co41] 30 (0, 0)) z8_5 hkp (fun hs_ => (fun e_ => (Kd.Q_ne HO_14.out BK323.out z8_36) e_) hs_)); have n8_ := z8_A (hb); clear HO_8 HO_9 HO_13 HO_14 HO_324001 BK299 BK300 BK323 HB; revert n0_ n1_ n2_ n3_ n4_ n5_ n6_ n7_ n8_; intro HO_8 HO_9 HO_13 HO_14 HO_324001 BK299 BK300 BK323 HB; (try clear hb); (try clear hkp); (try clear hy0)) | ((with_reducible refine gate_callee (f := 21) rfl ?_); refine goesL_ (some 112) rfl rfl Try.func21 z8_12 rfl #[.slice Ao118 t355.length co118, .int .i64 1] rfl z8_19 ?_; (with_reducible refine (laws_heldIntS.calls kj69 _ _ t355 1 t358 _ ?side1 ?side2 A100.out).mono ?_); (case side1 => have zh := (Kd.Q_reads' HO_13.out).2.2; exact z8_C); (case side2 => rw [show t355.length = t330.length from (Kd.Q_reads' HO_13.out).1.symm]; exact (Kd.Q_reads' HO_13.out).2.1); rintro e w' ⟨rfl, ⟨nd, rfl⟩⟩; refine ⟨_, rfl, ?_⟩) | ((with_reducible refine gate_callee (f := 21) rfl ?_); refine goesL_ (some 117) rfl rfl Try.func21 z8_12 rfl #[.slice Ao120 t357.length co120, .int .i64 t358] rfl z8_30 ?_; (with_reducible refine (laws_heldIntS.calls kj69 _ _ t357 t358 t359 _ ?side1 ?side2 A106.out).mono ?_); (case side1 => have zh := (Kd.Q_reads' HO_14.out).2.2; exact z8_C); (case side2 => rw [show t357.length = t333.length from (Kd.Q_reads' HO_14.out).1.symm]; exact (Kd.Q_reads' HO_14.out).2.1); rintro e w' ⟨rfl, ⟨nd, rfl⟩⟩; refine ⟨_, rfl, ?_⟩))
              (try (rw [drewN_self w121]; generalize hq_ : World.drewN w121 _ = w121; have n0_ : Aside0 (Kd.Q (Kd.int .i64) 3 w121 w.heap.size (fun k_ => z8_V k_ v313 ∧ z8_V k_ v316 ∧ z8_S k_ Ao120 t333.length co120 ∧ z8_S k_ Ao41 t349.length co41) (.slice Ao118 t330.length co118) t355) := ⟨by rw [← hq_]; exact z8_9⟩; have n1_ : Aside0 (Kd.Q (Kd.int .i64) 3 w121 w.heap.size (fun k_ => z8_V k_ v313 ∧ z8_V k_ v316 ∧ z8_S k_ Ao118 t330.length co118 ∧ z8_S k_ Ao41 t349.length co41) (.slice Ao120 t333.length co120) t357) := ⟨by rw [← hq_]; exact z8_8⟩; have n2_ : Aside0 (Kd.Q (Kd.int .i64) 3 w121 w.heap.size (fun k_ => z8_V k_ v313 ∧ z8_V k_ v316 ∧ z8_S k_ Ao118 t330.length co118 ∧ z8_S k_ Ao120 t333.length co120) (.slice Ao41 t349.length co41) t349) := ⟨by rw [← hq_]; exact z8_7⟩; have n3_ : Aside0 (Kd.R (Kd.int .i64) 3 w121 w.heap.size (fun k_ => z8_V k_ v316 ∧ z8_S k_ Ao118 t330.length co118 ∧ z8_S k_ Ao120 t333.length co120 ∧ z8_S k_ Ao41 t349.length co41) v313 t312) := ⟨by rw [← hq_]; exact z8_11⟩; have n4_ : Aside0 (Kd.R (Kd.int .i64) 3 w121 w.heap.size (fun k_ => z8_V k_ v313 ∧ z8_S k_ Ao118 t330.length co118 ∧ z8_S k_ Ao120 t333.length co120 ∧ z8_S k_ Ao41 t349.length co41) v316 t315) := ⟨by rw [← hq_]; exact z8_10⟩; have n5_ : Aside0 (w121.heap[gb299]? = some (.cells #[.int .i64 a0_0, .slice A0_1 l0_1.length c0_1] 24 (0, 0))) := ⟨by rw [← hq_]; exact z8_3⟩; have n6_ : Aside0 (w121.heap[gb300]? = some (.cells #[.int .i64 a1_0, .int .i64 a1_1, .int .i64 a1_2] 26 (0, 0))) := ⟨by rw [← hq_]; exact z8_4⟩; have n7_ : Aside0 (w121.heap[gb323]? = some (.cells #[.int .i64 t319, .slice Ao41 t349.length co41] 30 (0, 0))) := ⟨by rw [← hq_]; exact z8_5⟩; have n8_ : Aside0 (Below w.heap.size w w121) := ⟨by rw [← hq_]; exact z8_1⟩; clear HO_13 HO_14 HO_324001 HO_8 HO_9 BK299 BK300 BK323 HB hq_; revert n0_ n1_ n2_ n3_ n4_ n5_ n6_ n7_ n8_; intro HO_13 HO_14 HO_324001 HO_8 HO_9 BK299 BK300 BK323 HB))
              have n0_ := z8_A (Kd.R_drew HO_8.out)
              have n1_ := z8_A (Kd.R_drew HO_9.out)
              have n2_ := z8_A (Kd.Q_drew HO_13.out)
              have n3_ := z8_A (Kd.Q_drew HO_14.out)
              have n4_ := z8_A (Kd.Q_drew HO_324001.out)
              have n5_ := z8_A (blk_drew BK299.out)
              have n6_ := z8_A (blk_drew BK300.out)
              have n7_ := z8_A (blk_drew BK323.out)
              have n8_ := z8_A (below_drew1 HB.out)
              clear HO_8
              clear HO_9
              clear HO_13
              clear HO_14
              clear HO_324001
              clear BK299
              clear BK300
              clear BK323
              clear HB
              have HO_8 := n0_
              have HO_9 := n1_
              have HO_13 := n2_
              have HO_14 := n3_
              have HO_324001 := n4_
              have BK299 := n5_
              have BK300 := n6_
              have BK323 := n7_
              have HB := n8_
              clear n0_ n1_ n2_ n3_ n4_ n5_ n6_ n7_ n8_
              refine start_ (n := 14) (S := fun w' => w'.cell? ⟨gb299, 0, none⟩ = some (.int .i64 a0_0) ∧ w'.cell? ⟨gb299, 1, none⟩ = some (.slice A0_1 l0_1.length c0_1) ∧ w'.cell? ⟨gb300, 0, none⟩ = some (.int .i64 a1_0) ∧ w'.cell? ⟨gb300, 1, none⟩ = some (.int .i64 a1_1) ∧ w'.cell? ⟨gb300, 2, none⟩ = some (.int .i64 a1_2)) (ds := []) #[false, false, false, false, false, false, false, false, false, false, false, false, false, false] z8_12 rfl rfl ⟨(blk_cell BK299.out 0).trans rfl, (blk_cell BK299.out 1).trans rfl, (blk_cell BK300.out 0).trans rfl, (blk_cell BK300.out 1).trans rfl, (blk_cell BK300.out 2).trans rfl⟩ (fun hHeld => ?_); refine with_tabW laws_FnExactRunRule.tab34 laws_FnExactRunRule.bits34 (fun HT_ HW_ => ?_)
              generalize w121.drew = w122 at HO_8 HO_9 HO_13 HO_14 HO_324001 BK299 BK300 BK323 HB hHeld ⊢
              refine pure_ (i := 4) (N := some 128) (v := ?_) (a' := ?_) #[false, false, false, false, true, false, false, false, false, false, false, false, false, false] rfl rfl (any_of HT_.out z8_12) (fun _ _ _ h => h) (Or.inl ⟨z8_55, ?_⟩) ?_ ?_
              rotate_left
              ·intro w'
               go_simp
               with_reducible rfl
              rotate_left
              ·simp only [Act.put, List.setIfInBounds_toArray, List.set_cons_zero, List.set_cons_succ, i64_w, i32_w]
               rfl
              refine take_ (i := 0) (N := some 124) (v := ?_) (a' := ?_) #[true, false, false, false, true, false, false, false, false, false, false, false, false, false] rfl rfl (take_ofW HT_.out HW_.out z8_12) (fun _ _ _ h => h) (Or.inl ⟨z8_55, ?_⟩) hHeld ?_ ?_
              rotate_left
              ·rintro w' ⟨s0, s1, s2, s3, s4⟩
               go_simp
               with_reducible rfl
              rotate_left
              ·simp only [Act.put, List.setIfInBounds_toArray, List.set_cons_zero, List.set_cons_succ, i64_w, i32_w]
               rfl
              refine take_ (i := 2) (N := some 126) (v := ?_) (a' := ?_) #[true, false, true, false, true, false, false, false, false, false, false, false, false, false] rfl rfl (take_ofW HT_.out HW_.out z8_12) (fun _ _ _ h => h) (Or.inl ⟨z8_55, ?_⟩) hHeld ?_ ?_
              rotate_left
              ·rintro w' ⟨s0, s1, s2, s3, s4⟩
               go_simp
               with_reducible rfl
              rotate_left
              ·simp only [Act.put, List.setIfInBounds_toArray, List.set_cons_zero, List.set_cons_succ, i64_w, i32_w]
               rfl
              refine one_ (i := 1) (N := some 125) #[true, true, true, false, true, false, false, false, false, false, false, false, false, false] rfl rfl (one_of HT_.out z8_12) z8_36 (fun K hK => ?_)
              refine goes_ Try.func11 z8_12 rfl #[.agg #[.int .i64 a0_0, .slice A0_1 l0_1.length c0_1]] z8_55 rfl rfl z8_2 ?_
              with_reducible refine (laws_toFlow.calls kj69 a0_0 _ _ l0_1 t360 t361 _ ?side1 ?side2 A113.out).mono ?_
              (case side1 => have zh := (Kd.C_below HR0_1.out HB.out); exact z8_C)
              (case side2 => exact HC0_1.out)
              rintro e w123 ⟨v362, rfl, ho0, hb⟩
              refine ⟨_, rfl, ?_⟩
              have n0_ := z8_A (Kd.R_elder' z8_11 (Kd.R_base ho0) hb)
              have n1_ := z8_A (Kd.R_elder' z8_10 (Kd.R_base ho0) hb)
              have n2_ := z8_A (Kd.Q_elder' z8_9 (Kd.R_base ho0) hb)
              have n3_ := z8_A (Kd.Q_elder' z8_8 (Kd.R_base ho0) hb)
              have n4_ := z8_A (Kd.Q_elder' z8_7 (Kd.R_base ho0) hb)
              have n5_ := z8_A (Kd.R_lower (Kd.R_new' (Kd.R_new' (Kd.R_new' (Kd.R_new' (Kd.R_new' ho0 (Kd.R_lt z8_11)) (Kd.R_lt z8_10)) (Kd.Q_lt z8_9)) (Kd.Q_lt z8_8)) (Kd.Q_lt z8_7)) (below_size z8_1))
              have n6_ := z8_A (blk_below (g := gb299) (o := .cells #[.int .i64 a0_0, .slice A0_1 l0_1.length c0_1] 24 (0, 0)) z8_3 hb)
              have n7_ := z8_A (blk_below (g := gb300) (o := .cells #[.int .i64 a1_0, .int .i64 a1_1, .int .i64 a1_2] 26 (0, 0)) z8_4 hb)
              have n8_ := z8_A (blk_below (g := gb323) (o := .cells #[.int .i64 t319, .slice Ao41 t349.length co41] 30 (0, 0)) z8_5 hb)
              have n9_ := z8_A (below_step z8_1 hb)
              clear HO_8
              clear HO_9
              clear HO_13
              clear HO_14
              clear HO_324001
              clear BK299
              clear BK300
              clear BK323
              clear HB
              have HO_8 := n0_
              have HO_9 := n1_
              have HO_13 := n2_
              have HO_14 := n3_
              have HO_324001 := n4_
              have HO363 := n5_
              have BK299 := n6_
              have BK300 := n7_
              have BK323 := n8_
              have HB := n9_
              clear n0_ n1_ n2_ n3_ n4_ n5_ n6_ n7_ n8_ n9_
              (try clear hb)
              (try clear hb2)
              (try clear hk)
              (try clear hi)
              (try clear ho0)
              refine hK.out _ _ ⟨(blk_cell BK299.out 0).trans rfl, (blk_cell BK299.out 1).trans rfl, (blk_cell BK300.out 0).trans rfl, (blk_cell BK300.out 1).trans rfl, (blk_cell BK300.out 2).trans rfl⟩ (fun hHeld => ?_)
              clear hK K
              refine norm_ (a' := ?_) ?_ ?_
              rotate_left
              ·show Act.put _ (some 125) _ = _
               simp only [Act.put, List.setIfInBounds_toArray, List.set_cons_zero, List.set_cons_succ, i64_w, i32_w]
               rfl
              refine one_ (i := 3) (N := some 127) #[true, true, true, true, true, false, false, false, false, false, false, false, false, false] rfl rfl (one_of HT_.out z8_12) z8_36 (fun K hK => ?_)
              refine goes_ Try.func12 z8_12 rfl #[.agg #[.int .i64 a1_0, .int .i64 a1_1, .int .i64 a1_2]] z8_55 rfl rfl z8_2 ?_
              with_reducible refine (laws_toRule.calls a1_0 a1_1 a1_2 t364 t365 t366 _ A114.out).mono ?_
              rintro e w124 ⟨rfl, hb⟩
              refine ⟨_, rfl, ?_⟩
              have n0_ := z8_A (Kd.R_below z8_11 hb)
              have n1_ := z8_A (Kd.R_below z8_10 hb)
              have n2_ := z8_A (Kd.Q_below z8_9 hb)
              have n3_ := z8_A (Kd.Q_below z8_8 hb)
              have n4_ := z8_A (Kd.Q_below z8_7 hb)
              have n5_ := z8_A (Kd.R_below z8_27 hb)
              have n6_ := z8_A (blk_below (g := gb299) (o := .cells #[.int .i64 a0_0, .slice A0_1 l0_1.length c0_1] 24 (0, 0)) z8_3 hb)
              have n7_ := z8_A (blk_below (g := gb300) (o := .cells #[.int .i64 a1_0, .int .i64 a1_1, .int .i64 a1_2] 26 (0, 0)) z8_4 hb)
              have n8_ := z8_A (blk_below (g := gb323) (o := .cells #[.int .i64 t319, .slice Ao41 t349.length co41] 30 (0, 0)) z8_5 hb)
              have n9_ := z8_A (below_step z8_1 hb)
              clear HO_8
              clear HO_9
              clear HO_13
              clear HO_14
              clear HO_324001
              clear HO363
              clear BK299
              clear BK300
              clear BK323
              clear HB
              have HO_8 := n0_
              have HO_9 := n1_
              have HO_13 := n2_
              have HO_14 := n3_
              have HO_324001 := n4_
              have HO363 := n5_
              have BK299 := n6_
              have BK300 := n7_
              have BK323 := n8_
              have HB := n9_
              clear n0_ n1_ n2_ n3_ n4_ n5_ n6_ n7_ n8_ n9_
              (try clear hb)
              (try clear hb2)
              (try clear hk)
              (try clear hi)
              refine hK.out _ _ ⟨(blk_cell BK299.out 0).trans rfl, (blk_cell BK299.out 1).trans rfl, (blk_cell BK300.out 0).trans rfl, (blk_cell BK300.out 1).trans rfl, (blk_cell BK300.out 2).trans rfl⟩ (fun hHeld => ?_)
              clear hK K
              refine norm_ (a' := ?_) ?_ ?_
              rotate_left
              ·show Act.put _ (some 127) _ = _
               simp only [Act.put, List.setIfInBounds_toArray, List.set_cons_zero, List.set_cons_succ, i64_w, i32_w]
               rfl
              refine one_ (i := 5) (N := some 129) #[true, true, true, true, true, true, false, false, false, false, false, false, false, false] rfl rfl (one_of HT_.out z8_12) z8_36 (fun K hK => ?_)
              refine goes_ Try.func13 z8_12 rfl #[.slice A2 l2.length c2] z8_55 rfl rfl z8_2 ?_
              with_reducible refine (laws_toIntS.calls kj69 _ _ l2 t367 _ ?side1 ?side2 A115.out).mono ?_
              (case side1 => have zh := (Kd.C_below HR2.out HB.out); exact z8_C)
              (case side2 => exact HC2.out)
              rintro e w125 ⟨v368, rfl, ho0, hb⟩
              refine ⟨_, rfl, ?_⟩
              have n0_ := z8_A (Kd.R_elder' z8_11 (Kd.R_base ho0) hb)
              have n1_ := z8_A (Kd.R_elder' z8_10 (Kd.R_base ho0) hb)
              have n2_ := z8_A (Kd.Q_elder' z8_9 (Kd.R_base ho0) hb)
              have n3_ := z8_A (Kd.Q_elder' z8_8 (Kd.R_base ho0) hb)
              have n4_ := z8_A (Kd.Q_elder' z8_7 (Kd.R_base ho0) hb)
              have n5_ := z8_A (Kd.R_elder' z8_27 (Kd.R_base ho0) hb)
              have n6_ := z8_A (Kd.R_lower (Kd.R_new' (Kd.R_new' (Kd.R_new' (Kd.R_new' (Kd.R_new' (Kd.R_new' ho0 (Kd.R_lt z8_11)) (Kd.R_lt z8_10)) (Kd.Q_lt z8_9)) (Kd.Q_lt z8_8)) (Kd.Q_lt z8_7)) (Kd.R_lt z8_27)) (below_size z8_1))
              have n7_ := z8_A (blk_below (g := gb299) (o := .cells #[.int .i64 a0_0, .slice A0_1 l0_1.length c0_1] 24 (0, 0)) z8_3 hb)
              have n8_ := z8_A (blk_below (g := gb300) (o := .cells #[.int .i64 a1_0, .int .i64 a1_1, .int .i64 a1_2] 26 (0, 0)) z8_4 hb)
              have n9_ := z8_A (blk_below (g := gb323) (o := .cells #[.int .i64 t319, .slice Ao41 t349.length co41] 30 (0, 0)) z8_5 hb)
              have n10_ := z8_A (below_step z8_1 hb)
              clear HO_8
              clear HO_9
              clear HO_13
              clear HO_14
              clear HO_324001
              clear HO363
              clear BK299
              clear BK300
              clear BK323
              clear HB
              have HO_8 := n0_
              have HO_9 := n1_
              have HO_13 := n2_
              have HO_14 := n3_
              have HO_324001 := n4_
              have HO363 := n5_
              have HO369 := n6_
              have BK299 := n7_
              have BK300 := n8_
              have BK323 := n9_
              have HB := n10_
              clear n0_ n1_ n2_ n3_ n4_ n5_ n6_ n7_ n8_ n9_ n10_
              (try clear hb)
              (try clear hb2)
              (try clear hk)
              (try clear hi)
              (try clear ho0)
              obtain ⟨Ao126, co126, eo126⟩ := Kd.R_slice HO363.out
              (first | subst eo126 | (injection eo126 with f1_ f2_ f3_; have f4_ := f1_.symm; have f5_ := f3_.symm; clear f1_ f2_ f3_; subst f4_; subst f5_))
              obtain ⟨Ao127, co127, eo127⟩ := Kd.R_slice HO369.out
              (first | subst eo127 | (injection eo127 with f1_ f2_ f3_; have f4_ := f1_.symm; have f5_ := f3_.symm; clear f1_ f2_ f3_; subst f4_; subst f5_))
              refine hK.out _ _ ⟨(blk_cell BK299.out 0).trans rfl, (blk_cell BK299.out 1).trans rfl, (blk_cell BK300.out 0).trans rfl, (blk_cell BK300.out 1).trans rfl, (blk_cell BK300.out 2).trans rfl⟩ (fun hHeld => ?_)
              clear hK K
              refine norm_ (a' := ?_) ?_ ?_
              rotate_left
              ·show Act.put _ (some 129) _ = _
               simp only [Act.put, List.setIfInBounds_toArray, List.set_cons_zero, List.set_cons_succ, i64_w, i32_w]
               rfl
              refine one_ (i := 6) (N := some 130) #[true, true, true, true, true, true, true, false, false, false, false, false, false, false] rfl rfl (one_of HT_.out z8_12) z8_36 (fun K hK => ?_)
              refine goes_ Try.func18 z8_12 rfl #[.agg #[.int .i64 t360, .slice Ao126 t361.length co126], .agg #[.int .i64 t364, .int .i64 t365, .int .i64 t366], .slice Ao127 t367.length co127] z8_55 rfl rfl z8_2 ?_
              with_reducible refine (impl_RunRule.calls kj69 t360 _ _ t361 t364 t365 t366 _ _ t367 t370 t373 t376 _ ?side1 ?side2 ?side3 ?side4 A116.out).mono ?_
              (case side1 => have zh := (Kd.R_reads' HO363.out).2.2; exact z8_C)
              (case side2 => exact (Kd.R_reads' HO363.out).2.1)
              (case side3 => have zh := (Kd.R_reads' HO369.out).2.2; exact z8_C)
              (case side4 => exact (Kd.R_reads' HO369.out).2.1)
              rintro e w128 ⟨v371, v374, rfl, ho0, ho1, hb⟩
              refine ⟨_, rfl, ?_⟩
              have n0_ := z8_A (Kd.R_mono (Kd.R_told (Kd.R_told (Kd.R_old z8_11 hb) (Kd.R_base ho0)) (Kd.R_base ho1)) (fun _ h_ => h_.1))
              have n1_ := z8_A (Kd.R_mono (Kd.R_told (Kd.R_told (Kd.R_old z8_10 hb) (Kd.R_base ho0)) (Kd.R_base ho1)) (fun _ h_ => h_.1))
              have n2_ := z8_A (Kd.Q_mono (Kd.Q_told (Kd.Q_told (Kd.Q_old z8_9 hb) (Kd.R_base ho0)) (Kd.R_base ho1)) (fun _ h_ => h_.1))
              have n3_ := z8_A (Kd.Q_mono (Kd.Q_told (Kd.Q_told (Kd.Q_old z8_8 hb) (Kd.R_base ho0)) (Kd.R_base ho1)) (fun _ h_ => h_.1))
              have n4_ := z8_A (Kd.Q_mono (Kd.Q_told (Kd.Q_told (Kd.Q_old z8_7 hb) (Kd.R_base ho0)) (Kd.R_base ho1)) (fun _ h_ => h_.1))
              have n5_ := z8_A (Kd.R_mono (Kd.R_told (Kd.R_told (Kd.R_old z8_27 hb) (Kd.R_base ho0)) (Kd.R_base ho1)) (fun _ h_ => h_.1))
              have n6_ := z8_A (Kd.R_mono (Kd.R_told (Kd.R_told (Kd.R_old z8_56 hb) (Kd.R_base ho0)) (Kd.R_base ho1)) (fun _ h_ => h_.1))
              have n7_ := z8_A (Kd.R_lower (Kd.R_new' (Kd.R_new' (Kd.R_new' (Kd.R_new' (Kd.R_new' (Kd.R_new' (Kd.R_new' ho0 (Kd.R_lt z8_11)) (Kd.R_lt z8_10)) (Kd.Q_lt z8_9)) (Kd.Q_lt z8_8)) (Kd.Q_lt z8_7)) (Kd.R_lt z8_27)) (Kd.R_lt z8_56)) (below_size z8_1))
              have n8_ := z8_A (Kd.R_lower (Kd.R_new' (Kd.R_new' (Kd.R_new' (Kd.R_new' (Kd.R_new' (Kd.R_new' (Kd.R_new' ho1 (Kd.R_lt z8_11)) (Kd.R_lt z8_10)) (Kd.Q_lt z8_9)) (Kd.Q_lt z8_8)) (Kd.Q_lt z8_7)) (Kd.R_lt z8_27)) (Kd.R_lt z8_56)) (below_size z8_1))
              have n9_ := z8_A (blk_below (g := gb299) (o := .cells #[.int .i64 a0_0, .slice A0_1 l0_1.length c0_1] 24 (0, 0)) z8_3 hb)
              have n10_ := z8_A (blk_below (g := gb300) (o := .cells #[.int .i64 a1_0, .int .i64 a1_1, .int .i64 a1_2] 26 (0, 0)) z8_4 hb)
              have n11_ := z8_A (blk_below (g := gb323) (o := .cells #[.int .i64 t319, .slice Ao41 t349.length co41] 30 (0, 0)) z8_5 hb)
              have n12_ := z8_A (below_step z8_1 hb)
              clear HO_8
              clear HO_9
              clear HO_13
              clear HO_14
              clear HO_324001
              clear HO363
              clear HO369
              clear BK299
              clear BK300
              clear BK323
              clear HB
              have HO_8 := n0_
              have HO_9 := n1_
              have HO_13 := n2_
              have HO_14 := n3_
              have HO_324001 := n4_
              have HO363 := n5_
              have HO369 := n6_
              have HO372 := n7_
              have HO375 := n8_
              have BK299 := n9_
              have BK300 := n10_
              have BK323 := n11_
              have HB := n12_
              clear n0_ n1_ n2_ n3_ n4_ n5_ n6_ n7_ n8_ n9_ n10_ n11_ n12_
              (try clear hb)
              (try clear hb2)
              (try clear hk)
              (try clear hi)
              (try clear ho0)
              (try clear ho1)
              refine hK.out _ _ ⟨(blk_cell BK299.out 0).trans rfl, (blk_cell BK299.out 1).trans rfl, (blk_cell BK300.out 0).trans rfl, (blk_cell BK300.out 1).trans rfl, (blk_cell BK300.out 2).trans rfl⟩ (fun hHeld => ?_)
              clear hK K
              refine norm_ (a' := ?_) ?_ ?_
              rotate_left
              ·show Act.put _ (some 130) _ = _
               simp only [Act.put, List.setIfInBounds_toArray, List.set_cons_zero, List.set_cons_succ, i64_w, i32_w]
               rfl
              refine pure_ (i := 7) (N := some 123) (v := ?_) (a' := ?_) #[true, true, true, true, true, true, true, true, false, false, false, false, false, false] rfl rfl (any_of HT_.out z8_12) (fun _ _ _ h => h) (Or.inl ⟨z8_55, ?_⟩) ?_ ?_
              rotate_left
              ·intro w'
               go_simp
               with_reducible rfl
              rotate_left
              ·simp only [Act.put, List.setIfInBounds_toArray, List.set_cons_zero, List.set_cons_succ, i64_w, i32_w]
               rfl
              refine pure_ (i := 8) (N := some 131) (v := ?_) (a' := ?_) #[true, true, true, true, true, true, true, true, true, false, false, false, false, false] rfl rfl (any_of HT_.out z8_12) (fun _ _ _ h => h) (Or.inl ⟨z8_55, ?_⟩) ?_ ?_
              rotate_left
              ·intro w'
               go_simp
               with_reducible rfl
              rotate_left
              ·simp only [Act.put, List.setIfInBounds_toArray, List.set_cons_zero, List.set_cons_succ, i64_w, i32_w]
               rfl
              refine pure_ (i := 9) (N := some 132) (v := ?_) (a' := ?_) #[true, true, true, true, true, true, true, true, true, true, false, false, false, false] rfl rfl (any_of HT_.out z8_12) (fun _ _ _ h => h) (Or.inl ⟨z8_55, ?_⟩) ?_ ?_
              rotate_left
              ·intro w'
               go_simp
               with_reducible rfl
              rotate_left
              ·simp only [Act.put, List.setIfInBounds_toArray, List.set_cons_zero, List.set_cons_succ, i64_w, i32_w]
               rfl
              refine pure_ (i := 10) (N := some 133) (v := ?_) (a' := ?_) #[true, true, true, true, true, true, true, true, true, true, true, false, false, false] rfl rfl (any_of HT_.out z8_12) (fun _ _ _ h => h) (Or.inl ⟨z8_55, ?_⟩) ?_ ?_
              rotate_left
              ·intro w'
               go_simp
               with_reducible rfl
              rotate_left
              ·simp only [Act.put, List.setIfInBounds_toArray, List.set_cons_zero, List.set_cons_succ, i64_w, i32_w]
               rfl
              refine pure_ (i := 11) (N := some 19) (v := ?_) (a' := ?_) #[true, true, true, true, true, true, true, true, true, true, true, true, false, false] rfl rfl (any_of HT_.out z8_12) (fun _ _ _ h => h) (Or.inl ⟨z8_55, ?_⟩) ?_ ?_
              rotate_left
              ·intro w'
               go_simp
               with_reducible rfl
              rotate_left
              ·simp only [Act.put, List.setIfInBounds_toArray, List.set_cons_zero, List.set_cons_succ, i64_w, i32_w]
               rfl
              refine pure_ (i := 12) (N := some 20) (v := ?_) (a' := ?_) #[true, true, true, true, true, true, true, true, true, true, true, true, true, false] rfl rfl (any_of HT_.out z8_12) (fun _ _ _ h => h) (Or.inl ⟨z8_55, ?_⟩) ?_ ?_
              rotate_left
              ·intro w'
               go_simp
               with_reducible rfl
              rotate_left
              ·simp only [Act.put, List.setIfInBounds_toArray, List.set_cons_zero, List.set_cons_succ, i64_w, i32_w]
               rfl
              refine pure_ (i := 13) (N := some 21) (v := ?_) (a' := ?_) #[true, true, true, true, true, true, true, true, true, true, true, true, true, true] rfl rfl (any_of HT_.out z8_12) (fun _ _ _ h => h) (Or.inl ⟨z8_55, ?_⟩) ?_ ?_
              rotate_left
              ·intro w'
               go_simp
               with_reducible rfl
              rotate_left
              ·simp only [Act.put, List.setIfInBounds_toArray, List.set_cons_zero, List.set_cons_succ, i64_w, i32_w]
               rfl
              refine done_ (done_of HT_.out z8_12) ?_
              go_upto_region 35 with (fail)
              go_cut [148] (fun v148 wc => ∃ (kq : Nat) (x148_116 : Bool), v148 = .bool x148_116 ∧ Aside0 (laws_FnExactRunRule.j2 kq t355 t357 t356 x148_116 = some r) ∧ Aside0 (kq ≤ kj69) ∧ Aside0 (Kd.Q (Kd.int .i64) 3 wc w.heap.size (fun k_ => some k_ ≠ ((.slice Ao120 t333.length co120) : Value).ownBlock ∧ some k_ ≠ ((.slice Ao41 t349.length co41) : Value).ownBlock) (.slice Ao118 t330.length co118) t355) ∧ Aside0 (Kd.Q (Kd.int .i64) 3 wc w.heap.size (fun k_ => some k_ ≠ ((.slice Ao118 t330.length co118) : Value).ownBlock ∧ some k_ ≠ ((.slice Ao41 t349.length co41) : Value).ownBlock) (.slice Ao120 t333.length co120) t357) ∧ Aside0 (Kd.Q (Kd.int .i64) 3 wc w.heap.size (fun k_ => some k_ ≠ ((.slice Ao118 t330.length co118) : Value).ownBlock ∧ some k_ ≠ ((.slice Ao120 t333.length co120) : Value).ownBlock) (.slice Ao41 t349.length co41) t349) ∧ Aside0 (wc.heap[gb299]? = some (.cells #[.int .i64 a0_0, (.slice A0_1 l0_1.length c0_1)] 24 (0, 0))) ∧ Aside0 (wc.heap[gb300]? = some (.cells #[.int .i64 a1_0, .int .i64 a1_1, .int .i64 a1_2] 26 (0, 0))) ∧ Aside0 (wc.heap[gb323]? = some (.cells #[.int .i64 t319, (.slice Ao41 t349.length co41)] 30 (0, 0))) ∧ Aside0 (Below w.heap.size w wc))
              case first =>
               have H := HC117.out
               clear HC117
               replace H := Option.bind_eq_some_iff.mp H
               obtain ⟨t377, A1290, H⟩ := H
               (try dsimp only at H)
               have A129 := z8_A A1290
               clear A1290
               by_cases c130 : t377 = true
               ·subst c130
                have H1 : ((laws_eqIntS.f kj69 t373 t315).bind fun t378 => (if t378 = true then (laws_FnExactRunRule.j2 kj69 t355 t357 t356 (t376 != t318)) else (laws_FnExactRunRule.j2 kj69 t355 t357 t356 true))) = some r := z8_51
                clear H
                have H := H1
                clear H1
                replace H := Option.bind_eq_some_iff.mp H
                obtain ⟨t378, A1310, H⟩ := H
                (try dsimp only at H)
                have A131 := z8_A A1310
                clear A1310
                by_cases c132 : t378 = true
                ·subst c132
                 have H1 : (laws_FnExactRunRule.j2 kj69 t355 t357 t356 (t376 != t318)) = some r := z8_51
                 clear H
                 have H := H1
                 clear H1
                 have H' := z8_A H
                 clear H
                 obtain ⟨Ao133, co133, eo133⟩ := Kd.R_slice HO372.out
                 subst eo133
                 obtain ⟨Ao134, co134, eo134⟩ := Kd.R_slice HO_8.out
                 subst eo134
                 go_wp2_with (first | ((with_reducible refine gate_callee (f := 16) rfl ?_); refine goesL_ (some 136) rfl rfl Try.func16 z8_12 rfl #[.slice Ao133 t370.length co133, .slice Ao134 t312.length co134] rfl z8_2 ?_; (with_reducible refine (laws_eqIntS.calls kj69 _ _ t370 _ _ t312 true _ ?side1 ?side2 ?side3 ?side4 A129.out).mono ?_); (case side1 => have zh := (Kd.R_reads' HO372.out).2.2; exact z8_C); (case side2 => exact (Kd.R_reads' HO372.out).2.1); (case side3 => have zh := (Kd.R_reads' HO_8.out).2.2; exact z8_C); (case side4 => exact (Kd.R_reads' HO_8.out).2.1); rintro e w' ⟨rfl, ⟨nd, rfl⟩⟩; refine ⟨_, rfl, ?_⟩; obtain ⟨Ao135, co135, eo135⟩ := Kd.R_slice HO375.out; subst eo135; obtain ⟨Ao136, co136, eo136⟩ := Kd.R_slice HO_9.out; subst eo136) | (go_at_call 16; (with_reducible refine (laws_eqIntS.calls kj69 _ _ t373 _ _ t315 true _ ?side1 ?side2 ?side3 ?side4 A131.out).mono ?_); (case side1 => have zh := (Kd.R_reads' HO375.out).2.2; exact z8_C); (case side2 => exact (Kd.R_reads' HO375.out).2.1); (case side3 => have zh := (Kd.R_reads' HO_9.out).2.2; exact z8_C); (case side4 => exact (Kd.R_reads' HO_9.out).2.1); rintro e w' ⟨rfl, ⟨nd, rfl⟩⟩))
                 go_meet
                 case rel => exact ⟨_, ((t376 != t318)), z8_32, H', ⟨z8_60⟩, ⟨z8_35⟩, ⟨z8_34⟩, ⟨z8_33⟩, ⟨z8_54⟩, ⟨z8_53⟩, ⟨z8_52⟩, ⟨z8_1⟩⟩
                ·replace c132 := Bool.eq_false_iff.mpr c132
                 subst c132
                 have H1 : (laws_FnExactRunRule.j2 kj69 t355 t357 t356 true) = some r := z8_23
                 clear H
                 have H := H1
                 clear H1
                 have H' := z8_A H
                 clear H
                 obtain ⟨Ao137, co137, eo137⟩ := Kd.R_slice HO372.out
                 subst eo137
                 obtain ⟨Ao138, co138, eo138⟩ := Kd.R_slice HO_8.out
                 subst eo138
                 go_wp2_with (first | ((with_reducible refine gate_callee (f := 16) rfl ?_); refine goesL_ (some 136) rfl rfl Try.func16 z8_12 rfl #[.slice Ao137 t370.length co137, .slice Ao138 t312.length co138] rfl z8_2 ?_; (with_reducible refine (laws_eqIntS.calls kj69 _ _ t370 _ _ t312 true _ ?side1 ?side2 ?side3 ?side4 A129.out).mono ?_); (case side1 => have zh := (Kd.R_reads' HO372.out).2.2; exact z8_C); (case side2 => exact (Kd.R_reads' HO372.out).2.1); (case side3 => have zh := (Kd.R_reads' HO_8.out).2.2; exact z8_C); (case side4 => exact (Kd.R_reads' HO_8.out).2.1); rintro e w' ⟨rfl, ⟨nd, rfl⟩⟩; refine ⟨_, rfl, ?_⟩; obtain ⟨Ao139, co139, eo139⟩ := Kd.R_slice HO375.out; subst eo139; obtain ⟨Ao140, co140, eo140⟩ := Kd.R_slice HO_9.out; subst eo140) | (go_at_call 16; (with_reducible refine (laws_eqIntS.calls kj69 _ _ t373 _ _ t315 false _ ?side1 ?side2 ?side3 ?side4 A131.out).mono ?_); (case side1 => have zh := (Kd.R_reads' HO375.out).2.2; exact z8_C); (case side2 => exact (Kd.R_reads' HO375.out).2.1); (case side3 => have zh := (Kd.R_reads' HO_9.out).2.2; exact z8_C); (case side4 => exact (Kd.R_reads' HO_9.out).2.1); rintro e w' ⟨rfl, ⟨nd, rfl⟩⟩))
                 go_meet
                 case rel => exact ⟨_, (true), z8_32, H', ⟨z8_60⟩, ⟨z8_35⟩, ⟨z8_34⟩, ⟨z8_33⟩, ⟨z8_54⟩, ⟨z8_53⟩, ⟨z8_52⟩, ⟨z8_1⟩⟩
               ·replace c130 := Bool.eq_false_iff.mpr c130
                subst c130
                have H1 : (laws_FnExactRunRule.j2 kj69 t355 t357 t356 true) = some r := z8_23
                clear H
                have H := H1
                clear H1
                have H' := z8_A H
                clear H
                obtain ⟨Ao141, co141, eo141⟩ := Kd.R_slice HO372.out
                subst eo141
                obtain ⟨Ao142, co142, eo142⟩ := Kd.R_slice HO_8.out
                subst eo142
                go_wp2_with (first | ((with_reducible refine gate_callee (f := 16) rfl ?_); refine goesL_ (some 136) rfl rfl Try.func16 z8_12 rfl #[.slice Ao141 t370.length co141, .slice Ao142 t312.length co142] rfl z8_2 ?_; (with_reducible refine (laws_eqIntS.calls kj69 _ _ t370 _ _ t312 false _ ?side1 ?side2 ?side3 ?side4 A129.out).mono ?_); (case side1 => have zh := (Kd.R_reads' HO372.out).2.2; exact z8_C); (case side2 => exact (Kd.R_reads' HO372.out).2.1); (case side3 => have zh := (Kd.R_reads' HO_8.out).2.2; exact z8_C); (case side4 => exact (Kd.R_reads' HO_8.out).2.1); rintro e w' ⟨rfl, ⟨nd, rfl⟩⟩; refine ⟨_, rfl, ?_⟩))
                go_meet
                case rel => exact ⟨_, (true), z8_32, H', ⟨z8_60⟩, ⟨z8_35⟩, ⟨z8_34⟩, ⟨z8_33⟩, ⟨z8_54⟩, ⟨z8_53⟩, ⟨z8_52⟩, ⟨z8_1⟩⟩
              case rest =>
               clear HC117
               (try clear c1); (try clear c2); (try clear p2); (try clear c3); (try clear c4); (try clear c4b0); (try clear c4b1); (try clear c5); (try clear c6); (try clear c7); (try clear c8); (try clear c8b0); (try clear c9); (try clear c10); (try clear c11); (try clear c12); (try clear c13); (try clear c15); (try clear c16); (try clear c17); (try clear c18); (try clear c19); (try clear c20); (try clear c21); (try clear c25); (try clear c38); (try clear c39); (try clear c48); (try clear c50); (try clear c61); (try clear c64); (try clear c67); (try clear c77); (try clear c78); (try clear c82); (try clear c82b0); (try clear c84); (try clear c86); (try clear c97); (try clear c101); (try clear c101b0); (try clear c107); (try clear c107b0); (try clear c112); (try clear c112b0); (try clear c112b1); (try clear c130); (try clear c132); (try clear hcz12_0); (try clear hcz12_1); (try clear hcz26_0); (try clear hcz26_1); (try clear hcz35_0); (try clear hcz35_1); (try clear hcz40_0); (try clear hcz40_1); (try clear hcz79_0); (try clear hcz79_1); (try clear hfz12_0); (try clear hfz12_1); (try clear hfz26_0); (try clear hfz26_1); (try clear hfz35_0); (try clear hfz35_1); (try clear hfz40_0); (try clear hfz40_1); (try clear hfz79_0); (try clear hfz79_1); (try clear p2)
               obtain ⟨kq, x148_116, rfl, HA, HJ116, HO_13, HO_14, HO_324001, BK299, BK300, BK323, HB⟩ := hcut
               have hl13_116 := (Kd.Q_reads' HO_13.out).1
               rw [hl13_116] at HO_13
               (try simp only [hl13_116])
               (try simp only [hl13_116] at BK299)
               (try simp only [hl13_116] at BK300)
               (try simp only [hl13_116] at BK323)
               (try simp only [hl13_116] at HO_14)
               (try simp only [hl13_116] at HO_324001)
               have hl14_116 := (Kd.Q_reads' HO_14.out).1
               rw [hl14_116] at HO_14
               (try simp only [hl14_116])
               (try simp only [hl14_116] at BK299)
               (try simp only [hl14_116] at BK300)
               (try simp only [hl14_116] at BK323)
               (try simp only [hl14_116] at HO_13)
               (try simp only [hl14_116] at HO_324001)
               cases kq with
               | zero => exact absurd HA.out (by simp [laws_FnExactRunRule.j2])
               | succ kj116 =>
                have H := HA.out
                clear HA
                simp only [laws_FnExactRunRule.j2] at H
                by_cases c143 : x148_116 = true
                ·subst c143
                 have H1 : (some false) = some r := z8_51
                 clear H
                 have H := H1
                 clear H1
                 obtain rfl := Option.some.inj H
                 go_wp2
                 go_ret
                 exact ⟨z8_16, z8_1⟩
                ·replace c143 := Bool.eq_false_iff.mpr c143
                 subst c143
                 have H1 : ((laws_heldIntS.f kj116 t355 1).bind fun t379 => (if t379 < 0 then (some false) else ((laws_heldIntS.f kj116 t357 t379).bind fun t380 => (if t380 < 0 then (some false) else (if t380 = t356 then (some true) else (some false)))))) = some r := z8_23
                 clear H
                 have H := H1
                 clear H1
                 replace H := Option.bind_eq_some_iff.mp H
                 obtain ⟨t379, A1440, H⟩ := H
                 (try dsimp only at H)
                 have A144 := z8_A A1440
                 clear A1440
                 by_cases c145 : t379 < 0
                 ·rw [if_pos c145] at H
                  have c145b0 : decide (t379 < 0) = true := decide_eq_true c145
                  clear c145
                  obtain rfl := Option.some.inj H
                  go_wp2_with (first | ((with_reducible refine gate_callee (f := 21) rfl ?_); refine goesL_ (some 151) rfl rfl Try.func21 z8_12 rfl #[.slice Ao118 t355.length co118, .int .i64 1] rfl z8_2 ?_; (with_reducible refine (laws_heldIntS.calls kj116 _ _ t355 1 t379 _ ?side1 ?side2 A144.out).mono ?_); (case side1 => have zh := (Kd.Q_reads' HO_13.out).2.2; exact z8_C); (case side2 => exact (Kd.Q_reads' HO_13.out).2.1); rintro e w' ⟨rfl, ⟨nd, rfl⟩⟩; refine ⟨_, rfl, ?_⟩))
                  go_ret
                  exact ⟨z8_16, z8_1⟩
                 ·rw [if_neg c145] at H
                  have c145b0 : decide (t379 < 0) = false := decide_eq_false c145
                  clear c145
                  replace H := Option.bind_eq_some_iff.mp H
                  obtain ⟨t380, A1460, H⟩ := H
                  (try dsimp only at H)
                  have A146 := z8_A A1460
                  clear A1460
                  by_cases c147 : t380 < 0
                  ·rw [if_pos c147] at H
                   have c147b0 : decide (t380 < 0) = true := decide_eq_true c147
                   clear c147
                   obtain rfl := Option.some.inj H
                   go_wp2_with (first | ((with_reducible refine gate_callee (f := 21) rfl ?_); refine goesL_ (some 151) rfl rfl Try.func21 z8_12 rfl #[.slice Ao118 t355.length co118, .int .i64 1] rfl z8_2 ?_; (with_reducible refine (laws_heldIntS.calls kj116 _ _ t355 1 t379 _ ?side1 ?side2 A144.out).mono ?_); (case side1 => have zh := (Kd.Q_reads' HO_13.out).2.2; exact z8_C); (case side2 => exact (Kd.Q_reads' HO_13.out).2.1); rintro e w' ⟨rfl, ⟨nd, rfl⟩⟩; refine ⟨_, rfl, ?_⟩) | ((with_reducible refine gate_callee (f := 21) rfl ?_); refine goesL_ (some 156) rfl rfl Try.func21 z8_12 rfl #[.slice Ao120 t357.length co120, .int .i64 t379] rfl z8_2 ?_; (with_reducible refine (laws_heldIntS.calls kj116 _ _ t357 t379 t380 _ ?side1 ?side2 A146.out).mono ?_); (case side1 => have zh := (Kd.Q_reads' HO_14.out).2.2; exact z8_C); (case side2 => exact (Kd.Q_reads' HO_14.out).2.1); rintro e w' ⟨rfl, ⟨nd, rfl⟩⟩; refine ⟨_, rfl, ?_⟩))
                   go_ret
                   exact ⟨z8_16, z8_1⟩
                  ·rw [if_neg c147] at H
                   have c147b0 : decide (t380 < 0) = false := decide_eq_false c147
                   clear c147
                   by_cases c148 : t380 = t356
                   ·rw [if_pos c148] at H
                    have c148b0 : (t380 == t356) = true := beq_iff_eq.mpr c148
                    have c148b1 : (t380 != t356) = false := bne_eq_false_iff_eq.mpr c148
                    clear c148
                    obtain rfl := Option.some.inj H
                    go_wp2_with (first | ((with_reducible refine gate_callee (f := 21) rfl ?_); refine goesL_ (some 151) rfl rfl Try.func21 z8_12 rfl #[.slice Ao118 t355.length co118, .int .i64 1] rfl z8_2 ?_; (with_reducible refine (laws_heldIntS.calls kj116 _ _ t355 1 t379 _ ?side1 ?side2 A144.out).mono ?_); (case side1 => have zh := (Kd.Q_reads' HO_13.out).2.2; exact z8_C); (case side2 => exact (Kd.Q_reads' HO_13.out).2.1); rintro e w' ⟨rfl, ⟨nd, rfl⟩⟩; refine ⟨_, rfl, ?_⟩) | ((with_reducible refine gate_callee (f := 21) rfl ?_); refine goesL_ (some 156) rfl rfl Try.func21 z8_12 rfl #[.slice Ao120 t357.length co120, .int .i64 t379] rfl z8_2 ?_; (with_reducible refine (laws_heldIntS.calls kj116 _ _ t357 t379 t380 _ ?side1 ?side2 A146.out).mono ?_); (case side1 => have zh := (Kd.Q_reads' HO_14.out).2.2; exact z8_C); (case side2 => exact (Kd.Q_reads' HO_14.out).2.1); rintro e w' ⟨rfl, ⟨nd, rfl⟩⟩; refine ⟨_, rfl, ?_⟩))
                    go_ret
                    exact ⟨z8_16, z8_1⟩
                   ·rw [if_neg c148] at H
                    have c148b0 : (t380 == t356) = false := beq_eq_false_iff_ne.mpr c148
                    have c148b1 : (t380 != t356) = true := bne_iff_ne.mpr c148
                    obtain rfl := Option.some.inj H
                    go_wp2_with (first | ((with_reducible refine gate_callee (f := 21) rfl ?_); refine goesL_ (some 151) rfl rfl Try.func21 z8_12 rfl #[.slice Ao118 t355.length co118, .int .i64 1] rfl z8_2 ?_; (with_reducible refine (laws_heldIntS.calls kj116 _ _ t355 1 t379 _ ?side1 ?side2 A144.out).mono ?_); (case side1 => have zh := (Kd.Q_reads' HO_13.out).2.2; exact z8_C); (case side2 => exact (Kd.Q_reads' HO_13.out).2.1); rintro e w' ⟨rfl, ⟨nd, rfl⟩⟩; refine ⟨_, rfl, ?_⟩) | ((with_reducible refine gate_callee (f := 21) rfl ?_); refine goesL_ (some 156) rfl rfl Try.func21 z8_12 rfl #[.slice Ao120 t357.length co120, .int .i64 t379] rfl z8_2 ?_; (with_reducible refine (laws_heldIntS.calls kj116 _ _ t357 t379 t380 _ ?side1 ?side2 A146.out).mono ?_); (case side1 => have zh := (Kd.Q_reads' HO_14.out).2.2; exact z8_C); (case side2 => exact (Kd.Q_reads' HO_14.out).2.1); rintro e w' ⟨rfl, ⟨nd, rfl⟩⟩; refine ⟨_, rfl, ?_⟩))
                    go_ret
                    exact ⟨z8_16, z8_1⟩
             ·rw [if_neg c112] at H
              have c112b0 : (t359 == t356) = false := beq_eq_false_iff_ne.mpr c112
              have c112b1 : (t359 != t356) = true := bne_iff_ne.mpr c112
              obtain rfl := Option.some.inj H
              obtain ⟨Ao149, co149, eo149, _⟩ := Kd.Q_slice HO_13.out
              subst eo149
              go_wp2_with (first | ((with_reducible refine gate_callee (f := 20) rfl ?_); refine goesL_ (some 106) rfl rfl Try.func20 z8_12 rfl #[.slice Ao149 t330.length co149, .int .i64 1] rfl z8_2 ?_; (with_reducible refine (laws_markIntS.calls kj69 (fun k_ => some k_ = (.slice Ao149 t330.length co149 : Value).ownBlock) (.slice Ao149 t330.length co149) t330 1 t354 t355 w _ ?side1 ?side2 A98.out).mono ?_); (case side1 => repeat (first | (with_reducible first | exact HB.out | apply below_alloc | apply pw_below_drewN | apply below_drew1 | refine below_set ?_ GE299.out | refine below_set ?_ GE300.out | refine below_set ?_ GE323.out) | exact HB.out)); (case side2 => exact Kd.Q_tight rfl HO_13.out); rintro e w150 ⟨rfl, hy0, hb, hkp⟩; refine ⟨_, rfl, ?_⟩; have n0_ := z8_A (Kd.R_mono (ok' := fun k_ => z8_V k_ v316 ∧ z8_S k_ Ao149 t330.length co149 ∧ z8_V k_ v334 ∧ z8_S k_ Ao41 t349.length co41) (Kd.R_keptB (HO_8.out) hkp (fun k_ hk_ hs_ => (hk_.2.1) hs_)) (fun k_ hk_ => ⟨hk_.1.1, hk_.1.2.1, hk_.1.2.2.1, hk_.1.2.2.2⟩)); have n1_ := z8_A (Kd.R_mono (ok' := fun k_ => z8_V k_ v313 ∧ z8_S k_ Ao149 t330.length co149 ∧ z8_V k_ v334 ∧ z8_S k_ Ao41 t349.length co41) (Kd.R_keptB (HO_9.out) hkp (fun k_ hk_ hs_ => (hk_.2.1) hs_)) (fun k_ hk_ => ⟨hk_.1.1, hk_.1.2.1, hk_.1.2.2.1, hk_.1.2.2.2⟩)); have n2_ := z8_A (Kd.Q_mono (Kd.Q_tight rfl hy0) (fun k_ hk_ => HO_13.out.1 k_ hk_.symm)); have n3_ := z8_A (Kd.Q_mono (ok' := fun k_ => z8_V k_ v313 ∧ z8_V k_ v316 ∧ z8_S k_ Ao149 t330.length co149 ∧ z8_S k_ Ao41 t349.length co41) (Kd.Q_keptB (HO_14.out) hkp (fun k_ hk_ hs_ => (hk_.2.2.1) hs_)) (fun k_ hk_ => ⟨hk_.1.1, hk_.1.2.1, hk_.1.2.2.1, hk_.1.2.2.2⟩)); have n4_ := z8_A (Kd.Q_mono (ok' := fun k_ => z8_V k_ v313 ∧ z8_V k_ v316 ∧ z8_S k_ Ao149 t330.length co149 ∧ z8_V k_ v334) (Kd.Q_keptB (HO_324001.out) hkp (fun k_ hk_ hs_ => (hk_.2.2.1) hs_)) (fun k_ hk_ => ⟨hk_.1.1, hk_.1.2.1, hk_.1.2.2.1, hk_.1.2.2.2⟩)); have n5_ := z8_A (blk_kept (g := gb299) (o := .cells #[.int .i64 a0_0, .slice A0_1 l0_1.length c0_1] 24 (0, 0)) z8_3 hkp (fun hs_ => (fun e_ => (Kd.Q_ne HO_13.out BK299.out z8_36) e_) hs_)); have n6_ := z8_A (blk_kept (g := gb300) (o := .cells #[.int .i64 a1_0, .int .i64 a1_1, .int .i64 a1_2] 26 (0, 0)) z8_4 hkp (fun hs_ => (fun e_ => (Kd.Q_ne HO_13.out BK300.out z8_36) e_) hs_)); have n7_ := z8_A (blk_kept (g := gb323) (o := .cells #[.int .i64 t319, .slice Ao41 t349.length co41] 30 (0, 0)) z8_5 hkp (fun hs_ => (fun e_ => (Kd.Q_ne HO_13.out BK323.out z8_36) e_) hs_)); have n8_ := z8_A (hb); clear HO_8 HO_9 HO_13 HO_14 HO_324001 BK299 BK300 BK323 HB; revert n0_ n1_ n2_ n3_ n4_ n5_ n6_ n7_ n8_; intro HO_8 HO_9 HO_13 HO_14 HO_324001 BK299 BK300 BK323 HB; (try clear hb); (try clear hkp); (try clear hy0); obtain ⟨Ao151, co151, eo151, _⟩ := Kd.Q_slice HO_14.out; subst eo151) | ((with_reducible refine gate_callee (f := 20) rfl ?_); refine goesL_ (some 109) rfl rfl Try.func20 z8_12 rfl #[.slice Ao151 t333.length co151, .int .i64 t354] rfl z8_2 ?_; (with_reducible refine (laws_markIntS.calls kj69 (fun k_ => some k_ = (.slice Ao151 t333.length co151 : Value).ownBlock) (.slice Ao151 t333.length co151) t333 t354 t356 t357 w _ ?side1 ?side2 A99.out).mono ?_); (case side1 => repeat (first | (with_reducible first | exact HB.out | apply below_alloc | apply pw_below_drewN | apply below_drew1 | refine below_set ?_ GE299.out | refine below_set ?_ GE300.out | refine below_set ?_ GE323.out) | exact HB.out)); (case side2 => exact Kd.Q_tight rfl HO_14.out); rintro e w152 ⟨rfl, hy0, hb, hkp⟩; refine ⟨_, rfl, ?_⟩; have n0_ := z8_A (Kd.R_mono (ok' := fun k_ => z8_V k_ v316 ∧ z8_S k_ Ao149 t330.length co149 ∧ z8_S k_ Ao151 t333.length co151 ∧ z8_S k_ Ao41 t349.length co41) (Kd.R_keptB (HO_8.out) hkp (fun k_ hk_ hs_ => (hk_.2.2.1) hs_)) (fun k_ hk_ => ⟨hk_.1.1, hk_.1.2.1, hk_.1.2.2.1, hk_.1.2.2.2⟩)); have n1_ := z8_A (Kd.R_mono (ok' := fun k_ => z8_V k_ v313 ∧ z8_S k_ Ao149 t330.length co149 ∧ z8_S k_ Ao151 t333.length co151 ∧ z8_S k_ Ao41 t349.length co41) (Kd.R_keptB (HO_9.out) hkp (fun k_ hk_ hs_ => (hk_.2.2.1) hs_)) (fun k_ hk_ => ⟨hk_.1.1, hk_.1.2.1, hk_.1.2.2.1, hk_.1.2.2.2⟩)); have n2_ := z8_A (Kd.Q_mono (ok' := fun k_ => z8_V k_ v313 ∧ z8_V k_ v316 ∧ z8_S k_ Ao151 t333.length co151 ∧ z8_S k_ Ao41 t349.length co41) (Kd.Q_keptB (HO_13.out) hkp (fun k_ hk_ hs_ => (hk_.2.2.1) hs_)) (fun k_ hk_ => ⟨hk_.1.1, hk_.1.2.1, hk_.1.2.2.1, hk_.1.2.2.2⟩)); have n3_ := z8_A (Kd.Q_mono (Kd.Q_tight rfl hy0) (fun k_ hk_ => HO_14.out.1 k_ hk_.symm)); have n4_ := z8_A (Kd.Q_mono (ok' := fun k_ => z8_V k_ v313 ∧ z8_V k_ v316 ∧ z8_S k_ Ao149 t330.length co149 ∧ z8_S k_ Ao151 t333.length co151) (Kd.Q_keptB (HO_324001.out) hkp (fun k_ hk_ hs_ => (hk_.2.2.2) hs_)) (fun k_ hk_ => ⟨hk_.1.1, hk_.1.2.1, hk_.1.2.2.1, hk_.1.2.2.2⟩)); have n5_ := z8_A (blk_kept (g := gb299) (o := .cells #[.int .i64 a0_0, .slice A0_1 l0_1.length c0_1] 24 (0, 0)) z8_3 hkp (fun hs_ => (fun e_ => (Kd.Q_ne HO_14.out BK299.out z8_36) e_) hs_)); have n6_ := z8_A (blk_kept (g := gb300) (o := .cells #[.int .i64 a1_0, .int .i64 a1_1, .int .i64 a1_2] 26 (0, 0)) z8_4 hkp (fun hs_ => (fun e_ => (Kd.Q_ne HO_14.out BK300.out z8_36) e_) hs_)); have n7_ := z8_A (blk_kept (g := gb323) (o := .cells #[.int .i64 t319, .slice Ao41 t349.length co41] 30 (0, 0)) z8_5 hkp (fun hs_ => (fun e_ => (Kd.Q_ne HO_14.out BK323.out z8_36) e_) hs_)); have n8_ := z8_A (hb); clear HO_8 HO_9 HO_13 HO_14 HO_324001 BK299 BK300 BK323 HB; revert n0_ n1_ n2_ n3_ n4_ n5_ n6_ n7_ n8_; intro HO_8 HO_9 HO_13 HO_14 HO_324001 BK299 BK300 BK323 HB; (try clear hb); (try clear hkp); (try clear hy0)) | ((with_reducible refine gate_callee (f := 21) rfl ?_); refine goesL_ (some 112) rfl rfl Try.func21 z8_12 rfl #[.slice Ao149 t355.length co149, .int .i64 1] rfl z8_19 ?_; (with_reducible refine (laws_heldIntS.calls kj69 _ _ t355 1 t358 _ ?side1 ?side2 A100.out).mono ?_); (case side1 => have zh := (Kd.Q_reads' HO_13.out).2.2; exact z8_C); (case side2 => rw [show t355.length = t330.length from (Kd.Q_reads' HO_13.out).1.symm]; exact (Kd.Q_reads' HO_13.out).2.1); rintro e w' ⟨rfl, ⟨nd, rfl⟩⟩; refine ⟨_, rfl, ?_⟩) | ((with_reducible refine gate_callee (f := 21) rfl ?_); refine goesL_ (some 117) rfl rfl Try.func21 z8_12 rfl #[.slice Ao151 t357.length co151, .int .i64 t358] rfl z8_30 ?_; (with_reducible refine (laws_heldIntS.calls kj69 _ _ t357 t358 t359 _ ?side1 ?side2 A106.out).mono ?_); (case side1 => have zh := (Kd.Q_reads' HO_14.out).2.2; exact z8_C); (case side2 => rw [show t357.length = t333.length from (Kd.Q_reads' HO_14.out).1.symm]; exact (Kd.Q_reads' HO_14.out).2.1); rintro e w' ⟨rfl, ⟨nd, rfl⟩⟩; refine ⟨_, rfl, ?_⟩))
              go_ret
              exact ⟨z8_16, z8_1⟩
       ·replace c67 := Bool.eq_false_iff.mpr c67
        subst c67
        have H1 : (some false) = some r := z8_23
        clear H
        have H := H1
        clear H1
        obtain rfl := Option.some.inj H
        try go_wp2
        have n0_ := z8_A (Kd.R_drew HO_8.out)
        have n1_ := z8_A (Kd.R_drew HO_9.out)
        have n2_ := z8_A (Kd.R_drew HO_12.out)
        have n3_ := z8_A (Kd.Q_drew HO_13.out)
        have n4_ := z8_A (Kd.Q_drew HO_14.out)
        have n5_ := z8_A (Kd.Q_drew HO_324001.out)
        have n6_ := z8_A (blk_drew BK299.out)
        have n7_ := z8_A (blk_drew BK300.out)
        have n8_ := z8_A (blk_drew BK323.out)
        have n9_ := z8_A (below_drew1 HB.out)
        clear HO_8
        clear HO_9
        clear HO_12
        clear HO_13
        clear HO_14
        clear HO_324001
        clear BK299
        clear BK300
        clear BK323
        clear HB
        have HO_8 := n0_
        have HO_9 := n1_
        have HO_12 := n2_
        have HO_13 := n3_
        have HO_14 := n4_
        have HO_324001 := n5_
        have BK299 := n6_
        have BK300 := n7_
        have BK323 := n8_
        have HB := n9_
        clear n0_ n1_ n2_ n3_ n4_ n5_ n6_ n7_ n8_ n9_
        refine start_ (n := 5) (S := fun w' => w'.cell? ⟨gb323, 0, none⟩ = some (.int .i64 t319) ∧ w'.cell? ⟨gb323, 1, none⟩ = some (.slice Ao41 t320.length co41) ∧ w'.cell? ⟨gb299, 0, none⟩ = some (.int .i64 a0_0) ∧ w'.cell? ⟨gb299, 1, none⟩ = some (.slice A0_1 l0_1.length c0_1)) (ds := []) #[false, false, false, false, false] z8_12 rfl rfl ⟨(blk_cell BK323.out 0).trans rfl, (blk_cell BK323.out 1).trans rfl, (blk_cell BK299.out 0).trans rfl, (blk_cell BK299.out 1).trans rfl⟩ (fun hHeld => ?_)
        generalize wc.drew = w153 at HO_8 HO_9 HO_12 HO_13 HO_14 HO_324001 BK299 BK300 BK323 HB hHeld ⊢
        refine take_ (i := 0) (N := some 69) (v := ?_) (a' := ?_) #[true, false, false, false, false] rfl rfl z8_12 (fun _ _ _ h => h) (Or.inl ⟨z8_55, ?_⟩) hHeld ?_ ?_
        rotate_left
        ·rintro w' ⟨s0, s1, s2, s3⟩
         go_simp
         with_reducible rfl
        rotate_left
        ·simp only [Act.put, List.setIfInBounds_toArray, List.set_cons_zero, List.set_cons_succ, i64_w, i32_w]
         rfl
        refine take_ (i := 1) (N := some 70) (v := ?_) (a' := ?_) #[true, true, false, false, false] rfl rfl z8_12 (fun _ _ _ h => h) (Or.inl ⟨z8_55, ?_⟩) hHeld ?_ ?_
        rotate_left
        ·rintro w' ⟨s0, s1, s2, s3⟩
         go_simp
         with_reducible rfl
        rotate_left
        ·simp only [Act.put, List.setIfInBounds_toArray, List.set_cons_zero, List.set_cons_succ, i64_w, i32_w]
         rfl
        refine one_ (i := 2) (N := some 71) #[true, true, true, false, false] rfl rfl z8_12 z8_36 (fun K hK => ?_)
        refine goes_ Try.func11 z8_12 rfl #[.agg #[.int .i64 a0_0, .slice A0_1 l0_1.length c0_1]] z8_55 rfl rfl z8_2 ?_
        with_reducible refine (laws_toFlow.calls kj21 a0_0 _ _ l0_1 t339 t340 _ ?side1 ?side2 A62.out).mono ?_
        (case side1 => have zh := (Kd.C_below HR0_1.out HB.out); exact z8_C)
        (case side2 => exact HC0_1.out)
        rintro e w154 ⟨v341, rfl, ho0, hb⟩
        refine ⟨_, rfl, ?_⟩
        have n0_ := z8_A (Kd.R_elder' z8_11 (Kd.R_base ho0) hb)
        have n1_ := z8_A (Kd.R_elder' z8_10 (Kd.R_base ho0) hb)
        have n2_ := z8_A (Kd.R_elder' z8_14 (Kd.R_base ho0) hb)
        have n3_ := z8_A (Kd.Q_elder' z8_9 (Kd.R_base ho0) hb)
        have n4_ := z8_A (Kd.Q_elder' z8_8 (Kd.R_base ho0) hb)
        have n5_ := z8_A (Kd.Q_elder' z8_7 (Kd.R_base ho0) hb)
        have n6_ := z8_A (Kd.R_lower (Kd.R_new' (Kd.R_new' (Kd.R_new' (Kd.R_new' (Kd.R_new' (Kd.R_new' ho0 (Kd.R_lt z8_11)) (Kd.R_lt z8_10)) (Kd.R_lt z8_14)) (Kd.Q_lt z8_9)) (Kd.Q_lt z8_8)) (Kd.Q_lt z8_7)) (below_size z8_1))
        have n7_ := z8_A (blk_below (g := gb299) (o := .cells #[.int .i64 a0_0, .slice A0_1 l0_1.length c0_1] 24 (0, 0)) z8_3 hb)
        have n8_ := z8_A (blk_below (g := gb300) (o := .cells #[.int .i64 a1_0, .int .i64 a1_1, .int .i64 a1_2] 26 (0, 0)) z8_4 hb)
        have n9_ := z8_A (blk_below (g := gb323) (o := .cells #[.int .i64 t319, .slice Ao41 t320.length co41] 30 (0, 0)) z8_5 hb)
        have n10_ := z8_A (below_step z8_1 hb)
        clear HO_8
        clear HO_9
        clear HO_12
        clear HO_13
        clear HO_14
        clear HO_324001
        clear BK299
        clear BK300
        clear BK323
        clear HB
        have HO_8 := n0_
        have HO_9 := n1_
        have HO_12 := n2_
        have HO_13 := n3_
        have HO_14 := n4_
        have HO_324001 := n5_
        have HO342 := n6_
        have BK299 := n7_
        have BK300 := n8_
        have BK323 := n9_
        have HB := n10_
        clear n0_ n1_ n2_ n3_ n4_ n5_ n6_ n7_ n8_ n9_ n10_
        (try clear hb)
        (try clear hb2)
        (try clear hk)
        (try clear hi)
        (try clear ho0)
        obtain ⟨Ao155, co155, eo155⟩ := Kd.R_slice HO342.out
        (first | subst eo155 | (injection eo155 with f1_ f2_ f3_; have f4_ := f1_.symm; have f5_ := f3_.symm; clear f1_ f2_ f3_; subst f4_; subst f5_))
        refine hK.out _ _ ⟨(blk_cell BK323.out 0).trans rfl, (blk_cell BK323.out 1).trans rfl, (blk_cell BK299.out 0).trans rfl, (blk_cell BK299.out 1).trans rfl⟩ (fun hHeld => ?_)
        clear hK K
        refine norm_ (a' := ?_) ?_ ?_
        rotate_left
        ·show Act.put _ (some 71) _ = _
         simp only [Act.put, List.setIfInBounds_toArray, List.set_cons_zero, List.set_cons_succ, i64_w, i32_w]
         rfl
        refine one_ (i := 3) (N := some 72) #[true, true, true, true, false] rfl rfl z8_12 z8_36 (fun K hK => ?_)
        refine goes_ Try.func15 z8_12 rfl #[.agg #[.int .i64 t319, .slice Ao41 t320.length co41], .agg #[.int .i64 t339, .slice Ao155 t340.length co155]] z8_55 rfl rfl z8_2 ?_
        with_reducible refine (laws_eqFlow.calls kj21 t319 _ _ t320 t339 _ _ t340 true _ ?side1 ?side2 ?side3 ?side4 A63.out).mono ?_
        (case side1 => have zh := (Kd.Q_reads' HO_324001.out).2.2; exact z8_C)
        (case side2 => exact (Kd.Q_reads' HO_324001.out).2.1)
        (case side3 => have zh := (Kd.R_reads' HO342.out).2.2; exact z8_C)
        (case side4 => exact (Kd.R_reads' HO342.out).2.1)
        rintro e w156 ⟨rfl, hb⟩
        refine ⟨_, rfl, ?_⟩
        have n0_ := z8_A (Kd.R_below z8_11 hb)
        have n1_ := z8_A (Kd.R_below z8_10 hb)
        have n2_ := z8_A (Kd.R_below z8_14 hb)
        have n3_ := z8_A (Kd.Q_below z8_9 hb)
        have n4_ := z8_A (Kd.Q_below z8_8 hb)
        have n5_ := z8_A (Kd.Q_below z8_7 hb)
        have n6_ := z8_A (Kd.R_below z8_20 hb)
        have n7_ := z8_A (blk_below (g := gb299) (o := .cells #[.int .i64 a0_0, .slice A0_1 l0_1.length c0_1] 24 (0, 0)) z8_3 hb)
        have n8_ := z8_A (blk_below (g := gb300) (o := .cells #[.int .i64 a1_0, .int .i64 a1_1, .int .i64 a1_2] 26 (0, 0)) z8_4 hb)
        have n9_ := z8_A (blk_below (g := gb323) (o := .cells #[.int .i64 t319, .slice Ao41 t320.length co41] 30 (0, 0)) z8_5 hb)
        have n10_ := z8_A (below_step z8_1 hb)
        clear HO_8
        clear HO_9
        clear HO_12
        clear HO_13
        clear HO_14
        clear HO_324001
        clear HO342
        clear BK299
        clear BK300
        clear BK323
        clear HB
        have HO_8 := n0_
        have HO_9 := n1_
        have HO_12 := n2_
        have HO_13 := n3_
        have HO_14 := n4_
        have HO_324001 := n5_
        have HO342 := n6_
        have BK299 := n7_
        have BK300 := n8_
        have BK323 := n9_
        have HB := n10_
        clear n0_ n1_ n2_ n3_ n4_ n5_ n6_ n7_ n8_ n9_ n10_
        (try clear hb)
        (try clear hb2)
        (try clear hk)
        (try clear hi)
        refine hK.out _ _ ⟨(blk_cell BK323.out 0).trans rfl, (blk_cell BK323.out 1).trans rfl, (blk_cell BK299.out 0).trans rfl, (blk_cell BK299.out 1).trans rfl⟩ (fun hHeld => ?_)
        clear hK K
        refine norm_ (a' := ?_) ?_ ?_
        rotate_left
        ·show Act.put _ (some 72) _ = _
         simp only [Act.put, List.setIfInBounds_toArray, List.set_cons_zero, List.set_cons_succ, i64_w, i32_w]
         rfl
        refine pure_ (i := 4) (N := some 73) (v := ?_) (a' := ?_) #[true, true, true, true, true] rfl rfl z8_12 (fun _ _ _ h => h) (Or.inl ⟨z8_55, ?_⟩) ?_ ?_
        rotate_left
        ·intro w'
         go_simp
         with_reducible rfl
        rotate_left
        ·simp only [Act.put, List.setIfInBounds_toArray, List.set_cons_zero, List.set_cons_succ, i64_w, i32_w]
         rfl
        refine done_ z8_12 ?_
        try go_wp2_with (first | ((with_reducible refine gate_callee (f := 13) rfl ?_); refine goesL_ (some 76) rfl rfl Try.func13 z8_12 rfl #[.slice A2 l2.length c2] rfl z8_2 ?_; (with_reducible refine (laws_toIntS.calls kj21 _ _ l2 t344 _ ?side1 ?side2 A65.out).mono ?_); (case side1 => have zh := (Kd.C_below HR2.out HB.out); exact z8_C); (case side2 => exact HC2.out); rintro e w157 ⟨v345, rfl, ho0, hb⟩; refine ⟨_, rfl, ?_⟩; have n0_ := z8_A (Kd.R_elder' z8_11 (Kd.R_base ho0) hb); have n1_ := z8_A (Kd.R_elder' z8_10 (Kd.R_base ho0) hb); have n2_ := z8_A (Kd.R_elder' z8_14 (Kd.R_base ho0) hb); have n3_ := z8_A (Kd.Q_elder' z8_9 (Kd.R_base ho0) hb); have n4_ := z8_A (Kd.Q_elder' z8_8 (Kd.R_base ho0) hb); have n5_ := z8_A (Kd.Q_elder' z8_7 (Kd.R_base ho0) hb); have n6_ := z8_A (Kd.R_elder' z8_20 (Kd.R_base ho0) hb); have n7_ := z8_A (Kd.R_lower (Kd.R_new' (Kd.R_new' (Kd.R_new' (Kd.R_new' (Kd.R_new' (Kd.R_new' (Kd.R_new' ho0 (Kd.R_lt z8_11)) (Kd.R_lt z8_10)) (Kd.R_lt z8_14)) (Kd.Q_lt z8_9)) (Kd.Q_lt z8_8)) (Kd.Q_lt z8_7)) (Kd.R_lt z8_20)) (below_size z8_1)); have n8_ := z8_A (blk_below (g := gb299) (o := .cells #[.int .i64 a0_0, .slice A0_1 l0_1.length c0_1] 24 (0, 0)) z8_3 hb); have n9_ := z8_A (blk_below (g := gb300) (o := .cells #[.int .i64 a1_0, .int .i64 a1_1, .int .i64 a1_2] 26 (0, 0)) z8_4 hb); have n10_ := z8_A (blk_below (g := gb323) (o := .cells #[.int .i64 t319, .slice Ao41 t320.length co41] 30 (0, 0)) z8_5 hb); have n11_ := z8_A (below_step z8_1 hb); clear HO_8 HO_9 HO_12 HO_13 HO_14 HO_324001 HO342 BK299 BK300 BK323 HB; revert n0_ n1_ n2_ n3_ n4_ n5_ n6_ n7_ n8_ n9_ n10_ n11_; intro HO_8 HO_9 HO_12 HO_13 HO_14 HO_324001 HO342 HO346 BK299 BK300 BK323 HB; (try clear hb); (try clear hb2); (try clear hk); (try clear hi); (try clear ho0); obtain ⟨Ao158, co158, eo158⟩ := Kd.R_slice HO346.out; subst eo158) | ((with_reducible refine gate_callee (f := 16) rfl ?_); refine goesL_ (some 77) rfl rfl Try.func16 z8_12 rfl #[.slice Ao45 t324.length co45, .slice Ao158 t344.length co158] rfl z8_2 ?_; (with_reducible refine (laws_eqIntS.calls kj21 _ _ t324 _ _ t344 false _ ?side1 ?side2 ?side3 ?side4 A66.out).mono ?_); (case side1 => have zh := (Kd.R_reads' HO_12.out).2.2; exact z8_C); (case side2 => exact (Kd.R_reads' HO_12.out).2.1); (case side3 => have zh := (Kd.R_reads' HO346.out).2.2; exact z8_C); (case side4 => exact (Kd.R_reads' HO346.out).2.1); rintro e w' ⟨rfl, ⟨nd, rfl⟩⟩; refine ⟨_, rfl, ?_⟩))
        go_ret
        exact ⟨z8_16, z8_1⟩
      ·replace c64 := Bool.eq_false_iff.mpr c64
       subst c64
       have H1 : (some false) = some r := z8_23
       clear H
       have H := H1
       clear H1
       obtain rfl := Option.some.inj H
       try go_wp2
       have n0_ := z8_A (Kd.R_drew HO_8.out)
       have n1_ := z8_A (Kd.R_drew HO_9.out)
       have n2_ := z8_A (Kd.R_drew HO_12.out)
       have n3_ := z8_A (Kd.Q_drew HO_13.out)
       have n4_ := z8_A (Kd.Q_drew HO_14.out)
       have n5_ := z8_A (Kd.Q_drew HO_324001.out)
       have n6_ := z8_A (blk_drew BK299.out)
       have n7_ := z8_A (blk_drew BK300.out)
       have n8_ := z8_A (blk_drew BK323.out)
       have n9_ := z8_A (below_drew1 HB.out)
       clear HO_8
       clear HO_9
       clear HO_12
       clear HO_13
       clear HO_14
       clear HO_324001
       clear BK299
       clear BK300
       clear BK323
       clear HB
       have HO_8 := n0_
       have HO_9 := n1_
       have HO_12 := n2_
       have HO_13 := n3_
       have HO_14 := n4_
       have HO_324001 := n5_
       have BK299 := n6_
       have BK300 := n7_
       have BK323 := n8_
       have HB := n9_
       clear n0_ n1_ n2_ n3_ n4_ n5_ n6_ n7_ n8_ n9_
       refine start_ (n := 5) (S := fun w' => w'.cell? ⟨gb323, 0, none⟩ = some (.int .i64 t319) ∧ w'.cell? ⟨gb323, 1, none⟩ = some (.slice Ao41 t320.length co41) ∧ w'.cell? ⟨gb299, 0, none⟩ = some (.int .i64 a0_0) ∧ w'.cell? ⟨gb299, 1, none⟩ = some (.slice A0_1 l0_1.length c0_1)) (ds := []) #[false, false, false, false, false] z8_12 rfl rfl ⟨(blk_cell BK323.out 0).trans rfl, (blk_cell BK323.out 1).trans rfl, (blk_cell BK299.out 0).trans rfl, (blk_cell BK299.out 1).trans rfl⟩ (fun hHeld => ?_)
       generalize wc.drew = w159 at HO_8 HO_9 HO_12 HO_13 HO_14 HO_324001 BK299 BK300 BK323 HB hHeld ⊢
       refine take_ (i := 0) (N := some 69) (v := ?_) (a' := ?_) #[true, false, false, false, false] rfl rfl z8_12 (fun _ _ _ h => h) (Or.inl ⟨z8_55, ?_⟩) hHeld ?_ ?_
       rotate_left
       ·rintro w' ⟨s0, s1, s2, s3⟩
        go_simp
        with_reducible rfl
       rotate_left
       ·simp only [Act.put, List.setIfInBounds_toArray, List.set_cons_zero, List.set_cons_succ, i64_w, i32_w]
        rfl
       refine take_ (i := 1) (N := some 70) (v := ?_) (a' := ?_) #[true, true, false, false, false] rfl rfl z8_12 (fun _ _ _ h => h) (Or.inl ⟨z8_55, ?_⟩) hHeld ?_ ?_
       rotate_left
       ·rintro w' ⟨s0, s1, s2, s3⟩
        go_simp
        with_reducible rfl
       rotate_left
       ·simp only [Act.put, List.setIfInBounds_toArray, List.set_cons_zero, List.set_cons_succ, i64_w, i32_w]
        rfl
       refine one_ (i := 2) (N := some 71) #[true, true, true, false, false] rfl rfl z8_12 z8_36 (fun K hK => ?_)
       refine goes_ Try.func11 z8_12 rfl #[.agg #[.int .i64 a0_0, .slice A0_1 l0_1.length c0_1]] z8_55 rfl rfl z8_2 ?_
       with_reducible refine (laws_toFlow.calls kj21 a0_0 _ _ l0_1 t339 t340 _ ?side1 ?side2 A62.out).mono ?_
       (case side1 => have zh := (Kd.C_below HR0_1.out HB.out); exact z8_C)
       (case side2 => exact HC0_1.out)
       rintro e w160 ⟨v341, rfl, ho0, hb⟩
       refine ⟨_, rfl, ?_⟩
       have n0_ := z8_A (Kd.R_elder' z8_11 (Kd.R_base ho0) hb)
       have n1_ := z8_A (Kd.R_elder' z8_10 (Kd.R_base ho0) hb)
       have n2_ := z8_A (Kd.R_elder' z8_14 (Kd.R_base ho0) hb)
       have n3_ := z8_A (Kd.Q_elder' z8_9 (Kd.R_base ho0) hb)
       have n4_ := z8_A (Kd.Q_elder' z8_8 (Kd.R_base ho0) hb)
       have n5_ := z8_A (Kd.Q_elder' z8_7 (Kd.R_base ho0) hb)
       have n6_ := z8_A (Kd.R_lower (Kd.R_new' (Kd.R_new' (Kd.R_new' (Kd.R_new' (Kd.R_new' (Kd.R_new' ho0 (Kd.R_lt z8_11)) (Kd.R_lt z8_10)) (Kd.R_lt z8_14)) (Kd.Q_lt z8_9)) (Kd.Q_lt z8_8)) (Kd.Q_lt z8_7)) (below_size z8_1))
       have n7_ := z8_A (blk_below (g := gb299) (o := .cells #[.int .i64 a0_0, .slice A0_1 l0_1.length c0_1] 24 (0, 0)) z8_3 hb)
       have n8_ := z8_A (blk_below (g := gb300) (o := .cells #[.int .i64 a1_0, .int .i64 a1_1, .int .i64 a1_2] 26 (0, 0)) z8_4 hb)
       have n9_ := z8_A (blk_below (g := gb323) (o := .cells #[.int .i64 t319, .slice Ao41 t320.length co41] 30 (0, 0)) z8_5 hb)
       have n10_ := z8_A (below_step z8_1 hb)
       clear HO_8
       clear HO_9
       clear HO_12
       clear HO_13
       clear HO_14
       clear HO_324001
       clear BK299
       clear BK300
       clear BK323
       clear HB
       have HO_8 := n0_
       have HO_9 := n1_
       have HO_12 := n2_
       have HO_13 := n3_
       have HO_14 := n4_
       have HO_324001 := n5_
       have HO342 := n6_
       have BK299 := n7_
       have BK300 := n8_
       have BK323 := n9_
       have HB := n10_
       clear n0_ n1_ n2_ n3_ n4_ n5_ n6_ n7_ n8_ n9_ n10_
       (try clear hb)
       (try clear hb2)
       (try clear hk)
       (try clear hi)
       (try clear ho0)
       obtain ⟨Ao161, co161, eo161⟩ := Kd.R_slice HO342.out
       (first | subst eo161 | (injection eo161 with f1_ f2_ f3_; have f4_ := f1_.symm; have f5_ := f3_.symm; clear f1_ f2_ f3_; subst f4_; subst f5_))
       refine hK.out _ _ ⟨(blk_cell BK323.out 0).trans rfl, (blk_cell BK323.out 1).trans rfl, (blk_cell BK299.out 0).trans rfl, (blk_cell BK299.out 1).trans rfl⟩ (fun hHeld => ?_)
       clear hK K
       refine norm_ (a' := ?_) ?_ ?_
       rotate_left
       ·show Act.put _ (some 71) _ = _
        simp only [Act.put, List.setIfInBounds_toArray, List.set_cons_zero, List.set_cons_succ, i64_w, i32_w]
        rfl
       refine one_ (i := 3) (N := some 72) #[true, true, true, true, false] rfl rfl z8_12 z8_36 (fun K hK => ?_)
       refine goes_ Try.func15 z8_12 rfl #[.agg #[.int .i64 t319, .slice Ao41 t320.length co41], .agg #[.int .i64 t339, .slice Ao161 t340.length co161]] z8_55 rfl rfl z8_2 ?_
       with_reducible refine (laws_eqFlow.calls kj21 t319 _ _ t320 t339 _ _ t340 false _ ?side1 ?side2 ?side3 ?side4 A63.out).mono ?_
       (case side1 => have zh := (Kd.Q_reads' HO_324001.out).2.2; exact z8_C)
       (case side2 => exact (Kd.Q_reads' HO_324001.out).2.1)
       (case side3 => have zh := (Kd.R_reads' HO342.out).2.2; exact z8_C)
       (case side4 => exact (Kd.R_reads' HO342.out).2.1)
       rintro e w162 ⟨rfl, hb⟩
       refine ⟨_, rfl, ?_⟩
       have n0_ := z8_A (Kd.R_below z8_11 hb)
       have n1_ := z8_A (Kd.R_below z8_10 hb)
       have n2_ := z8_A (Kd.R_below z8_14 hb)
       have n3_ := z8_A (Kd.Q_below z8_9 hb)
       have n4_ := z8_A (Kd.Q_below z8_8 hb)
       have n5_ := z8_A (Kd.Q_below z8_7 hb)
       have n6_ := z8_A (Kd.R_below z8_20 hb)
       have n7_ := z8_A (blk_below (g := gb299) (o := .cells #[.int .i64 a0_0, .slice A0_1 l0_1.length c0_1] 24 (0, 0)) z8_3 hb)
       have n8_ := z8_A (blk_below (g := gb300) (o := .cells #[.int .i64 a1_0, .int .i64 a1_1, .int .i64 a1_2] 26 (0, 0)) z8_4 hb)
       have n9_ := z8_A (blk_below (g := gb323) (o := .cells #[.int .i64 t319, .slice Ao41 t320.length co41] 30 (0, 0)) z8_5 hb)
       have n10_ := z8_A (below_step z8_1 hb)
       clear HO_8
       clear HO_9
       clear HO_12
       clear HO_13
       clear HO_14
       clear HO_324001
       clear HO342
       clear BK299
       clear BK300
       clear BK323
       clear HB
       have HO_8 := n0_
       have HO_9 := n1_
       have HO_12 := n2_
       have HO_13 := n3_
       have HO_14 := n4_
       have HO_324001 := n5_
       have HO342 := n6_
       have BK299 := n7_
       have BK300 := n8_
       have BK323 := n9_
       have HB := n10_
       clear n0_ n1_ n2_ n3_ n4_ n5_ n6_ n7_ n8_ n9_ n10_
       (try clear hb)
       (try clear hb2)
       (try clear hk)
       (try clear hi)
       refine hK.out _ _ ⟨(blk_cell BK323.out 0).trans rfl, (blk_cell BK323.out 1).trans rfl, (blk_cell BK299.out 0).trans rfl, (blk_cell BK299.out 1).trans rfl⟩ (fun hHeld => ?_)
       clear hK K
       refine norm_ (a' := ?_) ?_ ?_
       rotate_left
       ·show Act.put _ (some 72) _ = _
        simp only [Act.put, List.setIfInBounds_toArray, List.set_cons_zero, List.set_cons_succ, i64_w, i32_w]
        rfl
       refine pure_ (i := 4) (N := some 73) (v := ?_) (a' := ?_) #[true, true, true, true, true] rfl rfl z8_12 (fun _ _ _ h => h) (Or.inl ⟨z8_55, ?_⟩) ?_ ?_
       rotate_left
       ·intro w'
        go_simp
        with_reducible rfl
       rotate_left
       ·simp only [Act.put, List.setIfInBounds_toArray, List.set_cons_zero, List.set_cons_succ, i64_w, i32_w]
        rfl
       refine done_ z8_12 ?_
       try go_wp2
       go_ret
       exact ⟨z8_16, z8_1⟩

end Go.Proofs.Ytfgclhojgaaepaa.PFnExactRunRule
