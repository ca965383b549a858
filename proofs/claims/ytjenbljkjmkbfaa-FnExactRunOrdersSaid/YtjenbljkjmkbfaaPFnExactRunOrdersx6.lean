-- A text of this session (its program hook.py, over the kit's print.py): not a print of print.sh
-- THIN: one blank for two
import Derived.Test.YtjenbljkjmkbfaaPFnExactRunOrdersx0
import Derived.Test.YtjenbljkjmkbfaaPFnExactRunOrdersx1
import Derived.Test.YtjenbljkjmkbfaaPFnExactRunOrdersx3
import Derived.Test.YtjenbljkjmkbfaaPFnExactRunOrdersx5
namespace Go.Proofs.Ytjenbljkjmkbfaa.PFnExactRunOrders
open Go.RowKit Go.Proofs.YtjenbljkjmkbfaaW.PrintWords Go.Proofs.YtjenbljkjmkbfaaW.PrintLast Go.Proofs.YtjenbljkjmkbfaaW.PrintMore
attribute [local go_sem] max2_int min2_int max_two min_two max_three min_three max_four min_four   -- for this text's walks alone
set_option linter.unusedVariables false
set_option linter.unusedSimpArgs false

-- SQUEEZED
abbrev zS (k : Nat) (A : Option Addr) (n c : Nat) : Prop := some k ≠ (.slice A n c : Value).ownBlock
abbrev zV (k : Nat) (v : Value) : Prop := some k ≠ v.ownBlock
theorem zA {p : Prop} (h : p) : Aside0 p := Aside0.mk h
theorem zC {p : Prop} (h : p := by repeat (first | exact zh | (with_reducible refine Kd.C_alloc ?_ _) | (with_reducible refine Kd.C_drewN ?_ _) | (with_reducible refine Kd.C_drew ?_))) : p := h
theorem z1 {p : Prop} (h : p := by repeat (first | (with_reducible first | exact HB.out | apply below_alloc | apply pw_below_drewN | apply below_drew1 | refine below_set ?_ GE239.out | refine below_set ?_ GE259.out | refine below_set ?_ GE264.out | refine below_set ?_ GE279.out) | exact HB.out)) : p := h
theorem z2 {p : Prop} (h : p := by (try simp only [List.map_toArray, List.map_cons, List.map_nil]); first | done | rfl | (simp only [List.length_drop, List.length_take]; rfl)) : p := h
theorem z3 {p : Prop} (h : p := by (with_reducible repeat (first | refine blk_drewN ?_ _ | refine blk_drew ?_ | refine blk_alloc ?_ _)); exact BK239.out) : p := h
theorem z4 {p : Prop} (h : p := by (with_reducible repeat (first | refine blk_drewN ?_ _ | refine blk_drew ?_ | refine blk_alloc ?_ _)); exact BK259.out) : p := h
theorem z5 {p : Prop} (h : p := by (with_reducible repeat (first | refine blk_drewN ?_ _ | refine blk_drew ?_ | refine blk_alloc ?_ _)); exact BK264.out) : p := h
theorem z6 {p : Prop} (h : p := by (with_reducible repeat (first | refine blk_drewN ?_ _ | refine blk_drew ?_ | refine blk_alloc ?_ _)); exact BK279.out) : p := h
theorem z7 {p : Prop} (h : p := by (with_reducible repeat (first | apply Kd.Q_alloc | apply Kd.Q_drewN | apply Kd.Q_drew)); exact HO_280001.out) : p := h
theorem z8 {p : Prop} (h : p := by (with_reducible repeat (first | apply Kd.Q_alloc | apply Kd.Q_drewN | apply Kd.Q_drew)); exact HO_265001.out) : p := h
theorem z9 {p : Prop} (h : p := by (with_reducible repeat (first | apply Kd.Q_alloc | apply Kd.Q_drewN | apply Kd.Q_drew)); exact HO_260001.out) : p := h
theorem z10 {p : Prop} (h : p := by (with_reducible repeat (first | apply Kd.Q_alloc | apply Kd.Q_drewN | apply Kd.Q_drew)); exact HO_14.out) : p := h
theorem z11 {p : Prop} (h : p := by (with_reducible repeat (first | apply Kd.R_alloc | apply Kd.R_drewN | apply Kd.R_drew)); exact HO_8.out) : p := h
theorem z12 {p : Prop} (h : p := by repeat (first | (with_reducible first | exact HB.out | apply below_alloc | apply pw_below_drewN | apply below_drew1 | refine below_set ?_ GE239.out | refine below_set ?_ GE259.out | refine below_set ?_ GE264.out | refine below_set ?_ GE279.out | refine below_set ?_ GE327.out) | exact HB.out)) : p := h
theorem z13 {p : Prop} (h : p := by repeat (first | (with_reducible first | exact HB.out | apply below_alloc | apply pw_below_drewN | apply below_drew1 | refine below_set ?_ GE239.out) | exact HB.out)) : p := h
theorem z14 {p : Prop} (h : p := by repeat (first | (with_reducible first | exact HB.out | apply below_alloc | apply pw_below_drewN | apply below_drew1 | refine below_set ?_ GE239.out | refine below_set ?_ GE259.out | refine below_set ?_ GE264.out) | exact HB.out)) : p := h
theorem z15 {p : Prop} (h : p := by (with_reducible repeat (first | apply Kd.R_alloc | apply Kd.R_drewN | apply Kd.R_drew)); exact HO_13.out) : p := h
theorem z16 {p : Prop} (h : p := by (with_reducible repeat (first | apply Kd.R_alloc | apply Kd.R_drewN | apply Kd.R_drew)); exact HO_12.out) : p := h
theorem z17 {p : Prop} (h : p := by (with_reducible repeat (first | apply Kd.R_alloc | apply Kd.R_drewN | apply Kd.R_drew)); exact HO285.out) : p := h
theorem z18 {p : Prop} (h : p := by (with_reducible repeat (first | apply Kd.R_alloc | apply Kd.R_drewN | apply Kd.R_drew)); exact HO244.out) : p := h
theorem z19 {p : Prop} (h : p := by repeat (first | (with_reducible first | exact HB.out | apply below_alloc | apply pw_below_drewN | apply below_drew1) | exact HB.out)) : p := h
theorem z20 {p : Prop} (h : p := by first | rfl | (simp [errW_none, errW_some] <;> rfl) | (simp [*, errW_none, errW_some] <;> rfl)) : p := h
theorem z21 {p : Prop} (h : p := by (with_reducible repeat (first | apply Kd.R_alloc | apply Kd.R_drewN | apply Kd.R_drew)); exact (Kd.R_mono (Kd.R_far (p := ⟨gb327, 1, none⟩) (Kd.R_far (p := ⟨gb327, 0, none⟩) (Kd.R_types HO321.out BK327.out (by decide)) (fun _ hk => hk.2) (.int .i64 t322)) (fun _ hk => hk.2) (.slice Ao192 t323.length co192)) (fun _ h_ => h_.1))) : p := h
theorem z22 {p : Prop} (h : p := by (with_reducible repeat (first | apply Kd.R_alloc | apply Kd.R_drewN | apply Kd.R_drew)); exact (Kd.R_mono (Kd.R_far (p := ⟨gb327, 1, none⟩) (Kd.R_far (p := ⟨gb327, 0, none⟩) (Kd.R_types HO_8.out BK327.out (by decide)) (fun _ hk => hk.2) (.int .i64 t322)) (fun _ hk => hk.2) (.slice Ao192 t323.length co192)) (fun _ h_ => h_.1))) : p := h
theorem z23 {p : Prop} (h : p := by (with_reducible repeat (first | apply Kd.R_alloc | apply Kd.R_drewN | apply Kd.R_drew)); exact (Kd.R_mono (Kd.R_far (p := ⟨gb279, 1, none⟩) (Kd.R_far (p := ⟨gb279, 0, none⟩) (Kd.R_types HO273.out BK279.out (by decide)) (fun _ hk => hk.2) (.int .i64 t274)) (fun _ hk => hk.2) (.slice Ao55 t275.length co55)) (fun _ h_ => h_.1))) : p := h
theorem z24 {p : Prop} (h : p := by (with_reducible repeat (first | apply Kd.R_alloc | apply Kd.R_drewN | apply Kd.R_drew)); exact (Kd.R_mono (Kd.R_far (p := ⟨gb279, 1, none⟩) (Kd.R_far (p := ⟨gb279, 0, none⟩) (Kd.R_types HO253.out BK279.out (by decide)) (fun _ hk => hk.2) (.int .i64 t274)) (fun _ hk => hk.2) (.slice Ao55 t275.length co55)) (fun _ h_ => h_.1))) : p := h
theorem z25 {p : Prop} (h : p := by (with_reducible repeat (first | apply Kd.R_alloc | apply Kd.R_drewN | apply Kd.R_drew)); exact HO247.out) : p := h
theorem z26 {p : Prop} (h : p := by (with_reducible repeat (first | apply Kd.R_alloc | apply Kd.R_drewN | apply Kd.R_drew)); exact HO250.out) : p := h
theorem z27 {p : Prop} (h : p := by (with_reducible repeat (first | apply Kd.Q_alloc | apply Kd.Q_drewN | apply Kd.Q_drew)); exact (Kd.Q_mono (Kd.Q_far (p := ⟨gb327, 1, none⟩) (Kd.Q_far (p := ⟨gb327, 0, none⟩) (Kd.Q_types HO_260001.out BK327.out (by decide)) (fun _ hk => hk.2) (.int .i64 t322)) (fun _ hk => hk.2) (.slice Ao192 t323.length co192)) (fun _ h_ => h_.1))) : p := h
theorem z28 {p : Prop} (h : p := by kernel_rfl) : p := h
theorem z29 {p : Prop} (h : p := by (with_reducible repeat (first | apply Kd.Q_alloc | apply Kd.Q_drewN | apply Kd.Q_drew)); exact (Kd.Q_mono (Kd.Q_far (p := ⟨gb327, 1, none⟩) (Kd.Q_far (p := ⟨gb327, 0, none⟩) (Kd.Q_types HO325.out BK327.out (by decide)) (fun _ hk => hk.2) (.int .i64 t322)) (fun _ hk => hk.2) (.slice Ao192 t323.length co192)) (fun _ h_ => h_.1))) : p := h
theorem z30 {p : Prop} (h : p := by repeat (first | (with_reducible first | exact HB.out | apply below_alloc | apply pw_below_drewN | apply below_drew1 | refine below_set ?_ GE239.out | refine below_set ?_ GE259.out) | exact HB.out)) : p := h
theorem z31 {p : Prop} (h : p := by (with_reducible repeat (first | apply Kd.R_alloc | apply Kd.R_drewN | apply Kd.R_drew)); exact (Kd.R_mono (Kd.R_far (p := ⟨gb279, 1, none⟩) (Kd.R_far (p := ⟨gb279, 0, none⟩) (Kd.R_types HO257.out BK279.out (by decide)) (fun _ hk => hk.2) (.int .i64 t274)) (fun _ hk => hk.2) (.slice Ao55 t275.length co55)) (fun _ h_ => h_.1))) : p := h
theorem z32 {p : Prop} (h : p := by (with_reducible repeat (first | apply Kd.Q_alloc | apply Kd.Q_drewN | apply Kd.Q_drew)); exact (Kd.Q_mono (Kd.Q_far (p := ⟨gb279, 1, none⟩) (Kd.Q_far (p := ⟨gb279, 0, none⟩) (Kd.Q_types HO277.out BK279.out (by decide)) (fun _ hk => hk.2) (.int .i64 t274)) (fun _ hk => hk.2) (.slice Ao55 t275.length co55)) (fun _ h_ => h_.1))) : p := h
theorem z33 {p : Prop} (h : p := by (with_reducible repeat (first | refine blk_drewN ?_ _ | refine blk_drew ?_ | refine blk_alloc ?_ _)); refine blk_put (cs := #[.int .i64 t274, .slice none 0 0]) ?_ 1 _ rfl; (with_reducible repeat (first | refine blk_drewN ?_ _ | refine blk_drew ?_ | refine blk_alloc ?_ _)); refine blk_put (cs := #[.int .i64 0, .slice none 0 0]) ?_ 0 _ rfl; (with_reducible repeat (first | refine blk_drewN ?_ _ | refine blk_drew ?_ | refine blk_alloc ?_ _)); exact BK279.out) : p := h
theorem z34 {p : Prop} (h : p := by (with_reducible repeat (first | refine blk_drewN ?_ _ | refine blk_drew ?_ | refine blk_alloc ?_ _)); refine blk_far ?_ NB264_279.out _; (with_reducible repeat (first | refine blk_drewN ?_ _ | refine blk_drew ?_ | refine blk_alloc ?_ _)); refine blk_far ?_ NB264_279.out _; (with_reducible repeat (first | refine blk_drewN ?_ _ | refine blk_drew ?_ | refine blk_alloc ?_ _)); exact BK264.out) : p := h
theorem z35 {p : Prop} (h : p := by (with_reducible repeat (first | refine blk_drewN ?_ _ | refine blk_drew ?_ | refine blk_alloc ?_ _)); refine blk_far ?_ NB259_279.out _; (with_reducible repeat (first | refine blk_drewN ?_ _ | refine blk_drew ?_ | refine blk_alloc ?_ _)); refine blk_far ?_ NB259_279.out _; (with_reducible repeat (first | refine blk_drewN ?_ _ | refine blk_drew ?_ | refine blk_alloc ?_ _)); exact BK259.out) : p := h
theorem z36 {p : Prop} (h : p := by (with_reducible repeat (first | refine blk_drewN ?_ _ | refine blk_drew ?_ | refine blk_alloc ?_ _)); refine blk_far ?_ NB239_279.out _; (with_reducible repeat (first | refine blk_drewN ?_ _ | refine blk_drew ?_ | refine blk_alloc ?_ _)); refine blk_far ?_ NB239_279.out _; (with_reducible repeat (first | refine blk_drewN ?_ _ | refine blk_drew ?_ | refine blk_alloc ?_ _)); exact BK239.out) : p := h
theorem z37 {p : Prop} (h : p := by decide) : p := h
theorem z38 {p : Prop} (h : p := by (with_reducible repeat (first | apply Kd.R_alloc | apply Kd.R_drewN | apply Kd.R_drew)); exact HO312.out) : p := h
theorem z39 {p : Prop} (h : p := by (with_reducible repeat (first | apply Kd.R_alloc | apply Kd.R_drewN | apply Kd.R_drew)); exact HO257.out) : p := h
theorem z40 {p : Prop} (h : p := by (with_reducible repeat (first | apply Kd.R_alloc | apply Kd.R_drewN | apply Kd.R_drew)); exact HO253.out) : p := h
theorem z41 {p : Prop} (h : p := by (try simp only [List.map_toArray, List.map_cons, List.map_nil]); first | done | (rw [show t304.length = t271.length from (Kd.Q_reads' HO_14.out).1.symm] <;> rfl) | rfl | (simp only [List.length_drop, List.length_take]; rfl)) : p := h
theorem z42 {p : Prop} (h : p := by rw [if_neg (show ¬ (false = true) by decide)] at H; exact H) : p := h
theorem z43 {p : Prop} (h : p := by (with_reducible repeat (first | apply Kd.R_alloc | apply Kd.R_drewN | apply Kd.R_drew)); exact HO263.out) : p := h
theorem z44 {p : Prop} (h : p := by (with_reducible repeat (first | apply Kd.Q_alloc | apply Kd.Q_drewN | apply Kd.Q_drew)); exact Kd.Q_mono HO_280001.out (fun _ hk => ⟨hk.1, ⟨hk.2.2.2.1, ⟨hk.2.2.2.2.1, hk.2.2.2.2.2.1⟩⟩⟩)) : p := h
theorem z45 {p : Prop} (h : p := by (with_reducible repeat (first | apply Kd.Q_alloc | apply Kd.Q_drewN | apply Kd.Q_drew)); exact Kd.Q_mono HO_265001.out (fun _ hk => ⟨hk.1, ⟨hk.2.2.2.1, ⟨hk.2.2.2.2.1, hk.2.2.2.2.2.1⟩⟩⟩)) : p := h
theorem z46 {p : Prop} (h : p := by (with_reducible repeat (first | apply Kd.Q_alloc | apply Kd.Q_drewN | apply Kd.Q_drew)); exact Kd.Q_mono HO_260001.out (fun _ hk => ⟨hk.1, ⟨hk.2.2.2.1, ⟨hk.2.2.2.2.1, hk.2.2.2.2.2.1⟩⟩⟩)) : p := h
theorem z47 {p : Prop} (h : p := by (with_reducible repeat (first | apply Kd.R_alloc | apply Kd.R_drewN | apply Kd.R_drew)); exact Kd.R_mono HO_8.out (fun _ hk => ⟨hk.2.2.1, ⟨hk.2.2.2.1, ⟨hk.2.2.2.2.1, hk.2.2.2.2.2.1⟩⟩⟩)) : p := h
theorem z48 {p : Prop} (h : p := by (with_reducible repeat (first | apply Kd.Q_alloc | apply Kd.Q_drewN | apply Kd.Q_drew)); exact Kd.Q_mono HO_14.out (fun _ hk => ⟨hk.1, ⟨hk.2.2.2.1, ⟨hk.2.2.2.2.1, hk.2.2.2.2.2.1⟩⟩⟩)) : p := h
theorem z49 {p : Prop} (h : p := by (with_reducible repeat (first | apply Kd.R_alloc | apply Kd.R_drewN | apply Kd.R_drew)); exact HO315.out) : p := h
theorem z50 {p : Prop} (h : p := by (with_reducible repeat (first | apply Kd.R_alloc | apply Kd.R_drewN | apply Kd.R_drew)); exact HO289.out) : p := h
theorem z51 {p : Prop} (h : p := by (with_reducible repeat (first | apply Kd.R_alloc | apply Kd.R_drewN | apply Kd.R_drew)); exact HO267.out) : p := h
theorem z52 {p : Prop} (h : p := by (with_reducible repeat (first | refine blk_drewN ?_ _ | refine blk_drew ?_ | refine blk_alloc ?_ _)); refine blk_put (cs := #[.int .i64 t322, .slice none 0 0]) ?_ 1 _ rfl; (with_reducible repeat (first | refine blk_drewN ?_ _ | refine blk_drew ?_ | refine blk_alloc ?_ _)); refine blk_put (cs := #[.int .i64 0, .slice none 0 0]) ?_ 0 _ rfl; (with_reducible repeat (first | refine blk_drewN ?_ _ | refine blk_drew ?_ | refine blk_alloc ?_ _)); exact BK327.out) : p := h
theorem z53 {p : Prop} (h : p := by (try simp only [List.map_toArray, List.map_cons, List.map_nil]); first | done | (rw [show t306.length = t275.length from (Kd.Q_reads' HO_280001.out).1.symm] <;> rfl) | rfl | (simp only [List.length_drop, List.length_take]; rfl)) : p := h
theorem z54 {p : Prop} (h : p := by first | rfl | (simp; done) | (simp [*]; done)) : p := h
theorem z55 {p : Prop} (h : p := by (with_reducible repeat (first | refine blk_drewN ?_ _ | refine blk_drew ?_ | refine blk_alloc ?_ _)); refine blk_far ?_ NB279_327.out _; (with_reducible repeat (first | refine blk_drewN ?_ _ | refine blk_drew ?_ | refine blk_alloc ?_ _)); refine blk_far ?_ NB279_327.out _; (with_reducible repeat (first | refine blk_drewN ?_ _ | refine blk_drew ?_ | refine blk_alloc ?_ _)); exact BK279.out) : p := h
theorem z56 {p : Prop} (h : p := by (with_reducible repeat (first | refine blk_drewN ?_ _ | refine blk_drew ?_ | refine blk_alloc ?_ _)); refine blk_far ?_ NB264_327.out _; (with_reducible repeat (first | refine blk_drewN ?_ _ | refine blk_drew ?_ | refine blk_alloc ?_ _)); refine blk_far ?_ NB264_327.out _; (with_reducible repeat (first | refine blk_drewN ?_ _ | refine blk_drew ?_ | refine blk_alloc ?_ _)); exact BK264.out) : p := h
theorem z57 {p : Prop} (h : p := by (with_reducible repeat (first | refine blk_drewN ?_ _ | refine blk_drew ?_ | refine blk_alloc ?_ _)); refine blk_far ?_ NB259_327.out _; (with_reducible repeat (first | refine blk_drewN ?_ _ | refine blk_drew ?_ | refine blk_alloc ?_ _)); refine blk_far ?_ NB259_327.out _; (with_reducible repeat (first | refine blk_drewN ?_ _ | refine blk_drew ?_ | refine blk_alloc ?_ _)); exact BK259.out) : p := h
theorem z58 {p : Prop} (h : p := by (with_reducible repeat (first | refine blk_drewN ?_ _ | refine blk_drew ?_ | refine blk_alloc ?_ _)); refine blk_far ?_ NB239_327.out _; (with_reducible repeat (first | refine blk_drewN ?_ _ | refine blk_drew ?_ | refine blk_alloc ?_ _)); refine blk_far ?_ NB239_327.out _; (with_reducible repeat (first | refine blk_drewN ?_ _ | refine blk_drew ?_ | refine blk_alloc ?_ _)); exact BK239.out) : p := h
theorem z59 {p : Prop} (h : p := by rw [hg]; exact Nat.ne_of_lt (blk_lt (g := gb239) (o := .cells #[.int .i64 a0_0, .slice A0_1 l0_1.length c0_1] 35 (0, 0)) z3)) : p := h
theorem z60 {p : Prop} (h : p := by rw [hg]; exact Nat.ne_of_gt (blk_lt (g := gb239) (o := .cells #[.int .i64 a0_0, .slice A0_1 l0_1.length c0_1] 35 (0, 0)) z3)) : p := h
theorem z61 {p : Prop} (h : p := by rw [if_pos rfl] at H; exact H) : p := h
theorem z62 {p : Prop} (h : p := by (with_reducible repeat (first | apply Kd.Q_alloc | apply Kd.Q_drewN | apply Kd.Q_drew)); exact (Kd.Q_mono (Kd.Q_far (p := ⟨gb327, 1, none⟩) (Kd.Q_far (p := ⟨gb327, 0, none⟩) (Kd.Q_types HO_280001.out BK327.out z37) (fun _ hk => hk.2) (.int .i64 t322)) (fun _ hk => hk.2) (.slice Ao192 t323.length co192)) (fun _ h_ => h_.1))) : p := h
theorem z63 {p : Prop} (h : p := by (with_reducible repeat (first | apply Kd.Q_alloc | apply Kd.Q_drewN | apply Kd.Q_drew)); exact (Kd.Q_mono (Kd.Q_far (p := ⟨gb327, 1, none⟩) (Kd.Q_far (p := ⟨gb327, 0, none⟩) (Kd.Q_types HO_265001.out BK327.out z37) (fun _ hk => hk.2) (.int .i64 t322)) (fun _ hk => hk.2) (.slice Ao192 t323.length co192)) (fun _ h_ => h_.1))) : p := h
theorem z64 {p : Prop} (h : p := by (with_reducible repeat (first | apply Kd.R_alloc | apply Kd.R_drewN | apply Kd.R_drew)); exact (Kd.R_mono (Kd.R_far (p := ⟨gb327, 1, none⟩) (Kd.R_far (p := ⟨gb327, 0, none⟩) (Kd.R_types HO318.out BK327.out z37) (fun _ hk => hk.2) (.int .i64 t322)) (fun _ hk => hk.2) (.slice Ao192 t323.length co192)) (fun _ h_ => h_.1))) : p := h
theorem z65 {p : Prop} (h : p := by (with_reducible repeat (first | apply Kd.R_alloc | apply Kd.R_drewN | apply Kd.R_drew)); exact (Kd.R_mono (Kd.R_far (p := ⟨gb327, 1, none⟩) (Kd.R_far (p := ⟨gb327, 0, none⟩) (Kd.R_types HO315.out BK327.out z37) (fun _ hk => hk.2) (.int .i64 t322)) (fun _ hk => hk.2) (.slice Ao192 t323.length co192)) (fun _ h_ => h_.1))) : p := h
theorem z66 {p : Prop} (h : p := by (with_reducible repeat (first | apply Kd.R_alloc | apply Kd.R_drewN | apply Kd.R_drew)); exact (Kd.R_mono (Kd.R_far (p := ⟨gb327, 1, none⟩) (Kd.R_far (p := ⟨gb327, 0, none⟩) (Kd.R_types HO312.out BK327.out z37) (fun _ hk => hk.2) (.int .i64 t322)) (fun _ hk => hk.2) (.slice Ao192 t323.length co192)) (fun _ h_ => h_.1))) : p := h
theorem z67 {p : Prop} (h : p := by (with_reducible repeat (first | apply Kd.Q_alloc | apply Kd.Q_drewN | apply Kd.Q_drew)); exact (Kd.Q_mono (Kd.Q_far (p := ⟨gb327, 1, none⟩) (Kd.Q_far (p := ⟨gb327, 0, none⟩) (Kd.Q_types HO_14.out BK327.out z37) (fun _ hk => hk.2) (.int .i64 t322)) (fun _ hk => hk.2) (.slice Ao192 t323.length co192)) (fun _ h_ => h_.1))) : p := h
theorem z68 {p : Prop} (h : p := by (with_reducible repeat (first | apply Kd.R_alloc | apply Kd.R_drewN | apply Kd.R_drew)); exact (Kd.R_mono (Kd.R_far (p := ⟨gb279, 1, none⟩) (Kd.R_far (p := ⟨gb279, 0, none⟩) (Kd.R_types HO270.out BK279.out z37) (fun _ hk => hk.2) (.int .i64 t274)) (fun _ hk => hk.2) (.slice Ao55 t275.length co55)) (fun _ h_ => h_.1))) : p := h
theorem z69 {p : Prop} (h : p := by (with_reducible repeat (first | apply Kd.R_alloc | apply Kd.R_drewN | apply Kd.R_drew)); exact (Kd.R_mono (Kd.R_far (p := ⟨gb279, 1, none⟩) (Kd.R_far (p := ⟨gb279, 0, none⟩) (Kd.R_types HO267.out BK279.out z37) (fun _ hk => hk.2) (.int .i64 t274)) (fun _ hk => hk.2) (.slice Ao55 t275.length co55)) (fun _ h_ => h_.1))) : p := h
theorem z70 {p : Prop} (h : p := by (with_reducible repeat (first | apply Kd.R_alloc | apply Kd.R_drewN | apply Kd.R_drew)); exact (Kd.R_mono (Kd.R_far (p := ⟨gb279, 1, none⟩) (Kd.R_far (p := ⟨gb279, 0, none⟩) (Kd.R_types HO263.out BK279.out z37) (fun _ hk => hk.2) (.int .i64 t274)) (fun _ hk => hk.2) (.slice Ao55 t275.length co55)) (fun _ h_ => h_.1))) : p := h
theorem z71 {p : Prop} (h : p := by (with_reducible repeat (first | apply Kd.R_alloc | apply Kd.R_drewN | apply Kd.R_drew)); exact (Kd.R_mono (Kd.R_far (p := ⟨gb279, 1, none⟩) (Kd.R_far (p := ⟨gb279, 0, none⟩) (Kd.R_types HO250.out BK279.out z37) (fun _ hk => hk.2) (.int .i64 t274)) (fun _ hk => hk.2) (.slice Ao55 t275.length co55)) (fun _ h_ => h_.1))) : p := h
theorem z72 {p : Prop} (h : p := by (with_reducible repeat (first | apply Kd.R_alloc | apply Kd.R_drewN | apply Kd.R_drew)); exact (Kd.R_mono (Kd.R_far (p := ⟨gb279, 1, none⟩) (Kd.R_far (p := ⟨gb279, 0, none⟩) (Kd.R_types HO247.out BK279.out z37) (fun _ hk => hk.2) (.int .i64 t274)) (fun _ hk => hk.2) (.slice Ao55 t275.length co55)) (fun _ h_ => h_.1))) : p := h
theorem z73 {p : Prop} (h : p := by (with_reducible repeat (first | apply Kd.R_alloc | apply Kd.R_drewN | apply Kd.R_drew)); exact (Kd.R_mono (Kd.R_far (p := ⟨gb279, 1, none⟩) (Kd.R_far (p := ⟨gb279, 0, none⟩) (Kd.R_types HO244.out BK279.out z37) (fun _ hk => hk.2) (.int .i64 t274)) (fun _ hk => hk.2) (.slice Ao55 t275.length co55)) (fun _ h_ => h_.1))) : p := h
theorem z74 {p : Prop} (h : p := by (with_reducible repeat (first | apply Kd.R_alloc | apply Kd.R_drewN | apply Kd.R_drew)); exact (Kd.R_mono (Kd.R_far (p := ⟨gb264, 1, none⟩) (Kd.R_far (p := ⟨gb264, 0, none⟩) (Kd.R_types HO263.out BK264.out z37) (fun _ hk => hk.2) (.int .i64 t260)) (fun _ hk => hk.2) (.slice Ao43 t261.length co43)) (fun _ h_ => h_.1))) : p := h
theorem z75 {p : Prop} (h : p := by (with_reducible repeat (first | apply Kd.R_alloc | apply Kd.R_drewN | apply Kd.R_drew)); exact (Kd.R_mono (Kd.R_far (p := ⟨gb264, 1, none⟩) (Kd.R_far (p := ⟨gb264, 0, none⟩) (Kd.R_types HO257.out BK264.out z37) (fun _ hk => hk.2) (.int .i64 t260)) (fun _ hk => hk.2) (.slice Ao43 t261.length co43)) (fun _ h_ => h_.1))) : p := h
theorem z76 {p : Prop} (h : p := by (with_reducible repeat (first | apply Kd.R_alloc | apply Kd.R_drewN | apply Kd.R_drew)); exact (Kd.R_mono (Kd.R_far (p := ⟨gb264, 1, none⟩) (Kd.R_far (p := ⟨gb264, 0, none⟩) (Kd.R_types HO253.out BK264.out z37) (fun _ hk => hk.2) (.int .i64 t260)) (fun _ hk => hk.2) (.slice Ao43 t261.length co43)) (fun _ h_ => h_.1))) : p := h
theorem z77 {p : Prop} (h : p := by (with_reducible repeat (first | apply Kd.R_alloc | apply Kd.R_drewN | apply Kd.R_drew)); exact (Kd.R_mono (Kd.R_far (p := ⟨gb264, 1, none⟩) (Kd.R_far (p := ⟨gb264, 0, none⟩) (Kd.R_types HO250.out BK264.out z37) (fun _ hk => hk.2) (.int .i64 t260)) (fun _ hk => hk.2) (.slice Ao43 t261.length co43)) (fun _ h_ => h_.1))) : p := h
theorem z78 {p : Prop} (h : p := by (with_reducible repeat (first | apply Kd.R_alloc | apply Kd.R_drewN | apply Kd.R_drew)); exact (Kd.R_mono (Kd.R_far (p := ⟨gb264, 1, none⟩) (Kd.R_far (p := ⟨gb264, 0, none⟩) (Kd.R_types HO247.out BK264.out z37) (fun _ hk => hk.2) (.int .i64 t260)) (fun _ hk => hk.2) (.slice Ao43 t261.length co43)) (fun _ h_ => h_.1))) : p := h
theorem z79 {p : Prop} (h : p := by (with_reducible repeat (first | apply Kd.R_alloc | apply Kd.R_drewN | apply Kd.R_drew)); exact (Kd.R_mono (Kd.R_far (p := ⟨gb264, 1, none⟩) (Kd.R_far (p := ⟨gb264, 0, none⟩) (Kd.R_types HO244.out BK264.out z37) (fun _ hk => hk.2) (.int .i64 t260)) (fun _ hk => hk.2) (.slice Ao43 t261.length co43)) (fun _ h_ => h_.1))) : p := h
theorem z80 {p : Prop} (h : p := by (with_reducible repeat (first | apply Kd.R_alloc | apply Kd.R_drewN | apply Kd.R_drew)); exact (Kd.R_mono (Kd.R_far (p := ⟨gb259, 1, none⟩) (Kd.R_far (p := ⟨gb259, 0, none⟩) (Kd.R_types HO257.out BK259.out z37) (fun _ hk => hk.2) (.int .i64 t254)) (fun _ hk => hk.2) (.slice Ao36 t255.length co36)) (fun _ h_ => h_.1))) : p := h
theorem z81 {p : Prop} (h : p := by (with_reducible repeat (first | apply Kd.R_alloc | apply Kd.R_drewN | apply Kd.R_drew)); exact (Kd.R_mono (Kd.R_far (p := ⟨gb259, 1, none⟩) (Kd.R_far (p := ⟨gb259, 0, none⟩) (Kd.R_types HO253.out BK259.out z37) (fun _ hk => hk.2) (.int .i64 t254)) (fun _ hk => hk.2) (.slice Ao36 t255.length co36)) (fun _ h_ => h_.1))) : p := h
theorem z82 {p : Prop} (h : p := by (with_reducible repeat (first | apply Kd.R_alloc | apply Kd.R_drewN | apply Kd.R_drew)); exact (Kd.R_mono (Kd.R_far (p := ⟨gb259, 1, none⟩) (Kd.R_far (p := ⟨gb259, 0, none⟩) (Kd.R_types HO250.out BK259.out z37) (fun _ hk => hk.2) (.int .i64 t254)) (fun _ hk => hk.2) (.slice Ao36 t255.length co36)) (fun _ h_ => h_.1))) : p := h
theorem z83 {p : Prop} (h : p := by (with_reducible repeat (first | apply Kd.R_alloc | apply Kd.R_drewN | apply Kd.R_drew)); exact (Kd.R_mono (Kd.R_far (p := ⟨gb259, 1, none⟩) (Kd.R_far (p := ⟨gb259, 0, none⟩) (Kd.R_types HO247.out BK259.out z37) (fun _ hk => hk.2) (.int .i64 t254)) (fun _ hk => hk.2) (.slice Ao36 t255.length co36)) (fun _ h_ => h_.1))) : p := h
theorem z84 {p : Prop} (h : p := by (with_reducible repeat (first | apply Kd.R_alloc | apply Kd.R_drewN | apply Kd.R_drew)); exact (Kd.R_mono (Kd.R_far (p := ⟨gb259, 1, none⟩) (Kd.R_far (p := ⟨gb259, 0, none⟩) (Kd.R_types HO244.out BK259.out z37) (fun _ hk => hk.2) (.int .i64 t254)) (fun _ hk => hk.2) (.slice Ao36 t255.length co36)) (fun _ h_ => h_.1))) : p := h
theorem z85 {p : Prop} (h : p := by (with_reducible repeat (first | apply Kd.R_alloc | apply Kd.R_drewN | apply Kd.R_drew)); exact HO318.out) : p := h
theorem z86 {p : Prop} (h : p := by (with_reducible repeat (first | apply Kd.R_alloc | apply Kd.R_drewN | apply Kd.R_drew)); exact HO270.out) : p := h
theorem z87 {p : Prop} (h : p := by rw [hg]; exact Nat.ne_of_lt (blk_lt (g := gb259) (o := .cells #[.int .i64 t254, .slice Ao36 t255.length co36] 38 (0, 0)) z4)) : p := h
theorem z88 {p : Prop} (h : p := by rw [hg]; exact Nat.ne_of_gt (blk_lt (g := gb259) (o := .cells #[.int .i64 t254, .slice Ao36 t255.length co36] 38 (0, 0)) z4)) : p := h
theorem z89 {p : Prop} (h : p := by (with_reducible repeat (first | refine blk_drewN ?_ _ | refine blk_drew ?_ | refine blk_alloc ?_ _)); exact BK327.out) : p := h
theorem z90 {p : Prop} (h : p := by (try simp only [hl265001_94]); (with_reducible repeat (first | apply Kd.Q_alloc | apply Kd.Q_drewN | apply Kd.Q_drew)); exact Kd.Q_mono HO_280001.out (fun _ hk => ⟨hk.1.1.1.1.1.2.1, ⟨hk.1.1.1.1.1.2.2.1, ⟨hk.1.1.1.1.1.2.2.2, hk.2⟩⟩⟩)) : p := h
theorem z91 {p : Prop} (h : p := by (try simp only [hl265001_94]); (with_reducible repeat (first | apply Kd.Q_alloc | apply Kd.Q_drewN | apply Kd.Q_drew)); exact Kd.Q_mono HO_265001.out (fun _ hk => ⟨hk.1.1.1.1.1.2.1, ⟨hk.1.1.1.1.1.2.2.1, ⟨hk.1.1.1.1.1.2.2.2, hk.2⟩⟩⟩)) : p := h
theorem z92 {p : Prop} (h : p := by (try simp only [hl265001_94]); (with_reducible repeat (first | apply Kd.Q_alloc | apply Kd.Q_drewN | apply Kd.Q_drew)); exact Kd.Q_mono HO_260001.out (fun _ hk => ⟨hk.1.1.1.1.1.2.1, ⟨hk.1.1.1.1.1.2.2.1, ⟨hk.1.1.1.1.1.2.2.2, hk.2⟩⟩⟩)) : p := h
theorem z93 {p : Prop} (h : p := by (try simp only [hl265001_94]); (with_reducible repeat (first | apply Kd.Q_alloc | apply Kd.Q_drewN | apply Kd.Q_drew)); exact Kd.Q_mono HO_14.out (fun _ hk => ⟨hk.1.1.1.1.1.2.1, ⟨hk.1.1.1.1.1.2.2.1, ⟨hk.1.1.1.1.1.2.2.2, hk.2⟩⟩⟩)) : p := h
theorem z94 {p : Prop} (h : p := by (try simp only [hl265001_94]); (with_reducible repeat (first | apply Kd.Q_alloc | apply Kd.Q_drewN | apply Kd.Q_drew)); exact Kd.Q_mono HO325.out (fun _ hk => ⟨hk.1.1.1.1.1.1.2, ⟨hk.1.1.1.1.1.2, ⟨hk.1.1.1.1.2, hk.1.1.1.2⟩⟩⟩)) : p := h
theorem z95 {p : Prop} (h : p := by rw [hg]; exact (below_size z19)) : p := h
theorem z96 {p : Prop} (h : p := by (with_reducible repeat (first | apply Kd.Q_alloc | apply Kd.Q_drewN | apply Kd.Q_drew)); exact HO_328001.out) : p := h
theorem z97 {p : Prop} (h : p := by (with_reducible repeat (first | apply Kd.R_alloc | apply Kd.R_drewN | apply Kd.R_drew)); exact Kd.R_mono HO273.out (fun _ hk => ⟨hk.1.1.1.1.2, ⟨hk.1.2, ⟨hk.2, ⟨hk.1.1.1.2, ⟨hk.1.1.2, hk.1.1.1.1.1.1.1.1⟩⟩⟩⟩⟩)) : p := h
theorem z98 {p : Prop} (h : p := by (with_reducible repeat (first | apply Kd.R_alloc | apply Kd.R_drewN | apply Kd.R_drew)); exact Kd.R_mono HO257.out (fun _ hk => ⟨hk.1.1.1.1.1.1.1.1, ⟨hk.1.1.1.2, ⟨hk.1.1.2, ⟨hk.1.2, ⟨hk.1.1.1.1.2, hk.2⟩⟩⟩⟩⟩)) : p := h
theorem z99 {p : Prop} (h : p := by (with_reducible repeat (first | apply Kd.R_alloc | apply Kd.R_drewN | apply Kd.R_drew)); exact Kd.R_mono HO253.out (fun _ hk => ⟨hk.1.1.1.2, ⟨hk.1.1.2, ⟨hk.1.2, ⟨hk.1.1.1.1.1.1.1.1, ⟨hk.1.1.1.1.2, hk.2⟩⟩⟩⟩⟩)) : p := h
theorem z100 {p : Prop} (h : p := by (with_reducible repeat (first | apply Kd.Q_alloc | apply Kd.Q_drewN | apply Kd.Q_drew)); exact Kd.Q_mono HO277.out (fun _ hk => ⟨hk.1.1.1.1.2, ⟨hk.1.2, ⟨hk.2, ⟨hk.1.1.1.1.1.1.1.1, ⟨hk.1.1.1.2, hk.1.1.2⟩⟩⟩⟩⟩)) : p := h
theorem z101 {p : Prop} (h : p := by (with_reducible repeat (first | apply Kd.R_alloc | apply Kd.R_drewN | apply Kd.R_drew)); exact Kd.R_mono HO270.out (fun _ hk => ⟨hk.1.1.1.1.1.2, ⟨hk.1.1.2, ⟨hk.1.2, ⟨hk.1.1.1.1.2, ⟨hk.1.1.1.2, hk.2⟩⟩⟩⟩⟩)) : p := h
theorem z102 {p : Prop} (h : p := by (with_reducible repeat (first | apply Kd.R_alloc | apply Kd.R_drewN | apply Kd.R_drew)); exact Kd.R_mono HO267.out (fun _ hk => ⟨hk.1.1.1.1.1.2, ⟨hk.1.1.2, ⟨hk.1.2, ⟨hk.1.1.1.1.2, ⟨hk.1.1.1.2, hk.2⟩⟩⟩⟩⟩)) : p := h
theorem z103 {p : Prop} (h : p := by (with_reducible repeat (first | apply Kd.R_alloc | apply Kd.R_drewN | apply Kd.R_drew)); exact Kd.R_mono HO263.out (fun _ hk => ⟨hk.1.1.1.1.1.2, ⟨hk.1.1.1.2, ⟨hk.1.1.2, ⟨hk.1.2, ⟨hk.1.1.1.1.2, hk.2⟩⟩⟩⟩⟩)) : p := h
theorem z104 {p : Prop} (h : p := by have := HJ20.out; first | omega | exact Nat.le_refl _) : p := h
theorem z105 {p : Prop} (h : p := by (try simp only [hl265001_94]); (with_reducible repeat (first | refine blk_drewN ?_ _ | refine blk_drew ?_ | refine blk_alloc ?_ _)); exact BK327.out) : p := h
theorem z106 {p : Prop} (h : p := by (try simp only [hl265001_94]); (with_reducible repeat (first | refine blk_drewN ?_ _ | refine blk_drew ?_ | refine blk_alloc ?_ _)); exact BK279.out) : p := h
theorem z107 {p : Prop} (h : p := by (try simp only [hl265001_94]); (with_reducible repeat (first | refine blk_drewN ?_ _ | refine blk_drew ?_ | refine blk_alloc ?_ _)); exact BK264.out) : p := h
theorem z108 {p : Prop} (h : p := by (try simp only [hl265001_94]); (with_reducible repeat (first | refine blk_drewN ?_ _ | refine blk_drew ?_ | refine blk_alloc ?_ _)); exact BK259.out) : p := h
theorem z109 {p : Prop} (h : p := by (try simp only [hl265001_94]); (with_reducible repeat (first | refine blk_drewN ?_ _ | refine blk_drew ?_ | refine blk_alloc ?_ _)); exact BK239.out) : p := h
theorem z110 {p : Prop} (h : p := by have := HJ20.out; have := HJ94.out; first | omega | exact Nat.le_refl _) : p := h
theorem z111 {p : Prop} (h : p := by (with_reducible repeat (first | apply Kd.R_alloc | apply Kd.R_drewN | apply Kd.R_drew)); exact HO293.out) : p := h
theorem z112 {p : Prop} (h : p := by (with_reducible repeat (first | apply Kd.Q_alloc | apply Kd.Q_drewN | apply Kd.Q_drew)); exact HO_13.out) : p := h
theorem z113 {p : Prop} (h : p := by (with_reducible repeat (first | apply Kd.Q_alloc | apply Kd.Q_drewN | apply Kd.Q_drew)); exact HO_12.out) : p := h

/-! ### laws_FnExactRunOrders: function 12 -/
mutual
def laws_FnExactRunOrders.j0 : Nat → List Int → List Int → List Int → Bool → List Int → List Int → List Int → Bool → Bool → Int → List Int → Int → List Int → Int → List Int → Int → List Int → Option (Bool)
 | 0, _, _, _, _, _, _, _, _, _, _, _, _, _, _, _, _, _ => none
 | k + 1, x1, x2, x8, x10, x12, x13, x14, x16, x73, x240000, x240001, x260000, x260001, x265000, x265001, x280000, x280001 => if x73 = true then (some false) else ((laws_toFlow.f k x240000 x240001).bind fun bt282 => ((laws_eqFlow.f k x265000 x265001 bt282.1 bt282.2).bind fun t286 => (if t286 = true then ((laws_toIntS.f k x1).bind fun t287 => ((laws_eqIntS.f k x12 t287).bind fun t290 => (if t290 = true then ((laws_toIntS.f k x2).bind fun t291 => ((laws_eqIntS.f k x13 t291).bind fun t294 => (if t294 = true then ((laws_markFlow.f k x265000 x265001 1).bind fun bt295 => ((laws_markIntS.f k x12 bt295.1).bind fun bt297 => ((laws_markIntS.f k x13 bt297.1).bind fun bt299 => (if bt299.1 < 0 then (laws_FnExactRunOrders.j1 k x1 x2 x8 x10 x14 true x240000 x240001 x260000 x260001 x280000 x280001) else ((laws_eqIntS.f k x14 x8).bind fun t301 => (if t301 = true then ((laws_eqFlow.f k x280000 x280001 x260000 x260001).bind fun t302 => (if t302 = true then (laws_FnExactRunOrders.j1 k x1 x2 x8 x10 x14 (x16 != x10) x240000 x240001 x260000 x260001 x280000 x280001) else (laws_FnExactRunOrders.j1 k x1 x2 x8 x10 x14 true x240000 x240001 x260000 x260001 x280000 x280001))) else (laws_FnExactRunOrders.j1 k x1 x2 x8 x10 x14 true x240000 x240001 x260000 x260001 x280000 x280001))))))) else (some false)))) else (some false)))) else (some false))))
def laws_FnExactRunOrders.j1 : Nat → List Int → List Int → List Int → Bool → List Int → Bool → Int → List Int → Int → List Int → Int → List Int → Option (Bool)
 | 0, _, _, _, _, _, _, _, _, _, _, _, _ => none
 | k + 1, x1, x2, x8, x10, x14, x116, x240000, x240001, x260000, x260001, x280000, x280001 => if x116 = true then (some false) else ((laws_markIntS.f k x14 1).bind fun bt303 => ((laws_markFlow.f k x280000 x280001 bt303.1).bind fun bt305 => ((laws_heldIntS.f k bt303.2 1).bind fun t307 => (if t307 < 0 then (some false) else ((laws_heldFlow.f k x280000 bt305.2 t307).bind fun t308 => (if t308 < 0 then (some false) else (if t308 = bt305.1 then ((laws_toFlow.f k x240000 x240001).bind fun bt309 => ((laws_toIntS.f k x1).bind fun t313 => ((laws_toIntS.f k x2).bind fun t316 => ((impl_RunOrders.f k bt309.1 bt309.2 t313 t316).bind fun bt319 => ((laws_eqIntS.f k bt319.1 x8).bind fun t328 => (if t328 = true then ((laws_eqFlow.f k bt319.2.1 bt319.2.2.1 x260000 x260001).bind fun t329 => (if t329 = true then (laws_FnExactRunOrders.j2 k bt303.2 bt305.1 (bt319.2.2.2 != x10) x280000 bt305.2) else (laws_FnExactRunOrders.j2 k bt303.2 bt305.1 true x280000 bt305.2))) else (laws_FnExactRunOrders.j2 k bt303.2 bt305.1 true x280000 bt305.2))))))) else (some false))))))))
def laws_FnExactRunOrders.j2 : Nat → List Int → Int → Bool → Int → List Int → Option (Bool)
 | 0, _, _, _, _, _ => none
 | k + 1, x14, x18, x161, x280000, x280001 => if x161 = true then (some false) else ((laws_heldIntS.f k x14 1).bind fun t330 => (if t330 < 0 then (some false) else ((laws_heldFlow.f k x280000 x280001 t330).bind fun t331 => (if t331 < 0 then (some false) else (if t331 = x18 then (some true) else (some false))))))
end
def laws_FnExactRunOrders.f (k : Nat) (a0_0 : Int) (l0_1 : List Int) (l1 : List Int) (l2 : List Int) : Option (Bool) := if (l1.length : Int) > 1048576 then (some true) else (if (l2.length : Int) > 1048576 then (some true) else ((laws_szFlow.f a0_0 l0_1 1048576).bind fun t240 => (if t240 < 0 then (some true) else ((laws_toFlow.f k a0_0 l0_1).bind fun bt241 => ((laws_toIntS.f k l1).bind fun t245 => ((laws_toIntS.f k l2).bind fun t248 => ((spec_RunOrders.f k bt241.1 bt241.2 t245 t248).bind fun bt251 => ((laws_toFlow.f k a0_0 l0_1).bind fun bt260 => ((laws_toIntS.f k l1).bind fun t265 => ((laws_toIntS.f k l2).bind fun t268 => ((impl_RunOrders.f k bt260.1 bt260.2 t265 t268).bind fun bt271 => ((laws_eqIntS.f k bt271.1 bt251.1).bind fun t280 => (if t280 = true then ((laws_eqFlow.f k bt271.2.1 bt271.2.2.1 bt251.2.1 bt251.2.2.1).bind fun t281 => (if t281 = true then (laws_FnExactRunOrders.j0 k l1 l2 bt251.1 bt251.2.2.2 t265 t268 bt271.1 bt271.2.2.2 (bt271.2.2.2 != bt251.2.2.2) a0_0 l0_1 bt251.2.1 bt251.2.2.1 bt260.1 bt260.2 bt271.2.1 bt271.2.2.1) else (laws_FnExactRunOrders.j0 k l1 l2 bt251.1 bt251.2.2.2 t265 t268 bt271.1 bt271.2.2.2 true a0_0 l0_1 bt251.2.1 bt251.2.2.1 bt260.1 bt260.2 bt271.2.1 bt271.2.2.1))) else (laws_FnExactRunOrders.j0 k l1 l2 bt251.1 bt251.2.2.2 t265 t268 bt271.1 bt271.2.2.2 true a0_0 l0_1 bt251.2.1 bt251.2.2.1 bt260.1 bt260.2 bt271.2.1 bt271.2.2.1))))))))))))))
theorem laws_FnExactRunOrders.mono_l : ∀ k, (∀ y0 y1 y2 y3 y4 y5 y6 y7 y8 y9 y10 y11 y12 y13 y14 y15 y16, LeO (laws_FnExactRunOrders.j0 k y0 y1 y2 y3 y4 y5 y6 y7 y8 y9 y10 y11 y12 y13 y14 y15 y16) (laws_FnExactRunOrders.j0 (k + 1) y0 y1 y2 y3 y4 y5 y6 y7 y8 y9 y10 y11 y12 y13 y14 y15 y16)) ∧ (∀ y0 y1 y2 y3 y4 y5 y6 y7 y8 y9 y10 y11, LeO (laws_FnExactRunOrders.j1 k y0 y1 y2 y3 y4 y5 y6 y7 y8 y9 y10 y11) (laws_FnExactRunOrders.j1 (k + 1) y0 y1 y2 y3 y4 y5 y6 y7 y8 y9 y10 y11)) ∧ (∀ y0 y1 y2 y3 y4, LeO (laws_FnExactRunOrders.j2 k y0 y1 y2 y3 y4) (laws_FnExactRunOrders.j2 (k + 1) y0 y1 y2 y3 y4))
 | 0 => ⟨fun _ _ _ _ _ _ _ _ _ _ _ _ _ _ _ _ _ r h => by simp [laws_FnExactRunOrders.j0] at h, fun _ _ _ _ _ _ _ _ _ _ _ _ r h => by simp [laws_FnExactRunOrders.j1] at h, fun _ _ _ _ _ r h => by simp [laws_FnExactRunOrders.j2] at h⟩
 | k + 1 => by
  obtain ⟨ih0, ih1, ih2⟩ := laws_FnExactRunOrders.mono_l k
  refine ⟨?_, ?_, ?_⟩
  ·intro y0 y1 y2 y3 y4 y5 y6 y7 y8 y9 y10 y11 y12 y13 y14 y15 y16
   unfold laws_FnExactRunOrders.j0
   repeat' first
   | (with_reducible exact ih0 _ _ _ _ _ _ _ _ _ _ _ _ _ _ _ _ _)
   | (with_reducible exact ih1 _ _ _ _ _ _ _ _ _ _ _ _)
   | (with_reducible exact ih2 _ _ _ _ _)
   | (with_reducible exact impl_RunOrders.mono _ _ _ _ _)
   | (with_reducible exact laws_eqFlow.mono _ _ _ _ _)
   | (with_reducible exact laws_eqIntS.mono _ _ _)
   | (with_reducible exact laws_heldFlow.mono _ _ _ _)
   | (with_reducible exact laws_heldIntS.mono _ _ _)
   | (with_reducible exact laws_markFlow.mono _ _ _ _)
   | (with_reducible exact laws_markIntS.mono _ _ _)
   | (with_reducible exact laws_toFlow.mono _ _ _)
   | (with_reducible exact laws_toIntS.mono _ _)
   | (with_reducible exact spec_RunOrders.mono _ _ _ _ _)
   | (with_reducible exact LeO.refl _)
   | (with_reducible exact LeO.none _)
   | (with_reducible refine LeO.ite ?_ ?_)
   | (with_reducible refine LeO.bind ?_ (fun _ => ?_))
   | exact ih0 _ _ _ _ _ _ _ _ _ _ _ _ _ _ _ _ _
   | exact ih1 _ _ _ _ _ _ _ _ _ _ _ _
   | exact ih2 _ _ _ _ _
   | exact impl_RunOrders.mono _ _ _ _ _
   | exact laws_eqFlow.mono _ _ _ _ _
   | exact laws_eqIntS.mono _ _ _
   | exact laws_heldFlow.mono _ _ _ _
   | exact laws_heldIntS.mono _ _ _
   | exact laws_markFlow.mono _ _ _ _
   | exact laws_markIntS.mono _ _ _
   | exact laws_toFlow.mono _ _ _
   | exact laws_toIntS.mono _ _
   | exact spec_RunOrders.mono _ _ _ _ _
   | exact LeO.none _
   | refine LeO.ite ?_ ?_
   | refine LeO.bind ?_ (fun _ => ?_)
  ·intro y0 y1 y2 y3 y4 y5 y6 y7 y8 y9 y10 y11
   unfold laws_FnExactRunOrders.j1
   repeat' first
   | (with_reducible exact ih0 _ _ _ _ _ _ _ _ _ _ _ _ _ _ _ _ _)
   | (with_reducible exact ih1 _ _ _ _ _ _ _ _ _ _ _ _)
   | (with_reducible exact ih2 _ _ _ _ _)
   | (with_reducible exact impl_RunOrders.mono _ _ _ _ _)
   | (with_reducible exact laws_eqFlow.mono _ _ _ _ _)
   | (with_reducible exact laws_eqIntS.mono _ _ _)
   | (with_reducible exact laws_heldFlow.mono _ _ _ _)
   | (with_reducible exact laws_heldIntS.mono _ _ _)
   | (with_reducible exact laws_markFlow.mono _ _ _ _)
   | (with_reducible exact laws_markIntS.mono _ _ _)
   | (with_reducible exact laws_toFlow.mono _ _ _)
   | (with_reducible exact laws_toIntS.mono _ _)
   | (with_reducible exact spec_RunOrders.mono _ _ _ _ _)
   | (with_reducible exact LeO.refl _)
   | (with_reducible exact LeO.none _)
   | (with_reducible refine LeO.ite ?_ ?_)
   | (with_reducible refine LeO.bind ?_ (fun _ => ?_))
   | exact ih0 _ _ _ _ _ _ _ _ _ _ _ _ _ _ _ _ _
   | exact ih1 _ _ _ _ _ _ _ _ _ _ _ _
   | exact ih2 _ _ _ _ _
   | exact impl_RunOrders.mono _ _ _ _ _
   | exact laws_eqFlow.mono _ _ _ _ _
   | exact laws_eqIntS.mono _ _ _
   | exact laws_heldFlow.mono _ _ _ _
   | exact laws_heldIntS.mono _ _ _
   | exact laws_markFlow.mono _ _ _ _
   | exact laws_markIntS.mono _ _ _
   | exact laws_toFlow.mono _ _ _
   | exact laws_toIntS.mono _ _
   | exact spec_RunOrders.mono _ _ _ _ _
   | exact LeO.none _
   | refine LeO.ite ?_ ?_
   | refine LeO.bind ?_ (fun _ => ?_)
  ·intro y0 y1 y2 y3 y4
   unfold laws_FnExactRunOrders.j2
   repeat' first
   | (with_reducible exact ih0 _ _ _ _ _ _ _ _ _ _ _ _ _ _ _ _ _)
   | (with_reducible exact ih1 _ _ _ _ _ _ _ _ _ _ _ _)
   | (with_reducible exact ih2 _ _ _ _ _)
   | (with_reducible exact impl_RunOrders.mono _ _ _ _ _)
   | (with_reducible exact laws_eqFlow.mono _ _ _ _ _)
   | (with_reducible exact laws_eqIntS.mono _ _ _)
   | (with_reducible exact laws_heldFlow.mono _ _ _ _)
   | (with_reducible exact laws_heldIntS.mono _ _ _)
   | (with_reducible exact laws_markFlow.mono _ _ _ _)
   | (with_reducible exact laws_markIntS.mono _ _ _)
   | (with_reducible exact laws_toFlow.mono _ _ _)
   | (with_reducible exact laws_toIntS.mono _ _)
   | (with_reducible exact spec_RunOrders.mono _ _ _ _ _)
   | (with_reducible exact LeO.refl _)
   | (with_reducible exact LeO.none _)
   | (with_reducible refine LeO.ite ?_ ?_)
   | (with_reducible refine LeO.bind ?_ (fun _ => ?_))
   | exact ih0 _ _ _ _ _ _ _ _ _ _ _ _ _ _ _ _ _
   | exact ih1 _ _ _ _ _ _ _ _ _ _ _ _
   | exact ih2 _ _ _ _ _
   | exact impl_RunOrders.mono _ _ _ _ _
   | exact laws_eqFlow.mono _ _ _ _ _
   | exact laws_eqIntS.mono _ _ _
   | exact laws_heldFlow.mono _ _ _ _
   | exact laws_heldIntS.mono _ _ _
   | exact laws_markFlow.mono _ _ _ _
   | exact laws_markIntS.mono _ _ _
   | exact laws_toFlow.mono _ _ _
   | exact laws_toIntS.mono _ _
   | exact spec_RunOrders.mono _ _ _ _ _
   | exact LeO.none _
   | refine LeO.ite ?_ ?_
   | refine LeO.bind ?_ (fun _ => ?_)
theorem laws_FnExactRunOrders.mono : ∀ a0 a1 a2 a3 k, LeO (laws_FnExactRunOrders.f k a0 a1 a2 a3) (laws_FnExactRunOrders.f (k + 1) a0 a1 a2 a3) := by
 intro a0 a1 a2 a3 k
 obtain ⟨ih0, ih1, ih2⟩ := laws_FnExactRunOrders.mono_l k
 unfold laws_FnExactRunOrders.f
 repeat' first
   | (with_reducible exact ih0 _ _ _ _ _ _ _ _ _ _ _ _ _ _ _ _ _)
   | (with_reducible exact ih1 _ _ _ _ _ _ _ _ _ _ _ _)
   | (with_reducible exact ih2 _ _ _ _ _)
   | (with_reducible exact impl_RunOrders.mono _ _ _ _ _)
   | (with_reducible exact laws_eqFlow.mono _ _ _ _ _)
   | (with_reducible exact laws_eqIntS.mono _ _ _)
   | (with_reducible exact laws_heldFlow.mono _ _ _ _)
   | (with_reducible exact laws_heldIntS.mono _ _ _)
   | (with_reducible exact laws_markFlow.mono _ _ _ _)
   | (with_reducible exact laws_markIntS.mono _ _ _)
   | (with_reducible exact laws_toFlow.mono _ _ _)
   | (with_reducible exact laws_toIntS.mono _ _)
   | (with_reducible exact spec_RunOrders.mono _ _ _ _ _)
   | (with_reducible exact LeO.refl _)
   | (with_reducible exact LeO.none _)
   | (with_reducible refine LeO.ite ?_ ?_)
   | (with_reducible refine LeO.bind ?_ (fun _ => ?_))
   | exact ih0 _ _ _ _ _ _ _ _ _ _ _ _ _ _ _ _ _
   | exact ih1 _ _ _ _ _ _ _ _ _ _ _ _
   | exact ih2 _ _ _ _ _
   | exact impl_RunOrders.mono _ _ _ _ _
   | exact laws_eqFlow.mono _ _ _ _ _
   | exact laws_eqIntS.mono _ _ _
   | exact laws_heldFlow.mono _ _ _ _
   | exact laws_heldIntS.mono _ _ _
   | exact laws_markFlow.mono _ _ _ _
   | exact laws_markIntS.mono _ _ _
   | exact laws_toFlow.mono _ _ _
   | exact laws_toIntS.mono _ _
   | exact spec_RunOrders.mono _ _ _ _ _
   | exact LeO.none _
   | refine LeO.ite ?_ ?_
   | refine LeO.bind ?_ (fun _ => ?_)
set_option maxHeartbeats 8000000 in
set_option maxRecDepth 100000 in
theorem laws_FnExactRunOrders.calls (k : Nat) (a0_0 : Int) (A0_1 : Option Addr) (c0_1 : Nat) (l0_1 : List Int) (A1 : Option Addr) (c1 : Nat) (l1 : List Int) (A2 : Option Addr) (c2 : Nat) (l2 : List Int) (r : Bool) (w : World) (hr0_1 : Kd.C (Kd.int .i64) w A0_1 l0_1.length l0_1) (hc0_1 : l0_1.length ≤ c0_1) (hr1 : Kd.C (Kd.int .i64) w A1 l1.length l1) (hc1 : l1.length ≤ c1) (hr2 : Kd.C (Kd.int .i64) w A2 l2.length l2) (hc2 : l2.length ≤ c2) (h : laws_FnExactRunOrders.f k a0_0 l0_1 l1 l2 = some r) :
  Calls Try.prog 12 #[.agg #[.int .i64 a0_0, .slice A0_1 l0_1.length c0_1], .slice A1 l1.length c1, .slice A2 l2.length c2] w fun e w' => e = .returned (.bool r) ∧ Below w.heap.size w w' := by
 have hu35 := Try.underlying35
 have hu38 := Try.underlying38
 have HR0_1 := zA hr0_1
 have HC0_1 := zA hc0_1
 clear hr0_1 hc0_1
 have HR1 := zA hr1
 have HC1 := zA hc1
 clear hr1 hc1
 have HR2 := zA hr2
 have HC2 := zA hc2
 clear hr2 hc2
 have HB := zA (Below.refl w.heap.size w)
 have H : (if (l1.length : Int) > 1048576 then (some true) else (if (l2.length : Int) > 1048576 then (some true) else ((laws_szFlow.f a0_0 l0_1 1048576).bind fun t240 => (if t240 < 0 then (some true) else ((laws_toFlow.f k a0_0 l0_1).bind fun bt241 => ((laws_toIntS.f k l1).bind fun t245 => ((laws_toIntS.f k l2).bind fun t248 => ((spec_RunOrders.f k bt241.1 bt241.2 t245 t248).bind fun bt251 => ((laws_toFlow.f k a0_0 l0_1).bind fun bt260 => ((laws_toIntS.f k l1).bind fun t265 => ((laws_toIntS.f k l2).bind fun t268 => ((impl_RunOrders.f k bt260.1 bt260.2 t265 t268).bind fun bt271 => ((laws_eqIntS.f k bt271.1 bt251.1).bind fun t280 => (if t280 = true then ((laws_eqFlow.f k bt271.2.1 bt271.2.2.1 bt251.2.1 bt251.2.2.1).bind fun t281 => (if t281 = true then (laws_FnExactRunOrders.j0 k l1 l2 bt251.1 bt251.2.2.2 t265 t268 bt271.1 bt271.2.2.2 (bt271.2.2.2 != bt251.2.2.2) a0_0 l0_1 bt251.2.1 bt251.2.2.1 bt260.1 bt260.2 bt271.2.1 bt271.2.2.1) else (laws_FnExactRunOrders.j0 k l1 l2 bt251.1 bt251.2.2.2 t265 t268 bt271.1 bt271.2.2.2 true a0_0 l0_1 bt251.2.1 bt251.2.2.1 bt260.1 bt260.2 bt271.2.1 bt271.2.2.1))) else (laws_FnExactRunOrders.j0 k l1 l2 bt251.1 bt251.2.2.2 t265 t268 bt271.1 bt271.2.2.2 true a0_0 l0_1 bt251.2.1 bt251.2.2.1 bt260.1 bt260.2 bt271.2.1 bt271.2.2.1))))))))))))))) = some r := h
 clear h
 by_cases c4 : (l1.length : Int) > 1048576
 ·rw [if_pos c4] at H
  have c4b0 : decide (1048576 < (l1.length : Int)) = true := decide_eq_true c4
  have c4b1 : decide (1048576 < l1.length) = true := decide_eq_true (by omega)
  clear c4
  obtain rfl := Option.some.inj H
  go_enter Try.func12, Try.ntmps12
  go_wp2_with (first | ((with_reducible refine gate_dst (N := 3) rfl ?_); refine box_event ?hg (N := 3) ?hd (cs := #[.int .i64 a0_0, .slice A0_1 l0_1.length c0_1]) (t := 35) ?hr ?_; (case hd => rfl); (case hg => rfl); (case hr => first | (go_simp; done) | (go_simp; rfl)); intro gb239 hg w5 hbox hb; have n0_ := zA (below_step z19 hb); have n1_ := zA (hbox); have n2_ := zA ((z95 : w.heap.size ≤ gb239)); have n3_ := zA ((z95 : w.heap.size ≤ gb239)); clear HB; revert n0_ n1_ n2_ n3_; intro HB BK239 GW239 GE239; clear hb hbox hg))
  go_ret
  exact ⟨z20, z13⟩
 ·rw [if_neg c4] at H
  have c4b0 : decide (1048576 < (l1.length : Int)) = false := decide_eq_false c4
  have c4b1 : decide (1048576 < l1.length) = false := decide_eq_false (by omega)
  clear c4
  by_cases c6 : (l2.length : Int) > 1048576
  ·rw [if_pos c6] at H
   have c6b0 : decide (1048576 < (l2.length : Int)) = true := decide_eq_true c6
   have c6b1 : decide (1048576 < l2.length) = true := decide_eq_true (by omega)
   clear c6
   obtain rfl := Option.some.inj H
   go_enter Try.func12, Try.ntmps12
   go_wp2_with (first | ((with_reducible refine gate_dst (N := 3) rfl ?_); refine box_event ?hg (N := 3) ?hd (cs := #[.int .i64 a0_0, .slice A0_1 l0_1.length c0_1]) (t := 35) ?hr ?_; (case hd => rfl); (case hg => rfl); (case hr => first | (go_simp; done) | (go_simp; rfl)); intro gb239 hg w7 hbox hb; have n0_ := zA (below_step z19 hb); have n1_ := zA (hbox); have n2_ := zA ((z95 : w.heap.size ≤ gb239)); have n3_ := zA ((z95 : w.heap.size ≤ gb239)); clear HB; revert n0_ n1_ n2_ n3_; intro HB BK239 GW239 GE239; clear hb hbox hg))
   go_ret
   exact ⟨z20, z13⟩
  ·rw [if_neg c6] at H
   have c6b0 : decide (1048576 < (l2.length : Int)) = false := decide_eq_false c6
   have c6b1 : decide (1048576 < l2.length) = false := decide_eq_false (by omega)
   clear c6
   replace H := Option.bind_eq_some_iff.mp H
   obtain ⟨t240, A80, H⟩ := H
   (try dsimp only at H)
   have A8 := zA A80
   clear A80
   by_cases c9 : t240 < 0
   ·rw [if_pos c9] at H
    have c9b0 : decide (t240 < 0) = true := decide_eq_true c9
    clear c9
    obtain rfl := Option.some.inj H
    go_enter Try.func12, Try.ntmps12
    go_wp2_with (first | ((with_reducible refine gate_dst (N := 3) rfl ?_); refine box_event ?hg (N := 3) ?hd (cs := #[.int .i64 a0_0, .slice A0_1 l0_1.length c0_1]) (t := 35) ?hr ?_; (case hd => rfl); (case hg => rfl); (case hr => first | (go_simp; done) | (go_simp; rfl)); intro gb239 hg w10 hbox hb; have n0_ := zA (below_step z19 hb); have n1_ := zA (hbox); have n2_ := zA ((z95 : w.heap.size ≤ gb239)); have n3_ := zA ((z95 : w.heap.size ≤ gb239)); clear HB; revert n0_ n1_ n2_ n3_; intro HB BK239 GW239 GE239; clear hb hbox hg; have hcz11_0 : w10.cell? ⟨gb239, 0, none⟩ = some (.int .i64 a0_0) := (blk_cell BK239.out 0).trans rfl; have hcz11_1 : w10.cell? ⟨gb239, 1, none⟩ = some (.slice A0_1 l0_1.length c0_1) := (blk_cell BK239.out 1).trans rfl; have hfz11_0 := blk_frozen BK239.out 0; have hfz11_1 := blk_frozen BK239.out 1) | ((with_reducible refine gate_callee (f := 22) rfl ?_); refine goesL_ (some 31) rfl rfl Try.func22 z28 rfl #[.agg #[.int .i64 a0_0, .slice A0_1 l0_1.length c0_1], .int .i64 1048576] rfl z2 ?_; (with_reducible refine (laws_szFlow.calls a0_0 _ _ l0_1 1048576 t240 _ ?side1 ?side2 A8.out).mono ?_); (case side1 => have zh := (Kd.C_below HR0_1.out HB.out); exact zC); (case side2 => exact HC0_1.out); rintro e w12 ⟨rfl, hb⟩; refine ⟨_, rfl, ?_⟩; have n0_ := zA (blk_below (g := gb239) (o := .cells #[.int .i64 a0_0, .slice A0_1 l0_1.length c0_1] 35 (0, 0)) z3 hb); have n1_ := zA (below_step z13 hb); clear BK239 HB; revert n0_ n1_; intro BK239 HB; (try clear hb); (try clear hb2); (try clear hk); (try clear hi)))
    go_ret
    exact ⟨z20, z13⟩
   ·rw [if_neg c9] at H
    have c9b0 : decide (t240 < 0) = false := decide_eq_false c9
    clear c9
    replace H := Option.bind_eq_some_iff.mp H
    obtain ⟨⟨t241, t242⟩, A130, H⟩ := H
    (try dsimp only at H)
    have A13 := zA A130
    clear A130
    replace H := Option.bind_eq_some_iff.mp H
    obtain ⟨t245, A140, H⟩ := H
    (try dsimp only at H)
    have A14 := zA A140
    clear A140
    replace H := Option.bind_eq_some_iff.mp H
    obtain ⟨t248, A150, H⟩ := H
    (try dsimp only at H)
    have A15 := zA A150
    clear A150
    replace H := Option.bind_eq_some_iff.mp H
    obtain ⟨⟨t251, t254, t255, t258⟩, A160, H⟩ := H
    (try dsimp only at H)
    have A16 := zA A160
    clear A160
    replace H := Option.bind_eq_some_iff.mp H
    obtain ⟨⟨t260, t261⟩, A170, H⟩ := H
    (try dsimp only at H)
    have A17 := zA A170
    clear A170
    replace H := Option.bind_eq_some_iff.mp H
    obtain ⟨t265, A180, H⟩ := H
    (try dsimp only at H)
    have A18 := zA A180
    clear A180
    replace H := Option.bind_eq_some_iff.mp H
    obtain ⟨t268, A190, H⟩ := H
    (try dsimp only at H)
    have A19 := zA A190
    clear A190
    replace H := Option.bind_eq_some_iff.mp H
    obtain ⟨⟨t271, t274, t275, t278⟩, A200, H⟩ := H
    (try dsimp only at H)
    have A20 := zA A200
    clear A200
    have HC21 := zA H
    clear H
    go_enter Try.func12, Try.ntmps12
    go_upto_region 14 with (first | ((with_reducible refine gate_dst (N := 3) rfl ?_); refine box_event ?hg (N := 3) ?hd (cs := #[.int .i64 a0_0, .slice A0_1 l0_1.length c0_1]) (t := 35) ?hr ?_; (case hd => rfl); (case hg => rfl); (case hr => first | (go_simp; done) | (go_simp; rfl)); intro gb239 hg w22 hbox hb; have n0_ := zA (below_step z19 hb); have n1_ := zA (hbox); have n2_ := zA ((z95 : w.heap.size ≤ gb239)); have n3_ := zA ((z95 : w.heap.size ≤ gb239)); clear HB; revert n0_ n1_ n2_ n3_; intro HB BK239 GW239 GE239; clear hb hbox hg; have hcz23_0 : w22.cell? ⟨gb239, 0, none⟩ = some (.int .i64 a0_0) := (blk_cell BK239.out 0).trans rfl; have hcz23_1 : w22.cell? ⟨gb239, 1, none⟩ = some (.slice A0_1 l0_1.length c0_1) := (blk_cell BK239.out 1).trans rfl; have hfz23_0 := blk_frozen BK239.out 0; have hfz23_1 := blk_frozen BK239.out 1) | ((with_reducible refine gate_callee (f := 22) rfl ?_); refine goesL_ (some 31) rfl rfl Try.func22 z28 rfl #[.agg #[.int .i64 a0_0, .slice A0_1 l0_1.length c0_1], .int .i64 1048576] rfl z2 ?_; (with_reducible refine (laws_szFlow.calls a0_0 _ _ l0_1 1048576 t240 _ ?side1 ?side2 A8.out).mono ?_); (case side1 => have zh := (Kd.C_below HR0_1.out HB.out); exact zC); (case side2 => exact HC0_1.out); rintro e w24 ⟨rfl, hb⟩; refine ⟨_, rfl, ?_⟩; have n0_ := zA (blk_below (g := gb239) (o := .cells #[.int .i64 a0_0, .slice A0_1 l0_1.length c0_1] 35 (0, 0)) z3 hb); have n1_ := zA (below_step z13 hb); clear BK239 HB; revert n0_ n1_; intro BK239 HB; (try clear hb); (try clear hb2); (try clear hk); (try clear hi); have hcz25_0 : w24.cell? ⟨gb239, 0, none⟩ = some (.int .i64 a0_0) := (blk_cell BK239.out 0).trans rfl; have hcz25_1 : w24.cell? ⟨gb239, 1, none⟩ = some (.slice A0_1 l0_1.length c0_1) := (blk_cell BK239.out 1).trans rfl; have hfz25_0 := blk_frozen BK239.out 0; have hfz25_1 := blk_frozen BK239.out 1) | ((with_reducible refine gate_callee (f := 24) rfl ?_); refine goesL_ (some 36) rfl rfl Try.func24 z28 rfl #[.agg #[.int .i64 a0_0, .slice A0_1 l0_1.length c0_1]] rfl z2 ?_; (with_reducible refine (laws_toFlow.calls k a0_0 _ _ l0_1 t241 t242 _ ?side1 ?side2 A13.out).mono ?_); (case side1 => have zh := (Kd.C_below HR0_1.out HB.out); exact zC); (case side2 => exact HC0_1.out); rintro e w26 ⟨v243, rfl, ho0, hb⟩; refine ⟨_, rfl, ?_⟩; have n0_ := zA (Kd.R_lower ho0 (below_size z13)); have n1_ := zA (blk_below (g := gb239) (o := .cells #[.int .i64 a0_0, .slice A0_1 l0_1.length c0_1] 35 (0, 0)) z3 hb); have n2_ := zA (below_step z13 hb); clear BK239 HB; revert n0_ n1_ n2_; intro HO244 BK239 HB; (try clear hb); (try clear hb2); (try clear hk); (try clear hi); (try clear ho0)) | ((with_reducible refine gate_callee (f := 19) rfl ?_); refine goesL_ (some 38) rfl rfl Try.func19 z28 rfl #[.slice A1 l1.length c1] rfl z2 ?_; (with_reducible refine (laws_toIntS.calls k _ _ l1 t245 _ ?side1 ?side2 A14.out).mono ?_); (case side1 => have zh := (Kd.C_below HR1.out HB.out); exact zC); (case side2 => exact HC1.out); rintro e w27 ⟨v246, rfl, ho0, hb⟩; refine ⟨_, rfl, ?_⟩; have n0_ := zA (Kd.R_elder' z18 (Kd.R_base ho0) hb); have n1_ := zA (Kd.R_lower (Kd.R_new' ho0 (Kd.R_lt z18)) (below_size z13)); have n2_ := zA (blk_below (g := gb239) (o := .cells #[.int .i64 a0_0, .slice A0_1 l0_1.length c0_1] 35 (0, 0)) z3 hb); have n3_ := zA (below_step z13 hb); clear HO244 BK239 HB; revert n0_ n1_ n2_ n3_; intro HO244 HO247 BK239 HB; (try clear hb); (try clear hb2); (try clear hk); (try clear hi); (try clear ho0)) | ((with_reducible refine gate_callee (f := 19) rfl ?_); refine goesL_ (some 40) rfl rfl Try.func19 z28 rfl #[.slice A2 l2.length c2] rfl z2 ?_; (with_reducible refine (laws_toIntS.calls k _ _ l2 t248 _ ?side1 ?side2 A15.out).mono ?_); (case side1 => have zh := (Kd.C_below HR2.out HB.out); exact zC); (case side2 => exact HC2.out); rintro e w28 ⟨v249, rfl, ho0, hb⟩; refine ⟨_, rfl, ?_⟩; have n0_ := zA (Kd.R_elder' z18 (Kd.R_base ho0) hb); have n1_ := zA (Kd.R_elder' z25 (Kd.R_base ho0) hb); have n2_ := zA (Kd.R_lower (Kd.R_new' (Kd.R_new' ho0 (Kd.R_lt z18)) (Kd.R_lt z25)) (below_size z13)); have n3_ := zA (blk_below (g := gb239) (o := .cells #[.int .i64 a0_0, .slice A0_1 l0_1.length c0_1] 35 (0, 0)) z3 hb); have n4_ := zA (below_step z13 hb); clear HO244 HO247 BK239 HB; revert n0_ n1_ n2_ n3_ n4_; intro HO244 HO247 HO250 BK239 HB; (try clear hb); (try clear hb2); (try clear hk); (try clear hi); (try clear ho0); obtain ⟨Ao29, co29, eo29⟩ := Kd.R_slice HO244.out; subst eo29; obtain ⟨Ao30, co30, eo30⟩ := Kd.R_slice HO247.out; subst eo30; obtain ⟨Ao31, co31, eo31⟩ := Kd.R_slice HO250.out; subst eo31) | ((with_reducible refine gate_callee (f := 50) rfl ?_); refine goesL_ (some 41) rfl rfl Try.func50 z28 rfl #[.agg #[.int .i64 t241, .slice Ao29 t242.length co29], .slice Ao30 t245.length co30, .slice Ao31 t248.length co31] rfl z2 ?_; (with_reducible refine (spec_RunOrders.calls k t241 _ _ t242 _ _ t245 _ _ t248 t251 t254 t255 t258 _ ?side1 ?side2 ?side3 ?side4 ?side5 ?side6 A16.out).mono ?_); (case side1 => have zh := (Kd.R_reads' HO244.out).2.2; exact zC); (case side2 => exact (Kd.R_reads' HO244.out).2.1); (case side3 => have zh := (Kd.R_reads' HO247.out).2.2; exact zC); (case side4 => exact (Kd.R_reads' HO247.out).2.1); (case side5 => have zh := (Kd.R_reads' HO250.out).2.2; exact zC); (case side6 => exact (Kd.R_reads' HO250.out).2.1); rintro e w32 ⟨v252, v256, rfl, ho0, ho1, hb⟩; refine ⟨_, rfl, ?_⟩; have n0_ := zA (Kd.R_mono (Kd.R_told (Kd.R_told (Kd.R_old z18 hb) (Kd.R_base ho0)) (Kd.R_base ho1)) (fun _ h_ => h_.1)); have n1_ := zA (Kd.R_mono (Kd.R_told (Kd.R_told (Kd.R_old z25 hb) (Kd.R_base ho0)) (Kd.R_base ho1)) (fun _ h_ => h_.1)); have n2_ := zA (Kd.R_mono (Kd.R_told (Kd.R_told (Kd.R_old z26 hb) (Kd.R_base ho0)) (Kd.R_base ho1)) (fun _ h_ => h_.1)); have n3_ := zA (Kd.R_lower (Kd.R_new' (Kd.R_new' (Kd.R_new' ho0 (Kd.R_lt z18)) (Kd.R_lt z25)) (Kd.R_lt z26)) (below_size z13)); have n4_ := zA (Kd.R_lower (Kd.R_new' (Kd.R_new' (Kd.R_new' ho1 (Kd.R_lt z18)) (Kd.R_lt z25)) (Kd.R_lt z26)) (below_size z13)); have n5_ := zA (blk_below (g := gb239) (o := .cells #[.int .i64 a0_0, .slice A0_1 l0_1.length c0_1] 35 (0, 0)) z3 hb); have n6_ := zA (below_step z13 hb); clear HO244 HO247 HO250 BK239 HB; revert n0_ n1_ n2_ n3_ n4_ n5_ n6_; intro HO244 HO247 HO250 HO253 HO257 BK239 HB; (try clear hb); (try clear hb2); (try clear hk); (try clear hi); (try clear ho0); (try clear ho1)) | ((with_reducible refine gate_dst (N := 9) rfl ?_); refine box_event ?hg (N := 9) ?hd (cs := #[.int .i64 0, .slice none 0 0]) (t := 38) ?hr ?_; (case hd => rfl); (case hg => rfl); (case hr => first | (go_simp; done) | (go_simp; rfl)); intro gb259 hg w33 hbox hb; have n0_ := zA (Kd.R_below z18 hb); have n1_ := zA (Kd.R_below z25 hb); have n2_ := zA (Kd.R_below z26 hb); have n3_ := zA (Kd.R_below z40 hb); have n4_ := zA (Kd.R_below z39 hb); have n5_ := zA (blk_below (g := gb239) (o := .cells #[.int .i64 a0_0, .slice A0_1 l0_1.length c0_1] 35 (0, 0)) z3 hb); have n6_ := zA (below_step z13 hb); have n7_ := zA (hbox); have n8_ := zA ((by rw [hg]; exact (below_size z13) : w.heap.size ≤ gb259)); have n9_ := zA ((by rw [hg]; exact (below_size z13) : w.heap.size ≤ gb259)); have n10_ := zA ((z59 : gb239 ≠ gb259)); have n11_ := zA ((z60 : gb259 ≠ gb239)); clear HO244 HO247 HO250 HO253 HO257 BK239 HB; revert n0_ n1_ n2_ n3_ n4_ n5_ n6_ n7_ n8_ n9_ n10_ n11_; intro HO244 HO247 HO250 HO253 HO257 BK239 HB BK259 GW259 GE259 NB239_259 NB259_239; clear hb hbox hg; have hnb34 := NB259_239.out; have hnc34 := NB239_259.out; have hcz35_0 : w33.cell? ⟨gb259, 0, none⟩ = some (.int .i64 0) := (blk_cell BK259.out 0).trans rfl; have hcz35_1 : w33.cell? ⟨gb259, 1, none⟩ = some (.slice none 0 0) := (blk_cell BK259.out 1).trans rfl; have hfz35_0 := blk_frozen BK259.out 0; have hfz35_1 := blk_frozen BK259.out 1; obtain ⟨Ao36, co36, eo36⟩ := Kd.R_slice HO257.out; subst eo36; have hcz37_0 : w33.cell? ⟨gb239, 0, none⟩ = some (.int .i64 a0_0) := (blk_cell BK239.out 0).trans rfl; have hcz37_1 : w33.cell? ⟨gb239, 1, none⟩ = some (.slice A0_1 l0_1.length c0_1) := (blk_cell BK239.out 1).trans rfl; have hfz37_0 := blk_frozen BK239.out 0; have hfz37_1 := blk_frozen BK239.out 1) | ((with_reducible refine gate_callee (f := 24) rfl ?_); refine goesL_ (some 46) rfl rfl Try.func24 z28 rfl #[.agg #[.int .i64 a0_0, .slice A0_1 l0_1.length c0_1]] rfl z2 ?_; (with_reducible refine (laws_toFlow.calls k a0_0 _ _ l0_1 t260 t261 _ ?side1 ?side2 A17.out).mono ?_); (case side1 => exact Kd.C_below HR0_1.out z30); (case side2 => exact HC0_1.out); rintro e w38 ⟨v262, rfl, ho0, hb⟩; refine ⟨_, rfl, ?_⟩; have n0_ := zA (Kd.R_elder' z84 (Kd.R_base ho0) hb); have n1_ := zA (Kd.R_elder' z83 (Kd.R_base ho0) hb); have n2_ := zA (Kd.R_elder' z82 (Kd.R_base ho0) hb); have n3_ := zA (Kd.R_elder' z81 (Kd.R_base ho0) hb); have n4_ := zA (Kd.R_elder' z80 (Kd.R_base ho0) hb); have n5_ := zA (Kd.R_lower (Kd.R_new' (Kd.R_new' (Kd.R_new' (Kd.R_new' (Kd.R_new' ho0 (Kd.R_lt z84)) (Kd.R_lt z83)) (Kd.R_lt z82)) (Kd.R_lt z81)) (Kd.R_lt z80)) (below_size z30)); have n6_ := zA (blk_below (g := gb239) (o := .cells #[.int .i64 a0_0, .slice A0_1 l0_1.length c0_1] 35 (0, 0)) (by (with_reducible repeat (first | refine blk_drewN ?_ _ | refine blk_drew ?_ | refine blk_alloc ?_ _)); refine blk_far ?_ NB239_259.out _; (with_reducible repeat (first | refine blk_drewN ?_ _ | refine blk_drew ?_ | refine blk_alloc ?_ _)); refine blk_far ?_ NB239_259.out _; (with_reducible repeat (first | refine blk_drewN ?_ _ | refine blk_drew ?_ | refine blk_alloc ?_ _)); exact BK239.out) hb); have n7_ := zA (blk_below (g := gb259) (o := .cells #[.int .i64 t254, .slice Ao36 t255.length co36] 38 (0, 0)) (by (with_reducible repeat (first | refine blk_drewN ?_ _ | refine blk_drew ?_ | refine blk_alloc ?_ _)); refine blk_put (cs := #[.int .i64 t254, .slice none 0 0]) ?_ 1 _ rfl; (with_reducible repeat (first | refine blk_drewN ?_ _ | refine blk_drew ?_ | refine blk_alloc ?_ _)); refine blk_put (cs := #[.int .i64 0, .slice none 0 0]) ?_ 0 _ rfl; (with_reducible repeat (first | refine blk_drewN ?_ _ | refine blk_drew ?_ | refine blk_alloc ?_ _)); exact BK259.out) hb); have n8_ := zA (below_step z30 hb); clear HO244 HO247 HO250 HO253 HO257 BK239 BK259 HB; revert n0_ n1_ n2_ n3_ n4_ n5_ n6_ n7_ n8_; intro HO244 HO247 HO250 HO253 HO257 HO263 BK239 BK259 HB; (try clear hb); (try clear hb2); (try clear hk); (try clear hi); (try clear ho0)) | ((with_reducible refine gate_dst (N := 11) rfl ?_); refine box_event ?hg (N := 11) ?hd (cs := #[.int .i64 0, .slice none 0 0]) (t := 38) ?hr ?_; (case hd => rfl); (case hg => rfl); (case hr => first | (go_simp; done) | (go_simp; rfl)); intro gb264 hg w39 hbox hb; have n0_ := zA (Kd.R_below z18 hb); have n1_ := zA (Kd.R_below z25 hb); have n2_ := zA (Kd.R_below z26 hb); have n3_ := zA (Kd.R_below z40 hb); have n4_ := zA (Kd.R_below z39 hb); have n5_ := zA (Kd.R_below z43 hb); have n6_ := zA (blk_below (g := gb239) (o := .cells #[.int .i64 a0_0, .slice A0_1 l0_1.length c0_1] 35 (0, 0)) z3 hb); have n7_ := zA (blk_below (g := gb259) (o := .cells #[.int .i64 t254, .slice Ao36 t255.length co36] 38 (0, 0)) z4 hb); have n8_ := zA (below_step z30 hb); have n9_ := zA (hbox); have n10_ := zA ((by rw [hg]; exact (below_size z30) : w.heap.size ≤ gb264)); have n11_ := zA ((by rw [hg]; exact (below_size z30) : w.heap.size ≤ gb264)); have n12_ := zA ((z59 : gb239 ≠ gb264)); have n13_ := zA ((z60 : gb264 ≠ gb239)); have n14_ := zA ((z87 : gb259 ≠ gb264)); have n15_ := zA ((z88 : gb264 ≠ gb259)); clear HO244 HO247 HO250 HO253 HO257 HO263 BK239 BK259 HB; revert n0_ n1_ n2_ n3_ n4_ n5_ n6_ n7_ n8_ n9_ n10_ n11_ n12_ n13_ n14_ n15_; intro HO244 HO247 HO250 HO253 HO257 HO263 BK239 BK259 HB BK264 GW264 GE264 NB239_264 NB264_239 NB259_264 NB264_259; clear hb hbox hg; have hnb40 := NB264_239.out; have hnc40 := NB239_264.out; have hnb41 := NB264_259.out; have hnc41 := NB259_264.out; have hcz42_0 : w39.cell? ⟨gb264, 0, none⟩ = some (.int .i64 0) := (blk_cell BK264.out 0).trans rfl; have hcz42_1 : w39.cell? ⟨gb264, 1, none⟩ = some (.slice none 0 0) := (blk_cell BK264.out 1).trans rfl; have hfz42_0 := blk_frozen BK264.out 0; have hfz42_1 := blk_frozen BK264.out 1; obtain ⟨Ao43, co43, eo43⟩ := Kd.R_slice HO263.out; subst eo43) | ((with_reducible refine gate_callee (f := 19) rfl ?_); refine goesL_ (some 48) rfl rfl Try.func19 z28 rfl #[.slice A1 l1.length c1] rfl z2 ?_; (with_reducible refine (laws_toIntS.calls k _ _ l1 t265 _ ?side1 ?side2 A18.out).mono ?_); (case side1 => exact Kd.C_below HR1.out z14); (case side2 => exact HC1.out); rintro e w44 ⟨v266, rfl, ho0, hb⟩; refine ⟨_, rfl, ?_⟩; have n0_ := zA (Kd.R_elder' z79 (Kd.R_base ho0) hb); have n1_ := zA (Kd.R_elder' z78 (Kd.R_base ho0) hb); have n2_ := zA (Kd.R_elder' z77 (Kd.R_base ho0) hb); have n3_ := zA (Kd.R_elder' z76 (Kd.R_base ho0) hb); have n4_ := zA (Kd.R_elder' z75 (Kd.R_base ho0) hb); have n5_ := zA (Kd.R_elder' z74 (Kd.R_base ho0) hb); have n6_ := zA (Kd.R_lower (Kd.R_new' (Kd.R_new' (Kd.R_new' (Kd.R_new' (Kd.R_new' (Kd.R_new' ho0 (Kd.R_lt z79)) (Kd.R_lt z78)) (Kd.R_lt z77)) (Kd.R_lt z76)) (Kd.R_lt z75)) (Kd.R_lt z74)) (below_size z14)); have n7_ := zA (blk_below (g := gb239) (o := .cells #[.int .i64 a0_0, .slice A0_1 l0_1.length c0_1] 35 (0, 0)) (by (with_reducible repeat (first | refine blk_drewN ?_ _ | refine blk_drew ?_ | refine blk_alloc ?_ _)); refine blk_far ?_ NB239_264.out _; (with_reducible repeat (first | refine blk_drewN ?_ _ | refine blk_drew ?_ | refine blk_alloc ?_ _)); refine blk_far ?_ NB239_264.out _; (with_reducible repeat (first | refine blk_drewN ?_ _ | refine blk_drew ?_ | refine blk_alloc ?_ _)); exact BK239.out) hb); have n8_ := zA (blk_below (g := gb259) (o := .cells #[.int .i64 t254, .slice Ao36 t255.length co36] 38 (0, 0)) (by (with_reducible repeat (first | refine blk_drewN ?_ _ | refine blk_drew ?_ | refine blk_alloc ?_ _)); refine blk_far ?_ NB259_264.out _; (with_reducible repeat (first | refine blk_drewN ?_ _ | refine blk_drew ?_ | refine blk_alloc ?_ _)); refine blk_far ?_ NB259_264.out _; (with_reducible repeat (first | refine blk_drewN ?_ _ | refine blk_drew ?_ | refine blk_alloc ?_ _)); exact BK259.out) hb); have n9_ := zA (blk_below (g := gb264) (o := .cells #[.int .i64 t260, .slice Ao43 t261.length co43] 38 (0, 0)) (by (with_reducible repeat (first | refine blk_drewN ?_ _ | refine blk_drew ?_ | refine blk_alloc ?_ _)); refine blk_put (cs := #[.int .i64 t260, .slice none 0 0]) ?_ 1 _ rfl; (with_reducible repeat (first | refine blk_drewN ?_ _ | refine blk_drew ?_ | refine blk_alloc ?_ _)); refine blk_put (cs := #[.int .i64 0, .slice none 0 0]) ?_ 0 _ rfl; (with_reducible repeat (first | refine blk_drewN ?_ _ | refine blk_drew ?_ | refine blk_alloc ?_ _)); exact BK264.out) hb); have n10_ := zA (below_step z14 hb); clear HO244 HO247 HO250 HO253 HO257 HO263 BK239 BK259 BK264 HB; revert n0_ n1_ n2_ n3_ n4_ n5_ n6_ n7_ n8_ n9_ n10_; intro HO244 HO247 HO250 HO253 HO257 HO263 HO267 BK239 BK259 BK264 HB; (try clear hb); (try clear hb2); (try clear hk); (try clear hi); (try clear ho0)) | ((with_reducible refine gate_callee (f := 19) rfl ?_); refine goesL_ (some 50) rfl rfl Try.func19 z28 rfl #[.slice A2 l2.length c2] rfl z2 ?_; (with_reducible refine (laws_toIntS.calls k _ _ l2 t268 _ ?side1 ?side2 A19.out).mono ?_); (case side1 => have zh := (Kd.C_below HR2.out HB.out); exact zC); (case side2 => exact HC2.out); rintro e w45 ⟨v269, rfl, ho0, hb⟩; refine ⟨_, rfl, ?_⟩; have n0_ := zA (Kd.R_elder' z18 (Kd.R_base ho0) hb); have n1_ := zA (Kd.R_elder' z25 (Kd.R_base ho0) hb); have n2_ := zA (Kd.R_elder' z26 (Kd.R_base ho0) hb); have n3_ := zA (Kd.R_elder' z40 (Kd.R_base ho0) hb); have n4_ := zA (Kd.R_elder' z39 (Kd.R_base ho0) hb); have n5_ := zA (Kd.R_elder' z43 (Kd.R_base ho0) hb); have n6_ := zA (Kd.R_elder' z51 (Kd.R_base ho0) hb); have n7_ := zA (Kd.R_lower (Kd.R_new' (Kd.R_new' (Kd.R_new' (Kd.R_new' (Kd.R_new' (Kd.R_new' (Kd.R_new' ho0 (Kd.R_lt z18)) (Kd.R_lt z25)) (Kd.R_lt z26)) (Kd.R_lt z40)) (Kd.R_lt z39)) (Kd.R_lt z43)) (Kd.R_lt z51)) (below_size z14)); have n8_ := zA (blk_below (g := gb239) (o := .cells #[.int .i64 a0_0, .slice A0_1 l0_1.length c0_1] 35 (0, 0)) z3 hb); have n9_ := zA (blk_below (g := gb259) (o := .cells #[.int .i64 t254, .slice Ao36 t255.length co36] 38 (0, 0)) z4 hb); have n10_ := zA (blk_below (g := gb264) (o := .cells #[.int .i64 t260, .slice Ao43 t261.length co43] 38 (0, 0)) z5 hb); have n11_ := zA (below_step z14 hb); clear HO244 HO247 HO250 HO253 HO257 HO263 HO267 BK239 BK259 BK264 HB; revert n0_ n1_ n2_ n3_ n4_ n5_ n6_ n7_ n8_ n9_ n10_ n11_; intro HO244 HO247 HO250 HO253 HO257 HO263 HO267 HO270 BK239 BK259 BK264 HB; (try clear hb); (try clear hb2); (try clear hk); (try clear hi); (try clear ho0); have hcz46_0 : w45.cell? ⟨gb264, 0, none⟩ = some (.int .i64 t260) := (blk_cell BK264.out 0).trans rfl; have hcz46_1 : w45.cell? ⟨gb264, 1, none⟩ = some (.slice Ao43 t261.length co43) := (blk_cell BK264.out 1).trans rfl; have hfz46_0 := blk_frozen BK264.out 0; have hfz46_1 := blk_frozen BK264.out 1; obtain ⟨Ao47, co47, eo47⟩ := Kd.R_slice HO267.out; subst eo47; obtain ⟨Ao48, co48, eo48⟩ := Kd.R_slice HO270.out; subst eo48) | ((with_reducible refine gate_callee (f := 51) rfl ?_); refine goesL_ (some 55) rfl rfl Try.func51 z28 rfl #[.agg #[.int .i64 t260, .slice Ao43 t261.length co43], .slice Ao47 t265.length co47, .slice Ao48 t268.length co48] rfl z2 ?_; (with_reducible refine (impl_RunOrders.calls k t260 _ _ t261 _ _ t265 _ _ t268 t271 t274 t275 t278 _ ?side1 ?side2 ?side3 ?side4 ?side5 ?side6 A20.out).mono ?_); (case side1 => have zh := (Kd.R_reads' HO263.out).2.2; exact zC); (case side2 => exact (Kd.R_reads' HO263.out).2.1); (case side3 => have zh := (Kd.R_reads' HO267.out).2.2; exact zC); (case side4 => exact (Kd.R_reads' HO267.out).2.1); (case side5 => have zh := (Kd.R_reads' HO270.out).2.2; exact zC); (case side6 => exact (Kd.R_reads' HO270.out).2.1); rintro e w49 ⟨v272, v276, rfl, ho0, ho1, hb⟩; refine ⟨_, rfl, ?_⟩; have n0_ := zA (Kd.R_mono (Kd.R_told (Kd.R_told (Kd.R_old z18 hb) (Kd.R_base ho0)) (Kd.Q_base ho1)) (fun _ h_ => h_.1)); have n1_ := zA (Kd.R_mono (Kd.R_told (Kd.R_told (Kd.R_old z25 hb) (Kd.R_base ho0)) (Kd.Q_base ho1)) (fun _ h_ => h_.1)); have n2_ := zA (Kd.R_mono (Kd.R_told (Kd.R_told (Kd.R_old z26 hb) (Kd.R_base ho0)) (Kd.Q_base ho1)) (fun _ h_ => h_.1)); have n3_ := zA (Kd.R_mono (Kd.R_told (Kd.R_told (Kd.R_old z40 hb) (Kd.R_base ho0)) (Kd.Q_base ho1)) (fun _ h_ => h_.1)); have n4_ := zA (Kd.R_mono (Kd.R_told (Kd.R_told (Kd.R_old z39 hb) (Kd.R_base ho0)) (Kd.Q_base ho1)) (fun _ h_ => h_.1)); have n5_ := zA (Kd.R_mono (Kd.R_told (Kd.R_told (Kd.R_old z43 hb) (Kd.R_base ho0)) (Kd.Q_base ho1)) (fun _ h_ => h_.1)); have n6_ := zA (Kd.R_mono (Kd.R_told (Kd.R_told (Kd.R_old z51 hb) (Kd.R_base ho0)) (Kd.Q_base ho1)) (fun _ h_ => h_.1)); have n7_ := zA (Kd.R_mono (Kd.R_told (Kd.R_told (Kd.R_old z86 hb) (Kd.R_base ho0)) (Kd.Q_base ho1)) (fun _ h_ => h_.1)); have n8_ := zA (Kd.R_lower (Kd.R_new' (Kd.R_new' (Kd.R_new' (Kd.R_new' (Kd.R_new' (Kd.R_new' (Kd.R_new' (Kd.R_new' ho0 (Kd.R_lt z18)) (Kd.R_lt z25)) (Kd.R_lt z26)) (Kd.R_lt z40)) (Kd.R_lt z39)) (Kd.R_lt z43)) (Kd.R_lt z51)) (Kd.R_lt z86)) (below_size z14)); have n9_ := zA (Kd.Q_lower (Kd.Q_new' (Kd.Q_new' (Kd.Q_new' (Kd.Q_new' (Kd.Q_new' (Kd.Q_new' (Kd.Q_new' (Kd.Q_new' ho1 (Kd.R_lt z18)) (Kd.R_lt z25)) (Kd.R_lt z26)) (Kd.R_lt z40)) (Kd.R_lt z39)) (Kd.R_lt z43)) (Kd.R_lt z51)) (Kd.R_lt z86)) (below_size z14)); have n10_ := zA (blk_below (g := gb239) (o := .cells #[.int .i64 a0_0, .slice A0_1 l0_1.length c0_1] 35 (0, 0)) z3 hb); have n11_ := zA (blk_below (g := gb259) (o := .cells #[.int .i64 t254, .slice Ao36 t255.length co36] 38 (0, 0)) z4 hb); have n12_ := zA (blk_below (g := gb264) (o := .cells #[.int .i64 t260, .slice Ao43 t261.length co43] 38 (0, 0)) z5 hb); have n13_ := zA (below_step z14 hb); clear HO244 HO247 HO250 HO253 HO257 HO263 HO267 HO270 BK239 BK259 BK264 HB; revert n0_ n1_ n2_ n3_ n4_ n5_ n6_ n7_ n8_ n9_ n10_ n11_ n12_ n13_; intro HO244 HO247 HO250 HO253 HO257 HO263 HO267 HO270 HO273 HO277 BK239 BK259 BK264 HB; (try clear hb); (try clear hb2); (try clear hk); (try clear hi); (try clear ho0); (try clear ho1)) | ((with_reducible refine gate_dst (N := 15) rfl ?_); refine box_event ?hg (N := 15) ?hd (cs := #[.int .i64 0, .slice none 0 0]) (t := 38) ?hr ?_; (case hd => rfl); (case hg => rfl); (case hr => first | (go_simp; done) | (go_simp; rfl)); intro gb279 hg w50 hbox hb; have n0_ := zA (Kd.R_below z18 hb); have n1_ := zA (Kd.R_below z25 hb); have n2_ := zA (Kd.R_below z26 hb); have n3_ := zA (Kd.R_below z40 hb); have n4_ := zA (Kd.R_below z39 hb); have n5_ := zA (Kd.R_below z43 hb); have n6_ := zA (Kd.R_below z51 hb); have n7_ := zA (Kd.R_below z86 hb); have n8_ := zA (Kd.R_below (by (with_reducible repeat (first | apply Kd.R_alloc | apply Kd.R_drewN | apply Kd.R_drew)); exact HO273.out) hb); have n9_ := zA (Kd.Q_below (by (with_reducible repeat (first | apply Kd.Q_alloc | apply Kd.Q_drewN | apply Kd.Q_drew)); exact HO277.out) hb); have n10_ := zA (blk_below (g := gb239) (o := .cells #[.int .i64 a0_0, .slice A0_1 l0_1.length c0_1] 35 (0, 0)) z3 hb); have n11_ := zA (blk_below (g := gb259) (o := .cells #[.int .i64 t254, .slice Ao36 t255.length co36] 38 (0, 0)) z4 hb); have n12_ := zA (blk_below (g := gb264) (o := .cells #[.int .i64 t260, .slice Ao43 t261.length co43] 38 (0, 0)) z5 hb); have n13_ := zA (below_step z14 hb); have n14_ := zA (hbox); have n15_ := zA ((by rw [hg]; exact (below_size z14) : w.heap.size ≤ gb279)); have n16_ := zA ((by rw [hg]; exact (below_size z14) : w.heap.size ≤ gb279)); have n17_ := zA ((z59 : gb239 ≠ gb279)); have n18_ := zA ((z60 : gb279 ≠ gb239)); have n19_ := zA ((z87 : gb259 ≠ gb279)); have n20_ := zA ((z88 : gb279 ≠ gb259)); have n21_ := zA ((by rw [hg]; exact Nat.ne_of_lt (blk_lt (g := gb264) (o := .cells #[.int .i64 t260, .slice Ao43 t261.length co43] 38 (0, 0)) z5) : gb264 ≠ gb279)); have n22_ := zA ((by rw [hg]; exact Nat.ne_of_gt (blk_lt (g := gb264) (o := .cells #[.int .i64 t260, .slice Ao43 t261.length co43] 38 (0, 0)) z5) : gb279 ≠ gb264)); clear HO244 HO247 HO250 HO253 HO257 HO263 HO267 HO270 HO273 HO277 BK239 BK259 BK264 HB; revert n0_ n1_ n2_ n3_ n4_ n5_ n6_ n7_ n8_ n9_ n10_ n11_ n12_ n13_ n14_ n15_ n16_ n17_ n18_ n19_ n20_ n21_ n22_; intro HO244 HO247 HO250 HO253 HO257 HO263 HO267 HO270 HO273 HO277 BK239 BK259 BK264 HB BK279 GW279 GE279 NB239_279 NB279_239 NB259_279 NB279_259 NB264_279 NB279_264; clear hb hbox hg; have hnb51 := NB279_239.out; have hnc51 := NB239_279.out; have hnb52 := NB279_259.out; have hnc52 := NB259_279.out; have hnb53 := NB279_264.out; have hnc53 := NB264_279.out; have hcz54_0 : w50.cell? ⟨gb279, 0, none⟩ = some (.int .i64 0) := (blk_cell BK279.out 0).trans rfl; have hcz54_1 : w50.cell? ⟨gb279, 1, none⟩ = some (.slice none 0 0) := (blk_cell BK279.out 1).trans rfl; have hfz54_0 := blk_frozen BK279.out 0; have hfz54_1 := blk_frozen BK279.out 1; obtain ⟨Ao55, co55, eo55, _⟩ := Kd.Q_slice HO277.out; subst eo55))
    (try simp only [Act.put, List.setIfInBounds_toArray, List.set_cons_zero, List.set_cons_succ])
    go_cut [73] (fun v73 wc => ∃ (kq : Nat) (x73_20 : Bool), v73 = .bool x73_20 ∧ Aside0 (laws_FnExactRunOrders.j0 kq l1 l2 t251 t258 t265 t268 t271 t278 x73_20 a0_0 l0_1 t254 t255 t260 t261 t274 t275 = some r) ∧ Aside0 (kq ≤ k) ∧ Aside0 (Kd.R (Kd.int .i64) 3 wc w.heap.size (fun k_ => some k_ ≠ ((.slice Ao47 t265.length co47) : Value).ownBlock ∧ some k_ ≠ ((.slice Ao48 t268.length co48) : Value).ownBlock ∧ zV k_ v272 ∧ some k_ ≠ ((.slice Ao36 t255.length co36) : Value).ownBlock ∧ some k_ ≠ ((.slice Ao43 t261.length co43) : Value).ownBlock ∧ some k_ ≠ ((.slice Ao55 t275.length co55) : Value).ownBlock) v252 t251) ∧ Aside0 (Kd.R (Kd.int .i64) 3 wc w.heap.size (fun k_ => zV k_ v252 ∧ some k_ ≠ ((.slice Ao48 t268.length co48) : Value).ownBlock ∧ zV k_ v272 ∧ some k_ ≠ ((.slice Ao36 t255.length co36) : Value).ownBlock ∧ some k_ ≠ ((.slice Ao43 t261.length co43) : Value).ownBlock ∧ some k_ ≠ ((.slice Ao55 t275.length co55) : Value).ownBlock) (.slice Ao47 t265.length co47) t265) ∧ Aside0 (Kd.R (Kd.int .i64) 3 wc w.heap.size (fun k_ => zV k_ v252 ∧ some k_ ≠ ((.slice Ao47 t265.length co47) : Value).ownBlock ∧ zV k_ v272 ∧ some k_ ≠ ((.slice Ao36 t255.length co36) : Value).ownBlock ∧ some k_ ≠ ((.slice Ao43 t261.length co43) : Value).ownBlock ∧ some k_ ≠ ((.slice Ao55 t275.length co55) : Value).ownBlock) (.slice Ao48 t268.length co48) t268) ∧ Aside0 (Kd.Q (Kd.int .i64) 3 wc w.heap.size (fun k_ => zV k_ v252 ∧ some k_ ≠ ((.slice Ao47 t265.length co47) : Value).ownBlock ∧ some k_ ≠ ((.slice Ao48 t268.length co48) : Value).ownBlock ∧ some k_ ≠ ((.slice Ao36 t255.length co36) : Value).ownBlock ∧ some k_ ≠ ((.slice Ao43 t261.length co43) : Value).ownBlock ∧ some k_ ≠ ((.slice Ao55 t275.length co55) : Value).ownBlock) v272 t271) ∧ Aside0 (Kd.Q (Kd.int .i64) 3 wc w.heap.size (fun k_ => zV k_ v252 ∧ some k_ ≠ ((.slice Ao47 t265.length co47) : Value).ownBlock ∧ some k_ ≠ ((.slice Ao48 t268.length co48) : Value).ownBlock ∧ zV k_ v272 ∧ some k_ ≠ ((.slice Ao43 t261.length co43) : Value).ownBlock ∧ some k_ ≠ ((.slice Ao55 t275.length co55) : Value).ownBlock) (.slice Ao36 t255.length co36) t255) ∧ Aside0 (Kd.Q (Kd.int .i64) 3 wc w.heap.size (fun k_ => zV k_ v252 ∧ some k_ ≠ ((.slice Ao47 t265.length co47) : Value).ownBlock ∧ some k_ ≠ ((.slice Ao48 t268.length co48) : Value).ownBlock ∧ zV k_ v272 ∧ some k_ ≠ ((.slice Ao36 t255.length co36) : Value).ownBlock ∧ some k_ ≠ ((.slice Ao55 t275.length co55) : Value).ownBlock) (.slice Ao43 t261.length co43) t261) ∧ Aside0 (Kd.Q (Kd.int .i64) 3 wc w.heap.size (fun k_ => zV k_ v252 ∧ some k_ ≠ ((.slice Ao47 t265.length co47) : Value).ownBlock ∧ some k_ ≠ ((.slice Ao48 t268.length co48) : Value).ownBlock ∧ zV k_ v272 ∧ some k_ ≠ ((.slice Ao36 t255.length co36) : Value).ownBlock ∧ some k_ ≠ ((.slice Ao43 t261.length co43) : Value).ownBlock) (.slice Ao55 t275.length co55) t275) ∧ Aside0 (wc.heap[gb239]? = some (.cells #[.int .i64 a0_0, (.slice A0_1 l0_1.length c0_1)] 35 (0, 0))) ∧ Aside0 (wc.heap[gb259]? = some (.cells #[.int .i64 t254, (.slice Ao36 t255.length co36)] 38 (0, 0))) ∧ Aside0 (wc.heap[gb264]? = some (.cells #[.int .i64 t260, (.slice Ao43 t261.length co43)] 38 (0, 0))) ∧ Aside0 (wc.heap[gb279]? = some (.cells #[.int .i64 t274, (.slice Ao55 t275.length co55)] 38 (0, 0))) ∧ Aside0 (Below w.heap.size w wc))
    case first =>
     have H := HC21.out
     clear HC21
     replace H := Option.bind_eq_some_iff.mp H
     obtain ⟨t280, A560, H⟩ := H
     (try dsimp only at H)
     have A56 := zA A560
     clear A560
     by_cases c57 : t280 = true
     ·subst c57
      have H1 : ((laws_eqFlow.f k t274 t275 t254 t255).bind fun t281 => (if t281 = true then (laws_FnExactRunOrders.j0 k l1 l2 t251 t258 t265 t268 t271 t278 (t278 != t258) a0_0 l0_1 t254 t255 t260 t261 t274 t275) else (laws_FnExactRunOrders.j0 k l1 l2 t251 t258 t265 t268 t271 t278 true a0_0 l0_1 t254 t255 t260 t261 t274 t275))) = some r := z61
      clear H
      have H := H1
      clear H1
      replace H := Option.bind_eq_some_iff.mp H
      obtain ⟨t281, A580, H⟩ := H
      (try dsimp only at H)
      have A58 := zA A580
      clear A580
      by_cases c59 : t281 = true
      ·subst c59
       have H1 : (laws_FnExactRunOrders.j0 k l1 l2 t251 t258 t265 t268 t271 t278 (t278 != t258) a0_0 l0_1 t254 t255 t260 t261 t274 t275) = some r := z61
       clear H
       have H := H1
       clear H1
       have H' := zA H
       clear H
       obtain ⟨Ao60, co60, eo60⟩ := Kd.R_slice HO273.out
       subst eo60
       obtain ⟨Ao61, co61, eo61⟩ := Kd.R_slice HO253.out
       subst eo61
       go_wp2_with (first | ((with_reducible refine gate_callee (f := 21) rfl ?_); refine goesL_ (some 61) rfl rfl Try.func21 z28 rfl #[.slice Ao60 t271.length co60, .slice Ao61 t251.length co61] rfl z2 ?_; (with_reducible refine (laws_eqIntS.calls k _ _ t271 _ _ t251 true _ ?side1 ?side2 ?side3 ?side4 A56.out).mono ?_); (case side1 => refine (Kd.R_reads' (e := 3) (base := w.heap.size) (ok := fun k_ => ((((((((zS k_ Ao55 t275.length co55 ∧ zS k_ Ao29 t242.length co29) ∧ zS k_ Ao30 t245.length co30) ∧ zS k_ Ao31 t248.length co31) ∧ zS k_ Ao61 t251.length co61) ∧ zS k_ Ao36 t255.length co36) ∧ zS k_ Ao43 t261.length co43) ∧ zS k_ Ao47 t265.length co47) ∧ zS k_ Ao48 t268.length co48)) (n := t271.length) (c := co60) ?_).2.2; exact z23); (case side2 => exact (Kd.R_reads' HO273.out).2.1); (case side3 => refine (Kd.R_reads' (e := 3) (base := w.heap.size) (ok := fun k_ => ((((((((zS k_ Ao36 t255.length co36 ∧ zS k_ Ao29 t242.length co29) ∧ zS k_ Ao30 t245.length co30) ∧ zS k_ Ao31 t248.length co31) ∧ zS k_ Ao43 t261.length co43) ∧ zS k_ Ao47 t265.length co47) ∧ zS k_ Ao48 t268.length co48) ∧ zS k_ Ao60 t271.length co60) ∧ zS k_ Ao55 t275.length co55)) (n := t251.length) (c := co61) ?_).2.2; exact z24); (case side4 => exact (Kd.R_reads' HO253.out).2.1); rintro e w' ⟨rfl, ⟨nd, rfl⟩⟩; refine ⟨_, rfl, ?_⟩; have hnb62 := NB279_239.out; have hnc62 := NB239_279.out; have hnb63 := NB279_259.out; have hnc63 := NB259_279.out; have hnb64 := NB279_264.out; have hnc64 := NB264_279.out; have hcz65_0 : w50.cell? ⟨gb279, 0, none⟩ = some (.int .i64 0) := (blk_cell BK279.out 0).trans rfl; have hcz65_1 : w50.cell? ⟨gb279, 1, none⟩ = some (.slice none 0 0) := (blk_cell BK279.out 1).trans rfl; have hfz65_0 := blk_frozen BK279.out 0; have hfz65_1 := blk_frozen BK279.out 1; have hnb66 := NB259_239.out; have hnc66 := NB239_259.out; have hnb67 := NB259_264.out; have hnc67 := NB264_259.out; have hcz68_0 : w50.cell? ⟨gb259, 0, none⟩ = some (.int .i64 t254) := (blk_cell BK259.out 0).trans rfl; have hcz68_1 : w50.cell? ⟨gb259, 1, none⟩ = some (.slice Ao36 t255.length co36) := (blk_cell BK259.out 1).trans rfl; have hfz68_0 := blk_frozen BK259.out 0; have hfz68_1 := blk_frozen BK259.out 1) | (go_at_call 26; (with_reducible refine (laws_eqFlow.calls k t274 _ _ t275 t254 _ _ t255 true _ ?side1 ?side2 ?side3 ?side4 A58.out).mono ?_); (case side1 => refine (Kd.Q_reads' (e := 3) (base := w.heap.size) (ok := fun k_ => ((((((((zS k_ Ao60 t271.length co60 ∧ zS k_ Ao29 t242.length co29) ∧ zS k_ Ao30 t245.length co30) ∧ zS k_ Ao31 t248.length co31) ∧ zS k_ Ao61 t251.length co61) ∧ zS k_ Ao36 t255.length co36) ∧ zS k_ Ao43 t261.length co43) ∧ zS k_ Ao47 t265.length co47) ∧ zS k_ Ao48 t268.length co48)) (n := t275.length) (c := co55) ?_).2.2; exact z32); (case side2 => exact (Kd.Q_reads' HO277.out).2.1); (case side3 => refine (Kd.R_reads' (e := 3) (base := w.heap.size) (ok := fun k_ => ((((((((zS k_ Ao61 t251.length co61 ∧ zS k_ Ao29 t242.length co29) ∧ zS k_ Ao30 t245.length co30) ∧ zS k_ Ao31 t248.length co31) ∧ zS k_ Ao43 t261.length co43) ∧ zS k_ Ao47 t265.length co47) ∧ zS k_ Ao48 t268.length co48) ∧ zS k_ Ao60 t271.length co60) ∧ zS k_ Ao55 t275.length co55)) (n := t255.length) (c := co36) ?_).2.2; exact z31); (case side4 => exact (Kd.R_reads' HO257.out).2.1); rintro e w69 ⟨rfl, hb⟩; have n0_ := zA (Kd.R_below z73 hb); have n1_ := zA (Kd.R_below z72 hb); have n2_ := zA (Kd.R_below z71 hb); have n3_ := zA (Kd.R_below z24 hb); have n4_ := zA (Kd.R_below z31 hb); have n5_ := zA (Kd.R_below z70 hb); have n6_ := zA (Kd.R_below z69 hb); have n7_ := zA (Kd.R_below z68 hb); have n8_ := zA (Kd.R_below z23 hb); have n9_ := zA (Kd.Q_below z32 hb); have n10_ := zA (blk_below (g := gb239) (o := .cells #[.int .i64 a0_0, .slice A0_1 l0_1.length c0_1] 35 (0, 0)) z36 hb); have n11_ := zA (blk_below (g := gb259) (o := .cells #[.int .i64 t254, .slice Ao36 t255.length co36] 38 (0, 0)) z35 hb); have n12_ := zA (blk_below (g := gb264) (o := .cells #[.int .i64 t260, .slice Ao43 t261.length co43] 38 (0, 0)) z34 hb); have n13_ := zA (blk_below (g := gb279) (o := .cells #[.int .i64 t274, .slice Ao55 t275.length co55] 38 (0, 0)) z33 hb); have n14_ := zA (below_step z1 hb); clear HO244 HO247 HO250 HO253 HO257 HO263 HO267 HO270 HO273 HO277 BK239 BK259 BK264 BK279 HB; revert n0_ n1_ n2_ n3_ n4_ n5_ n6_ n7_ n8_ n9_ n10_ n11_ n12_ n13_ n14_; intro HO244 HO247 HO250 HO253 HO257 HO263 HO267 HO270 HO273 HO277 BK239 BK259 BK264 BK279 HB; (try clear hb); (try clear hb2); (try clear hk); (try clear hi)))
       go_meet
       case rel => exact ⟨_, ((t278 != t258)), z54, H', ⟨by first | omega | exact Nat.le_refl _⟩, ⟨z99⟩, ⟨z102⟩, ⟨z101⟩, ⟨Kd.Q_of_R z97⟩, ⟨Kd.Q_of_R z98⟩, ⟨Kd.Q_of_R z103⟩, ⟨z100⟩, ⟨z3⟩, ⟨z4⟩, ⟨z5⟩, ⟨z6⟩, ⟨z1⟩⟩
      ·replace c59 := Bool.eq_false_iff.mpr c59
       subst c59
       have H1 : (laws_FnExactRunOrders.j0 k l1 l2 t251 t258 t265 t268 t271 t278 true a0_0 l0_1 t254 t255 t260 t261 t274 t275) = some r := z42
       clear H
       have H := H1
       clear H1
       have H' := zA H
       clear H
       obtain ⟨Ao70, co70, eo70⟩ := Kd.R_slice HO273.out
       subst eo70
       obtain ⟨Ao71, co71, eo71⟩ := Kd.R_slice HO253.out
       subst eo71
       go_wp2_with (first | ((with_reducible refine gate_callee (f := 21) rfl ?_); refine goesL_ (some 61) rfl rfl Try.func21 z28 rfl #[.slice Ao70 t271.length co70, .slice Ao71 t251.length co71] rfl z2 ?_; (with_reducible refine (laws_eqIntS.calls k _ _ t271 _ _ t251 true _ ?side1 ?side2 ?side3 ?side4 A56.out).mono ?_); (case side1 => refine (Kd.R_reads' (e := 3) (base := w.heap.size) (ok := fun k_ => ((((((((zS k_ Ao55 t275.length co55 ∧ zS k_ Ao29 t242.length co29) ∧ zS k_ Ao30 t245.length co30) ∧ zS k_ Ao31 t248.length co31) ∧ zS k_ Ao71 t251.length co71) ∧ zS k_ Ao36 t255.length co36) ∧ zS k_ Ao43 t261.length co43) ∧ zS k_ Ao47 t265.length co47) ∧ zS k_ Ao48 t268.length co48)) (n := t271.length) (c := co70) ?_).2.2; exact z23); (case side2 => exact (Kd.R_reads' HO273.out).2.1); (case side3 => refine (Kd.R_reads' (e := 3) (base := w.heap.size) (ok := fun k_ => ((((((((zS k_ Ao36 t255.length co36 ∧ zS k_ Ao29 t242.length co29) ∧ zS k_ Ao30 t245.length co30) ∧ zS k_ Ao31 t248.length co31) ∧ zS k_ Ao43 t261.length co43) ∧ zS k_ Ao47 t265.length co47) ∧ zS k_ Ao48 t268.length co48) ∧ zS k_ Ao70 t271.length co70) ∧ zS k_ Ao55 t275.length co55)) (n := t251.length) (c := co71) ?_).2.2; exact z24); (case side4 => exact (Kd.R_reads' HO253.out).2.1); rintro e w' ⟨rfl, ⟨nd, rfl⟩⟩; refine ⟨_, rfl, ?_⟩; have hnb72 := NB279_239.out; have hnc72 := NB239_279.out; have hnb73 := NB279_259.out; have hnc73 := NB259_279.out; have hnb74 := NB279_264.out; have hnc74 := NB264_279.out; have hcz75_0 : w50.cell? ⟨gb279, 0, none⟩ = some (.int .i64 0) := (blk_cell BK279.out 0).trans rfl; have hcz75_1 : w50.cell? ⟨gb279, 1, none⟩ = some (.slice none 0 0) := (blk_cell BK279.out 1).trans rfl; have hfz75_0 := blk_frozen BK279.out 0; have hfz75_1 := blk_frozen BK279.out 1; have hnb76 := NB259_239.out; have hnc76 := NB239_259.out; have hnb77 := NB259_264.out; have hnc77 := NB264_259.out; have hcz78_0 : w50.cell? ⟨gb259, 0, none⟩ = some (.int .i64 t254) := (blk_cell BK259.out 0).trans rfl; have hcz78_1 : w50.cell? ⟨gb259, 1, none⟩ = some (.slice Ao36 t255.length co36) := (blk_cell BK259.out 1).trans rfl; have hfz78_0 := blk_frozen BK259.out 0; have hfz78_1 := blk_frozen BK259.out 1) | (go_at_call 26; (with_reducible refine (laws_eqFlow.calls k t274 _ _ t275 t254 _ _ t255 false _ ?side1 ?side2 ?side3 ?side4 A58.out).mono ?_); (case side1 => refine (Kd.Q_reads' (e := 3) (base := w.heap.size) (ok := fun k_ => ((((((((zS k_ Ao70 t271.length co70 ∧ zS k_ Ao29 t242.length co29) ∧ zS k_ Ao30 t245.length co30) ∧ zS k_ Ao31 t248.length co31) ∧ zS k_ Ao71 t251.length co71) ∧ zS k_ Ao36 t255.length co36) ∧ zS k_ Ao43 t261.length co43) ∧ zS k_ Ao47 t265.length co47) ∧ zS k_ Ao48 t268.length co48)) (n := t275.length) (c := co55) ?_).2.2; exact z32); (case side2 => exact (Kd.Q_reads' HO277.out).2.1); (case side3 => refine (Kd.R_reads' (e := 3) (base := w.heap.size) (ok := fun k_ => ((((((((zS k_ Ao71 t251.length co71 ∧ zS k_ Ao29 t242.length co29) ∧ zS k_ Ao30 t245.length co30) ∧ zS k_ Ao31 t248.length co31) ∧ zS k_ Ao43 t261.length co43) ∧ zS k_ Ao47 t265.length co47) ∧ zS k_ Ao48 t268.length co48) ∧ zS k_ Ao70 t271.length co70) ∧ zS k_ Ao55 t275.length co55)) (n := t255.length) (c := co36) ?_).2.2; exact z31); (case side4 => exact (Kd.R_reads' HO257.out).2.1); rintro e w79 ⟨rfl, hb⟩; have n0_ := zA (Kd.R_below z73 hb); have n1_ := zA (Kd.R_below z72 hb); have n2_ := zA (Kd.R_below z71 hb); have n3_ := zA (Kd.R_below z24 hb); have n4_ := zA (Kd.R_below z31 hb); have n5_ := zA (Kd.R_below z70 hb); have n6_ := zA (Kd.R_below z69 hb); have n7_ := zA (Kd.R_below z68 hb); have n8_ := zA (Kd.R_below z23 hb); have n9_ := zA (Kd.Q_below z32 hb); have n10_ := zA (blk_below (g := gb239) (o := .cells #[.int .i64 a0_0, .slice A0_1 l0_1.length c0_1] 35 (0, 0)) z36 hb); have n11_ := zA (blk_below (g := gb259) (o := .cells #[.int .i64 t254, .slice Ao36 t255.length co36] 38 (0, 0)) z35 hb); have n12_ := zA (blk_below (g := gb264) (o := .cells #[.int .i64 t260, .slice Ao43 t261.length co43] 38 (0, 0)) z34 hb); have n13_ := zA (blk_below (g := gb279) (o := .cells #[.int .i64 t274, .slice Ao55 t275.length co55] 38 (0, 0)) z33 hb); have n14_ := zA (below_step z1 hb); clear HO244 HO247 HO250 HO253 HO257 HO263 HO267 HO270 HO273 HO277 BK239 BK259 BK264 BK279 HB; revert n0_ n1_ n2_ n3_ n4_ n5_ n6_ n7_ n8_ n9_ n10_ n11_ n12_ n13_ n14_; intro HO244 HO247 HO250 HO253 HO257 HO263 HO267 HO270 HO273 HO277 BK239 BK259 BK264 BK279 HB; (try clear hb); (try clear hb2); (try clear hk); (try clear hi)))
       go_meet
       case rel => exact ⟨_, (true), z54, H', ⟨by first | omega | exact Nat.le_refl _⟩, ⟨z99⟩, ⟨z102⟩, ⟨z101⟩, ⟨Kd.Q_of_R z97⟩, ⟨Kd.Q_of_R z98⟩, ⟨Kd.Q_of_R z103⟩, ⟨z100⟩, ⟨z3⟩, ⟨z4⟩, ⟨z5⟩, ⟨z6⟩, ⟨z1⟩⟩
     ·replace c57 := Bool.eq_false_iff.mpr c57
      subst c57
      have H1 : (laws_FnExactRunOrders.j0 k l1 l2 t251 t258 t265 t268 t271 t278 true a0_0 l0_1 t254 t255 t260 t261 t274 t275) = some r := z42
      clear H
      have H := H1
      clear H1
      have H' := zA H
      clear H
      obtain ⟨Ao80, co80, eo80⟩ := Kd.R_slice HO273.out
      subst eo80
      obtain ⟨Ao81, co81, eo81⟩ := Kd.R_slice HO253.out
      subst eo81
      go_wp2_with (first | ((with_reducible refine gate_callee (f := 21) rfl ?_); refine goesL_ (some 61) rfl rfl Try.func21 z28 rfl #[.slice Ao80 t271.length co80, .slice Ao81 t251.length co81] rfl z2 ?_; (with_reducible refine (laws_eqIntS.calls k _ _ t271 _ _ t251 false _ ?side1 ?side2 ?side3 ?side4 A56.out).mono ?_); (case side1 => refine (Kd.R_reads' (e := 3) (base := w.heap.size) (ok := fun k_ => ((((((((zS k_ Ao55 t275.length co55 ∧ zS k_ Ao29 t242.length co29) ∧ zS k_ Ao30 t245.length co30) ∧ zS k_ Ao31 t248.length co31) ∧ zS k_ Ao81 t251.length co81) ∧ zS k_ Ao36 t255.length co36) ∧ zS k_ Ao43 t261.length co43) ∧ zS k_ Ao47 t265.length co47) ∧ zS k_ Ao48 t268.length co48)) (n := t271.length) (c := co80) ?_).2.2; exact z23); (case side2 => exact (Kd.R_reads' HO273.out).2.1); (case side3 => refine (Kd.R_reads' (e := 3) (base := w.heap.size) (ok := fun k_ => ((((((((zS k_ Ao36 t255.length co36 ∧ zS k_ Ao29 t242.length co29) ∧ zS k_ Ao30 t245.length co30) ∧ zS k_ Ao31 t248.length co31) ∧ zS k_ Ao43 t261.length co43) ∧ zS k_ Ao47 t265.length co47) ∧ zS k_ Ao48 t268.length co48) ∧ zS k_ Ao80 t271.length co80) ∧ zS k_ Ao55 t275.length co55)) (n := t251.length) (c := co81) ?_).2.2; exact z24); (case side4 => exact (Kd.R_reads' HO253.out).2.1); rintro e w' ⟨rfl, ⟨nd, rfl⟩⟩; refine ⟨_, rfl, ?_⟩))
      go_meet
      case rel => exact ⟨_, (true), z54, H', ⟨by first | omega | exact Nat.le_refl _⟩, ⟨by (with_reducible repeat (first | apply Kd.R_alloc | apply Kd.R_drewN | apply Kd.R_drew)); exact Kd.R_mono (Kd.R_far (p := ⟨gb279, 1, none⟩) (Kd.R_far (p := ⟨gb279, 0, none⟩) (Kd.R_types HO253.out BK279.out z37) (fun _ hk => hk.2) (.int .i64 t274)) (fun _ hk => hk.2) (.slice Ao55 t275.length co55)) (fun _ hk => ⟨hk.1.1.1.1.2, ⟨hk.1.1.1.2, ⟨hk.1.1.2, ⟨hk.1.1.1.1.1.1.1.1.1, ⟨hk.1.1.1.1.1.2, hk.1.2⟩⟩⟩⟩⟩)⟩, ⟨by (with_reducible repeat (first | apply Kd.R_alloc | apply Kd.R_drewN | apply Kd.R_drew)); exact Kd.R_mono (Kd.R_far (p := ⟨gb279, 1, none⟩) (Kd.R_far (p := ⟨gb279, 0, none⟩) (Kd.R_types HO267.out BK279.out z37) (fun _ hk => hk.2) (.int .i64 t274)) (fun _ hk => hk.2) (.slice Ao55 t275.length co55)) (fun _ hk => ⟨hk.1.1.1.1.1.1.2, ⟨hk.1.1.1.2, ⟨hk.1.1.2, ⟨hk.1.1.1.1.1.2, ⟨hk.1.1.1.1.2, hk.1.2⟩⟩⟩⟩⟩)⟩, ⟨by (with_reducible repeat (first | apply Kd.R_alloc | apply Kd.R_drewN | apply Kd.R_drew)); exact Kd.R_mono (Kd.R_far (p := ⟨gb279, 1, none⟩) (Kd.R_far (p := ⟨gb279, 0, none⟩) (Kd.R_types HO270.out BK279.out z37) (fun _ hk => hk.2) (.int .i64 t274)) (fun _ hk => hk.2) (.slice Ao55 t275.length co55)) (fun _ hk => ⟨hk.1.1.1.1.1.1.2, ⟨hk.1.1.1.2, ⟨hk.1.1.2, ⟨hk.1.1.1.1.1.2, ⟨hk.1.1.1.1.2, hk.1.2⟩⟩⟩⟩⟩)⟩, ⟨Kd.Q_of_R (by (with_reducible repeat (first | apply Kd.R_alloc | apply Kd.R_drewN | apply Kd.R_drew)); exact Kd.R_mono (Kd.R_far (p := ⟨gb279, 1, none⟩) (Kd.R_far (p := ⟨gb279, 0, none⟩) (Kd.R_types HO273.out BK279.out z37) (fun _ hk => hk.2) (.int .i64 t274)) (fun _ hk => hk.2) (.slice Ao55 t275.length co55)) (fun _ hk => ⟨hk.1.1.1.1.1.2, ⟨hk.1.1.2, ⟨hk.1.2, ⟨hk.1.1.1.1.2, ⟨hk.1.1.1.2, hk.1.1.1.1.1.1.1.1.1⟩⟩⟩⟩⟩))⟩, ⟨Kd.Q_of_R (by (with_reducible repeat (first | apply Kd.R_alloc | apply Kd.R_drewN | apply Kd.R_drew)); exact Kd.R_mono (Kd.R_far (p := ⟨gb279, 1, none⟩) (Kd.R_far (p := ⟨gb279, 0, none⟩) (Kd.R_types HO257.out BK279.out z37) (fun _ hk => hk.2) (.int .i64 t274)) (fun _ hk => hk.2) (.slice Ao55 t275.length co55)) (fun _ hk => ⟨hk.1.1.1.1.1.1.1.1.1, ⟨hk.1.1.1.1.2, ⟨hk.1.1.1.2, ⟨hk.1.1.2, ⟨hk.1.1.1.1.1.2, hk.1.2⟩⟩⟩⟩⟩))⟩, ⟨Kd.Q_of_R (by (with_reducible repeat (first | apply Kd.R_alloc | apply Kd.R_drewN | apply Kd.R_drew)); exact Kd.R_mono (Kd.R_far (p := ⟨gb279, 1, none⟩) (Kd.R_far (p := ⟨gb279, 0, none⟩) (Kd.R_types HO263.out BK279.out z37) (fun _ hk => hk.2) (.int .i64 t274)) (fun _ hk => hk.2) (.slice Ao55 t275.length co55)) (fun _ hk => ⟨hk.1.1.1.1.1.1.2, ⟨hk.1.1.1.1.2, ⟨hk.1.1.1.2, ⟨hk.1.1.2, ⟨hk.1.1.1.1.1.2, hk.1.2⟩⟩⟩⟩⟩))⟩, ⟨by (with_reducible repeat (first | apply Kd.Q_alloc | apply Kd.Q_drewN | apply Kd.Q_drew)); exact Kd.Q_mono (Kd.Q_far (p := ⟨gb279, 1, none⟩) (Kd.Q_far (p := ⟨gb279, 0, none⟩) (Kd.Q_types HO277.out BK279.out z37) (fun _ hk => hk.2) (.int .i64 t274)) (fun _ hk => hk.2) (.slice Ao55 t275.length co55)) (fun _ hk => ⟨hk.1.1.1.1.1.2, ⟨hk.1.1.2, ⟨hk.1.2, ⟨hk.1.1.1.1.1.1.1.1.1, ⟨hk.1.1.1.1.2, hk.1.1.1.2⟩⟩⟩⟩⟩)⟩, ⟨z36⟩, ⟨z35⟩, ⟨z34⟩, ⟨z33⟩, ⟨z1⟩⟩
    case rest =>
     clear HC21
     (try clear c1); (try clear c2); (try clear p2); (try clear c3); (try clear c4); (try clear c4b0); (try clear c4b1); (try clear c5); (try clear c6); (try clear c6b0); (try clear c6b1); (try clear c7); (try clear c9); (try clear c9b0); (try clear c12); (try clear c19); (try clear c21); (try clear c22); (try clear c24); (try clear c34); (try clear c40); (try clear c41); (try clear c50); (try clear c51); (try clear c52); (try clear c53); (try clear c57); (try clear c59); (try clear c62); (try clear c63); (try clear c64); (try clear c66); (try clear c67); (try clear c72); (try clear c73); (try clear c74); (try clear c76); (try clear c77); (try clear hcz11_0); (try clear hcz11_1); (try clear hcz23_0); (try clear hcz23_1); (try clear hcz25_0); (try clear hcz25_1); (try clear hcz35_0); (try clear hcz35_1); (try clear hcz37_0); (try clear hcz37_1); (try clear hcz42_0); (try clear hcz42_1); (try clear hcz46_0); (try clear hcz46_1); (try clear hcz54_0); (try clear hcz54_1); (try clear hcz65_0); (try clear hcz65_1); (try clear hcz68_0); (try clear hcz68_1); (try clear hcz75_0); (try clear hcz75_1); (try clear hcz78_0); (try clear hcz78_1); (try clear hfz11_0); (try clear hfz11_1); (try clear hfz23_0); (try clear hfz23_1); (try clear hfz25_0); (try clear hfz25_1); (try clear hfz35_0); (try clear hfz35_1); (try clear hfz37_0); (try clear hfz37_1); (try clear hfz42_0); (try clear hfz42_1); (try clear hfz46_0); (try clear hfz46_1); (try clear hfz54_0); (try clear hfz54_1); (try clear hfz65_0); (try clear hfz65_1); (try clear hfz68_0); (try clear hfz68_1); (try clear hfz75_0); (try clear hfz75_1); (try clear hfz78_0); (try clear hfz78_1)
     obtain ⟨kq, x73_20, rfl, HA, HJ20, HO_8, HO_12, HO_13, HO_14, HO_260001, HO_265001, HO_280001, BK239, BK259, BK264, BK279, HB⟩ := hcut
     cases kq with
     | zero => exact absurd HA.out (by simp [laws_FnExactRunOrders.j0])
     | succ kj20 =>
      have H := HA.out
      clear HA
      simp only [laws_FnExactRunOrders.j0] at H
      by_cases c82 : x73_20 = true
      ·subst c82
       have H1 : (some false) = some r := z61
       clear H
       have H := H1
       clear H1
       obtain rfl := Option.some.inj H
       go_wp2
       go_ret
       exact ⟨z20, z1⟩
      ·replace c82 := Bool.eq_false_iff.mpr c82
       subst c82
       have H1 : ((laws_toFlow.f kj20 a0_0 l0_1).bind fun bt282 => ((laws_eqFlow.f kj20 t260 t261 bt282.1 bt282.2).bind fun t286 => (if t286 = true then ((laws_toIntS.f kj20 l1).bind fun t287 => ((laws_eqIntS.f kj20 t265 t287).bind fun t290 => (if t290 = true then ((laws_toIntS.f kj20 l2).bind fun t291 => ((laws_eqIntS.f kj20 t268 t291).bind fun t294 => (if t294 = true then ((laws_markFlow.f kj20 t260 t261 1).bind fun bt295 => ((laws_markIntS.f kj20 t265 bt295.1).bind fun bt297 => ((laws_markIntS.f kj20 t268 bt297.1).bind fun bt299 => (if bt299.1 < 0 then (laws_FnExactRunOrders.j1 kj20 l1 l2 t251 t258 t271 true a0_0 l0_1 t254 t255 t274 t275) else ((laws_eqIntS.f kj20 t271 t251).bind fun t301 => (if t301 = true then ((laws_eqFlow.f kj20 t274 t275 t254 t255).bind fun t302 => (if t302 = true then (laws_FnExactRunOrders.j1 kj20 l1 l2 t251 t258 t271 (t278 != t258) a0_0 l0_1 t254 t255 t274 t275) else (laws_FnExactRunOrders.j1 kj20 l1 l2 t251 t258 t271 true a0_0 l0_1 t254 t255 t274 t275))) else (laws_FnExactRunOrders.j1 kj20 l1 l2 t251 t258 t271 true a0_0 l0_1 t254 t255 t274 t275))))))) else (some false)))) else (some false)))) else (some false)))) = some r := z42
       clear H
       have H := H1
       clear H1
       replace H := Option.bind_eq_some_iff.mp H
       obtain ⟨⟨t282, t283⟩, A830, H⟩ := H
       (try dsimp only at H)
       have A83 := zA A830
       clear A830
       replace H := Option.bind_eq_some_iff.mp H
       obtain ⟨t286, A840, H⟩ := H
       (try dsimp only at H)
       have A84 := zA A840
       clear A840
       by_cases c85 : t286 = true
       ·subst c85
        have H1 : ((laws_toIntS.f kj20 l1).bind fun t287 => ((laws_eqIntS.f kj20 t265 t287).bind fun t290 => (if t290 = true then ((laws_toIntS.f kj20 l2).bind fun t291 => ((laws_eqIntS.f kj20 t268 t291).bind fun t294 => (if t294 = true then ((laws_markFlow.f kj20 t260 t261 1).bind fun bt295 => ((laws_markIntS.f kj20 t265 bt295.1).bind fun bt297 => ((laws_markIntS.f kj20 t268 bt297.1).bind fun bt299 => (if bt299.1 < 0 then (laws_FnExactRunOrders.j1 kj20 l1 l2 t251 t258 t271 true a0_0 l0_1 t254 t255 t274 t275) else ((laws_eqIntS.f kj20 t271 t251).bind fun t301 => (if t301 = true then ((laws_eqFlow.f kj20 t274 t275 t254 t255).bind fun t302 => (if t302 = true then (laws_FnExactRunOrders.j1 kj20 l1 l2 t251 t258 t271 (t278 != t258) a0_0 l0_1 t254 t255 t274 t275) else (laws_FnExactRunOrders.j1 kj20 l1 l2 t251 t258 t271 true a0_0 l0_1 t254 t255 t274 t275))) else (laws_FnExactRunOrders.j1 kj20 l1 l2 t251 t258 t271 true a0_0 l0_1 t254 t255 t274 t275))))))) else (some false)))) else (some false)))) = some r := z61
        clear H
        have H := H1
        clear H1
        replace H := Option.bind_eq_some_iff.mp H
        obtain ⟨t287, A860, H⟩ := H
        (try dsimp only at H)
        have A86 := zA A860
        clear A860
        replace H := Option.bind_eq_some_iff.mp H
        obtain ⟨t290, A870, H⟩ := H
        (try dsimp only at H)
        have A87 := zA A870
        clear A870
        by_cases c88 : t290 = true
        ·subst c88
         have H1 : ((laws_toIntS.f kj20 l2).bind fun t291 => ((laws_eqIntS.f kj20 t268 t291).bind fun t294 => (if t294 = true then ((laws_markFlow.f kj20 t260 t261 1).bind fun bt295 => ((laws_markIntS.f kj20 t265 bt295.1).bind fun bt297 => ((laws_markIntS.f kj20 t268 bt297.1).bind fun bt299 => (if bt299.1 < 0 then (laws_FnExactRunOrders.j1 kj20 l1 l2 t251 t258 t271 true a0_0 l0_1 t254 t255 t274 t275) else ((laws_eqIntS.f kj20 t271 t251).bind fun t301 => (if t301 = true then ((laws_eqFlow.f kj20 t274 t275 t254 t255).bind fun t302 => (if t302 = true then (laws_FnExactRunOrders.j1 kj20 l1 l2 t251 t258 t271 (t278 != t258) a0_0 l0_1 t254 t255 t274 t275) else (laws_FnExactRunOrders.j1 kj20 l1 l2 t251 t258 t271 true a0_0 l0_1 t254 t255 t274 t275))) else (laws_FnExactRunOrders.j1 kj20 l1 l2 t251 t258 t271 true a0_0 l0_1 t254 t255 t274 t275))))))) else (some false)))) = some r := z61
         clear H
         have H := H1
         clear H1
         replace H := Option.bind_eq_some_iff.mp H
         obtain ⟨t291, A890, H⟩ := H
         (try dsimp only at H)
         have A89 := zA A890
         clear A890
         replace H := Option.bind_eq_some_iff.mp H
         obtain ⟨t294, A900, H⟩ := H
         (try dsimp only at H)
         have A90 := zA A900
         clear A900
         by_cases c91 : t294 = true
         ·subst c91
          have H1 : ((laws_markFlow.f kj20 t260 t261 1).bind fun bt295 => ((laws_markIntS.f kj20 t265 bt295.1).bind fun bt297 => ((laws_markIntS.f kj20 t268 bt297.1).bind fun bt299 => (if bt299.1 < 0 then (laws_FnExactRunOrders.j1 kj20 l1 l2 t251 t258 t271 true a0_0 l0_1 t254 t255 t274 t275) else ((laws_eqIntS.f kj20 t271 t251).bind fun t301 => (if t301 = true then ((laws_eqFlow.f kj20 t274 t275 t254 t255).bind fun t302 => (if t302 = true then (laws_FnExactRunOrders.j1 kj20 l1 l2 t251 t258 t271 (t278 != t258) a0_0 l0_1 t254 t255 t274 t275) else (laws_FnExactRunOrders.j1 kj20 l1 l2 t251 t258 t271 true a0_0 l0_1 t254 t255 t274 t275))) else (laws_FnExactRunOrders.j1 kj20 l1 l2 t251 t258 t271 true a0_0 l0_1 t254 t255 t274 t275))))))) = some r := z61
          clear H
          have H := H1
          clear H1
          replace H := Option.bind_eq_some_iff.mp H
          obtain ⟨⟨t295, t296⟩, A920, H⟩ := H
          (try dsimp only at H)
          have A92 := zA A920
          clear A920
          replace H := Option.bind_eq_some_iff.mp H
          obtain ⟨⟨t297, t298⟩, A930, H⟩ := H
          (try dsimp only at H)
          have A93 := zA A930
          clear A930
          replace H := Option.bind_eq_some_iff.mp H
          obtain ⟨⟨t299, t300⟩, A940, H⟩ := H
          (try dsimp only at H)
          have A94 := zA A940
          clear A940
          have HC95 := zA H
          clear H
          try go_wp2
          have n0_ := zA (Kd.R_drew HO_8.out)
          have n1_ := zA (Kd.R_drew HO_12.out)
          have n2_ := zA (Kd.R_drew HO_13.out)
          have n3_ := zA (Kd.Q_drew HO_14.out)
          have n4_ := zA (Kd.Q_drew HO_260001.out)
          have n5_ := zA (Kd.Q_drew HO_265001.out)
          have n6_ := zA (Kd.Q_drew HO_280001.out)
          have n7_ := zA (blk_drew BK239.out)
          have n8_ := zA (blk_drew BK259.out)
          have n9_ := zA (blk_drew BK264.out)
          have n10_ := zA (blk_drew BK279.out)
          have n11_ := zA (below_drew1 HB.out)
          clear HO_8
          clear HO_12
          clear HO_13
          clear HO_14
          clear HO_260001
          clear HO_265001
          clear HO_280001
          clear BK239
          clear BK259
          clear BK264
          clear BK279
          clear HB
          have HO_8 := n0_
          have HO_12 := n1_
          have HO_13 := n2_
          have HO_14 := n3_
          have HO_260001 := n4_
          have HO_265001 := n5_
          have HO_280001 := n6_
          have BK239 := n7_
          have BK259 := n8_
          have BK264 := n9_
          have BK279 := n10_
          have HB := n11_
          clear n0_ n1_ n2_ n3_ n4_ n5_ n6_ n7_ n8_ n9_ n10_ n11_
          refine start_ (n := 5) (S := fun w' => w'.cell? ⟨gb264, 0, none⟩ = some (.int .i64 t260) ∧ w'.cell? ⟨gb264, 1, none⟩ = some (.slice Ao43 t261.length co43) ∧ w'.cell? ⟨gb239, 0, none⟩ = some (.int .i64 a0_0) ∧ w'.cell? ⟨gb239, 1, none⟩ = some (.slice A0_1 l0_1.length c0_1)) (ds := []) #[false, false, false, false, false] z28 rfl rfl ⟨(blk_cell BK264.out 0).trans rfl, (blk_cell BK264.out 1).trans rfl, (blk_cell BK239.out 0).trans rfl, (blk_cell BK239.out 1).trans rfl⟩ (fun hHeld => ?_)
          generalize wc.drew = w96 at HO_8 HO_12 HO_13 HO_14 HO_260001 HO_265001 HO_280001 BK239 BK259 BK264 BK279 HB hHeld ⊢
          refine take_ (i := 0) (N := some 74) (v := ?_) (a' := ?_) #[true, false, false, false, false] rfl rfl z28 (fun _ _ _ h => h) (Or.inl ⟨by rfl, ?_⟩) hHeld ?_ ?_
          rotate_left
          ·rintro w' ⟨s0, s1, s2, s3⟩
           go_simp
           with_reducible rfl
          rotate_left
          ·simp only [Act.put, List.setIfInBounds_toArray, List.set_cons_zero, List.set_cons_succ, i64_w, i32_w]
           rfl
          refine take_ (i := 1) (N := some 75) (v := ?_) (a' := ?_) #[true, true, false, false, false] rfl rfl z28 (fun _ _ _ h => h) (Or.inl ⟨by rfl, ?_⟩) hHeld ?_ ?_
          rotate_left
          ·rintro w' ⟨s0, s1, s2, s3⟩
           go_simp
           with_reducible rfl
          rotate_left
          ·simp only [Act.put, List.setIfInBounds_toArray, List.set_cons_zero, List.set_cons_succ, i64_w, i32_w]
           rfl
          refine one_ (i := 2) (N := some 76) #[true, true, true, false, false] rfl rfl z28 z37 (fun K hK => ?_)
          refine goes_ Try.func24 z28 rfl #[.agg #[.int .i64 a0_0, .slice A0_1 l0_1.length c0_1]] (by rfl) rfl rfl z2 ?_
          with_reducible refine (laws_toFlow.calls kj20 a0_0 _ _ l0_1 t282 t283 _ ?side1 ?side2 A83.out).mono ?_
          (case side1 => have zh := (Kd.C_below HR0_1.out HB.out); exact zC)
          (case side2 => exact HC0_1.out)
          rintro e w97 ⟨v284, rfl, ho0, hb⟩
          refine ⟨_, rfl, ?_⟩
          have n0_ := zA (Kd.R_elder' z11 (Kd.R_base ho0) hb)
          have n1_ := zA (Kd.R_elder' z16 (Kd.R_base ho0) hb)
          have n2_ := zA (Kd.R_elder' z15 (Kd.R_base ho0) hb)
          have n3_ := zA (Kd.Q_elder' z10 (Kd.R_base ho0) hb)
          have n4_ := zA (Kd.Q_elder' z9 (Kd.R_base ho0) hb)
          have n5_ := zA (Kd.Q_elder' z8 (Kd.R_base ho0) hb)
          have n6_ := zA (Kd.Q_elder' z7 (Kd.R_base ho0) hb)
          have n7_ := zA (Kd.R_lower (Kd.R_new' (Kd.R_new' (Kd.R_new' (Kd.R_new' (Kd.R_new' (Kd.R_new' (Kd.R_new' ho0 (Kd.R_lt z11)) (Kd.R_lt z16)) (Kd.R_lt z15)) (Kd.Q_lt z10)) (Kd.Q_lt z9)) (Kd.Q_lt z8)) (Kd.Q_lt z7)) (below_size z1))
          have n8_ := zA (blk_below (g := gb239) (o := .cells #[.int .i64 a0_0, .slice A0_1 l0_1.length c0_1] 35 (0, 0)) z3 hb)
          have n9_ := zA (blk_below (g := gb259) (o := .cells #[.int .i64 t254, .slice Ao36 t255.length co36] 38 (0, 0)) z4 hb)
          have n10_ := zA (blk_below (g := gb264) (o := .cells #[.int .i64 t260, .slice Ao43 t261.length co43] 38 (0, 0)) z5 hb)
          have n11_ := zA (blk_below (g := gb279) (o := .cells #[.int .i64 t274, .slice Ao55 t275.length co55] 38 (0, 0)) z6 hb)
          have n12_ := zA (below_step z1 hb)
          clear HO_8
          clear HO_12
          clear HO_13
          clear HO_14
          clear HO_260001
          clear HO_265001
          clear HO_280001
          clear BK239
          clear BK259
          clear BK264
          clear BK279
          clear HB
          have HO_8 := n0_
          have HO_12 := n1_
          have HO_13 := n2_
          have HO_14 := n3_
          have HO_260001 := n4_
          have HO_265001 := n5_
          have HO_280001 := n6_
          have HO285 := n7_
          have BK239 := n8_
          have BK259 := n9_
          have BK264 := n10_
          have BK279 := n11_
          have HB := n12_
          clear n0_ n1_ n2_ n3_ n4_ n5_ n6_ n7_ n8_ n9_ n10_ n11_ n12_
          (try clear hb)
          (try clear hb2)
          (try clear hk)
          (try clear hi)
          (try clear ho0)
          obtain ⟨Ao98, co98, eo98⟩ := Kd.R_slice HO285.out
          (first | subst eo98 | (injection eo98 with f1_ f2_ f3_; have f4_ := f1_.symm; have f5_ := f3_.symm; clear f1_ f2_ f3_; subst f4_; subst f5_))
          refine hK.out _ _ ⟨(blk_cell BK264.out 0).trans rfl, (blk_cell BK264.out 1).trans rfl, (blk_cell BK239.out 0).trans rfl, (blk_cell BK239.out 1).trans rfl⟩ (fun hHeld => ?_)
          clear hK K
          refine norm_ (a' := ?_) ?_ ?_
          rotate_left
          ·show Act.put _ (some 76) _ = _
           simp only [Act.put, List.setIfInBounds_toArray, List.set_cons_zero, List.set_cons_succ, i64_w, i32_w]
           rfl
          refine one_ (i := 3) (N := some 77) #[true, true, true, true, false] rfl rfl z28 z37 (fun K hK => ?_)
          refine goes_ Try.func26 z28 rfl #[.agg #[.int .i64 t260, .slice Ao43 t261.length co43], .agg #[.int .i64 t282, .slice Ao98 t283.length co98]] (by rfl) rfl rfl z2 ?_
          with_reducible refine (laws_eqFlow.calls kj20 t260 _ _ t261 t282 _ _ t283 true _ ?side1 ?side2 ?side3 ?side4 A84.out).mono ?_
          (case side1 => have zh := (Kd.Q_reads' HO_265001.out).2.2; exact zC)
          (case side2 => exact (Kd.Q_reads' HO_265001.out).2.1)
          (case side3 => have zh := (Kd.R_reads' HO285.out).2.2; exact zC)
          (case side4 => exact (Kd.R_reads' HO285.out).2.1)
          rintro e w99 ⟨rfl, hb⟩
          refine ⟨_, rfl, ?_⟩
          have n0_ := zA (Kd.R_below z11 hb)
          have n1_ := zA (Kd.R_below z16 hb)
          have n2_ := zA (Kd.R_below z15 hb)
          have n3_ := zA (Kd.Q_below z10 hb)
          have n4_ := zA (Kd.Q_below z9 hb)
          have n5_ := zA (Kd.Q_below z8 hb)
          have n6_ := zA (Kd.Q_below z7 hb)
          have n7_ := zA (Kd.R_below z17 hb)
          have n8_ := zA (blk_below (g := gb239) (o := .cells #[.int .i64 a0_0, .slice A0_1 l0_1.length c0_1] 35 (0, 0)) z3 hb)
          have n9_ := zA (blk_below (g := gb259) (o := .cells #[.int .i64 t254, .slice Ao36 t255.length co36] 38 (0, 0)) z4 hb)
          have n10_ := zA (blk_below (g := gb264) (o := .cells #[.int .i64 t260, .slice Ao43 t261.length co43] 38 (0, 0)) z5 hb)
          have n11_ := zA (blk_below (g := gb279) (o := .cells #[.int .i64 t274, .slice Ao55 t275.length co55] 38 (0, 0)) z6 hb)
          have n12_ := zA (below_step z1 hb)
          clear HO_8
          clear HO_12
          clear HO_13
          clear HO_14
          clear HO_260001
          clear HO_265001
          clear HO_280001
          clear HO285
          clear BK239
          clear BK259
          clear BK264
          clear BK279
          clear HB
          have HO_8 := n0_
          have HO_12 := n1_
          have HO_13 := n2_
          have HO_14 := n3_
          have HO_260001 := n4_
          have HO_265001 := n5_
          have HO_280001 := n6_
          have HO285 := n7_
          have BK239 := n8_
          have BK259 := n9_
          have BK264 := n10_
          have BK279 := n11_
          have HB := n12_
          clear n0_ n1_ n2_ n3_ n4_ n5_ n6_ n7_ n8_ n9_ n10_ n11_ n12_
          (try clear hb)
          (try clear hb2)
          (try clear hk)
          (try clear hi)
          refine hK.out _ _ ⟨(blk_cell BK264.out 0).trans rfl, (blk_cell BK264.out 1).trans rfl, (blk_cell BK239.out 0).trans rfl, (blk_cell BK239.out 1).trans rfl⟩ (fun hHeld => ?_)
          clear hK K
          refine norm_ (a' := ?_) ?_ ?_
          rotate_left
          ·show Act.put _ (some 77) _ = _
           simp only [Act.put, List.setIfInBounds_toArray, List.set_cons_zero, List.set_cons_succ, i64_w, i32_w]
           rfl
          refine pure_ (i := 4) (N := some 78) (v := ?_) (a' := ?_) #[true, true, true, true, true] rfl rfl z28 (fun _ _ _ h => h) (Or.inl ⟨by rfl, ?_⟩) ?_ ?_
          rotate_left
          ·intro w'
           go_simp
           with_reducible rfl
          rotate_left
          ·simp only [Act.put, List.setIfInBounds_toArray, List.set_cons_zero, List.set_cons_succ, i64_w, i32_w]
           rfl
          refine done_ z28 ?_
          go_upto_region 26 with (first | ((with_reducible refine gate_callee (f := 19) rfl ?_); refine goesL_ (some 81) rfl rfl Try.func19 z28 rfl #[.slice A1 l1.length c1] rfl z2 ?_; (with_reducible refine (laws_toIntS.calls kj20 _ _ l1 t287 _ ?side1 ?side2 A86.out).mono ?_); (case side1 => have zh := (Kd.C_below HR1.out HB.out); exact zC); (case side2 => exact HC1.out); rintro e w100 ⟨v288, rfl, ho0, hb⟩; refine ⟨_, rfl, ?_⟩; have n0_ := zA (Kd.R_elder' z11 (Kd.R_base ho0) hb); have n1_ := zA (Kd.R_elder' z16 (Kd.R_base ho0) hb); have n2_ := zA (Kd.R_elder' z15 (Kd.R_base ho0) hb); have n3_ := zA (Kd.Q_elder' z10 (Kd.R_base ho0) hb); have n4_ := zA (Kd.Q_elder' z9 (Kd.R_base ho0) hb); have n5_ := zA (Kd.Q_elder' z8 (Kd.R_base ho0) hb); have n6_ := zA (Kd.Q_elder' z7 (Kd.R_base ho0) hb); have n7_ := zA (Kd.R_elder' z17 (Kd.R_base ho0) hb); have n8_ := zA (Kd.R_lower (Kd.R_new' (Kd.R_new' (Kd.R_new' (Kd.R_new' (Kd.R_new' (Kd.R_new' (Kd.R_new' (Kd.R_new' ho0 (Kd.R_lt z11)) (Kd.R_lt z16)) (Kd.R_lt z15)) (Kd.Q_lt z10)) (Kd.Q_lt z9)) (Kd.Q_lt z8)) (Kd.Q_lt z7)) (Kd.R_lt z17)) (below_size z1)); have n9_ := zA (blk_below (g := gb239) (o := .cells #[.int .i64 a0_0, .slice A0_1 l0_1.length c0_1] 35 (0, 0)) z3 hb); have n10_ := zA (blk_below (g := gb259) (o := .cells #[.int .i64 t254, .slice Ao36 t255.length co36] 38 (0, 0)) z4 hb); have n11_ := zA (blk_below (g := gb264) (o := .cells #[.int .i64 t260, .slice Ao43 t261.length co43] 38 (0, 0)) z5 hb); have n12_ := zA (blk_below (g := gb279) (o := .cells #[.int .i64 t274, .slice Ao55 t275.length co55] 38 (0, 0)) z6 hb); have n13_ := zA (below_step z1 hb); clear HO_8 HO_12 HO_13 HO_14 HO_260001 HO_265001 HO_280001 HO285 BK239 BK259 BK264 BK279 HB; revert n0_ n1_ n2_ n3_ n4_ n5_ n6_ n7_ n8_ n9_ n10_ n11_ n12_ n13_; intro HO_8 HO_12 HO_13 HO_14 HO_260001 HO_265001 HO_280001 HO285 HO289 BK239 BK259 BK264 BK279 HB; (try clear hb); (try clear hb2); (try clear hk); (try clear hi); (try clear ho0); obtain ⟨Ao101, co101, eo101⟩ := Kd.R_slice HO289.out; subst eo101) | ((with_reducible refine gate_callee (f := 21) rfl ?_); refine goesL_ (some 82) rfl rfl Try.func21 z28 rfl #[.slice Ao47 t265.length co47, .slice Ao101 t287.length co101] rfl z2 ?_; (with_reducible refine (laws_eqIntS.calls kj20 _ _ t265 _ _ t287 true _ ?side1 ?side2 ?side3 ?side4 A87.out).mono ?_); (case side1 => have zh := (Kd.R_reads' HO_12.out).2.2; exact zC); (case side2 => exact (Kd.R_reads' HO_12.out).2.1); (case side3 => have zh := (Kd.R_reads' HO289.out).2.2; exact zC); (case side4 => exact (Kd.R_reads' HO289.out).2.1); rintro e w' ⟨rfl, ⟨nd, rfl⟩⟩; refine ⟨_, rfl, ?_⟩) | ((with_reducible refine gate_callee (f := 19) rfl ?_); refine goesL_ (some 86) rfl rfl Try.func19 z28 rfl #[.slice A2 l2.length c2] rfl z2 ?_; (with_reducible refine (laws_toIntS.calls kj20 _ _ l2 t291 _ ?side1 ?side2 A89.out).mono ?_); (case side1 => repeat (first | exact (Kd.C_below HR2.out z1) | (with_reducible refine Kd.C_alloc ?_ _) | (with_reducible refine Kd.C_drewN ?_ _) | (with_reducible refine Kd.C_drew ?_))); (case side2 => exact HC2.out); rintro e w102 ⟨v292, rfl, ho0, hb⟩; refine ⟨_, rfl, ?_⟩; have n0_ := zA (Kd.R_elder' z11 (Kd.R_base ho0) hb); have n1_ := zA (Kd.R_elder' z16 (Kd.R_base ho0) hb); have n2_ := zA (Kd.R_elder' z15 (Kd.R_base ho0) hb); have n3_ := zA (Kd.Q_elder' z10 (Kd.R_base ho0) hb); have n4_ := zA (Kd.Q_elder' z9 (Kd.R_base ho0) hb); have n5_ := zA (Kd.Q_elder' z8 (Kd.R_base ho0) hb); have n6_ := zA (Kd.Q_elder' z7 (Kd.R_base ho0) hb); have n7_ := zA (Kd.R_elder' z17 (Kd.R_base ho0) hb); have n8_ := zA (Kd.R_elder' z50 (Kd.R_base ho0) hb); have n9_ := zA (Kd.R_lower (Kd.R_new' (Kd.R_new' (Kd.R_new' (Kd.R_new' (Kd.R_new' (Kd.R_new' (Kd.R_new' (Kd.R_new' (Kd.R_new' ho0 (Kd.R_lt z11)) (Kd.R_lt z16)) (Kd.R_lt z15)) (Kd.Q_lt z10)) (Kd.Q_lt z9)) (Kd.Q_lt z8)) (Kd.Q_lt z7)) (Kd.R_lt z17)) (Kd.R_lt z50)) (below_size z1)); have n10_ := zA (blk_below (g := gb239) (o := .cells #[.int .i64 a0_0, .slice A0_1 l0_1.length c0_1] 35 (0, 0)) z3 hb); have n11_ := zA (blk_below (g := gb259) (o := .cells #[.int .i64 t254, .slice Ao36 t255.length co36] 38 (0, 0)) z4 hb); have n12_ := zA (blk_below (g := gb264) (o := .cells #[.int .i64 t260, .slice Ao43 t261.length co43] 38 (0, 0)) z5 hb); have n13_ := zA (blk_below (g := gb279) (o := .cells #[.int .i64 t274, .slice Ao55 t275.length co55] 38 (0, 0)) z6 hb); have n14_ := zA (below_step z1 hb); clear HO_8 HO_12 HO_13 HO_14 HO_260001 HO_265001 HO_280001 HO285 HO289 BK239 BK259 BK264 BK279 HB; revert n0_ n1_ n2_ n3_ n4_ n5_ n6_ n7_ n8_ n9_ n10_ n11_ n12_ n13_ n14_; intro HO_8 HO_12 HO_13 HO_14 HO_260001 HO_265001 HO_280001 HO285 HO289 HO293 BK239 BK259 BK264 BK279 HB; (try clear hb); (try clear hb2); (try clear hk); (try clear hi); (try clear ho0); obtain ⟨Ao103, co103, eo103⟩ := Kd.R_slice HO293.out; subst eo103) | ((with_reducible refine gate_callee (f := 21) rfl ?_); refine goesL_ (some 87) rfl rfl Try.func21 z28 rfl #[.slice Ao48 t268.length co48, .slice Ao103 t291.length co103] rfl z2 ?_; (with_reducible refine (laws_eqIntS.calls kj20 _ _ t268 _ _ t291 true _ ?side1 ?side2 ?side3 ?side4 A90.out).mono ?_); (case side1 => have zh := (Kd.R_reads' HO_13.out).2.2; exact zC); (case side2 => exact (Kd.R_reads' HO_13.out).2.1); (case side3 => have zh := (Kd.R_reads' HO293.out).2.2; exact zC); (case side4 => exact (Kd.R_reads' HO293.out).2.1); rintro e w' ⟨rfl, ⟨nd, rfl⟩⟩; refine ⟨_, rfl, ?_⟩; have hnb104 := NB264_239.out; have hnc104 := NB239_264.out; have hnb105 := NB264_259.out; have hnc105 := NB259_264.out; have hnb106 := NB264_279.out; have hnc106 := NB279_264.out; have hcz107_0 : w102.cell? ⟨gb264, 0, none⟩ = some (.int .i64 t260) := (blk_cell BK264.out 0).trans rfl; have hcz107_1 : w102.cell? ⟨gb264, 1, none⟩ = some (.slice Ao43 t261.length co43) := (blk_cell BK264.out 1).trans rfl; have hfz107_0 := blk_frozen BK264.out 0; have hfz107_1 := blk_frozen BK264.out 1) | ((with_reducible refine gate_callee (f := 43) rfl ?_); refine goesL_ (some 91) rfl rfl Try.func43 z28 rfl #[.agg #[.int .i64 t260, .slice Ao43 t261.length co43], .int .i64 1] rfl z2 ?_; (with_reducible refine (laws_markFlow.calls kj20 t260 (fun k_ => some k_ = (.slice Ao43 t261.length co43 : Value).ownBlock) (.slice Ao43 t261.length co43) t261 1 t295 t296 w _ ?side1 ?side2 A92.out).mono ?_); (case side1 => repeat (first | (with_reducible first | exact HB.out | apply below_alloc | apply pw_below_drewN | apply below_drew1 | refine below_set ?_ GE239.out | refine below_set ?_ GE259.out | refine below_set ?_ GE264.out | refine below_set ?_ GE279.out) | exact HB.out)); (case side2 => exact Kd.Q_tight rfl HO_265001.out); rintro e w108 ⟨rfl, hy0, hb, hkp⟩; refine ⟨_, rfl, ?_⟩; have n0_ := zA (Kd.R_mono (ok' := fun k_ => zS k_ Ao47 t265.length co47 ∧ zS k_ Ao48 t268.length co48 ∧ zV k_ v272 ∧ zS k_ Ao36 t255.length co36 ∧ zS k_ Ao43 t261.length co43 ∧ zS k_ Ao55 t275.length co55 ∧ zS k_ Ao98 t283.length co98 ∧ zS k_ Ao101 t287.length co101 ∧ zS k_ Ao103 t291.length co103) (Kd.R_keptB (HO_8.out) hkp (fun k_ hk_ hs_ => (hk_.1.1.1.2.2.2.2.1) hs_)) (fun k_ hk_ => ⟨hk_.1.1.1.1.1, hk_.1.1.1.1.2.1, hk_.1.1.1.1.2.2.1, hk_.1.1.1.1.2.2.2.1, hk_.1.1.1.1.2.2.2.2.1, hk_.1.1.1.1.2.2.2.2.2, hk_.1.1.1.2, hk_.1.1.2, hk_.1.2⟩)); have n1_ := zA (Kd.R_mono (ok' := fun k_ => zV k_ v252 ∧ zS k_ Ao48 t268.length co48 ∧ zV k_ v272 ∧ zS k_ Ao36 t255.length co36 ∧ zS k_ Ao43 t261.length co43 ∧ zS k_ Ao55 t275.length co55 ∧ zS k_ Ao98 t283.length co98 ∧ zS k_ Ao101 t287.length co101 ∧ zS k_ Ao103 t291.length co103) (Kd.R_keptB (HO_12.out) hkp (fun k_ hk_ hs_ => (hk_.1.1.1.2.2.2.2.1) hs_)) (fun k_ hk_ => ⟨hk_.1.1.1.1.1, hk_.1.1.1.1.2.1, hk_.1.1.1.1.2.2.1, hk_.1.1.1.1.2.2.2.1, hk_.1.1.1.1.2.2.2.2.1, hk_.1.1.1.1.2.2.2.2.2, hk_.1.1.1.2, hk_.1.1.2, hk_.1.2⟩)); have n2_ := zA (Kd.R_mono (ok' := fun k_ => zV k_ v252 ∧ zS k_ Ao47 t265.length co47 ∧ zV k_ v272 ∧ zS k_ Ao36 t255.length co36 ∧ zS k_ Ao43 t261.length co43 ∧ zS k_ Ao55 t275.length co55 ∧ zS k_ Ao98 t283.length co98 ∧ zS k_ Ao101 t287.length co101 ∧ zS k_ Ao103 t291.length co103) (Kd.R_keptB (HO_13.out) hkp (fun k_ hk_ hs_ => (hk_.1.1.1.2.2.2.2.1) hs_)) (fun k_ hk_ => ⟨hk_.1.1.1.1.1, hk_.1.1.1.1.2.1, hk_.1.1.1.1.2.2.1, hk_.1.1.1.1.2.2.2.1, hk_.1.1.1.1.2.2.2.2.1, hk_.1.1.1.1.2.2.2.2.2, hk_.1.1.1.2, hk_.1.1.2, hk_.1.2⟩)); have n3_ := zA (Kd.Q_mono (ok' := fun k_ => zV k_ v252 ∧ zS k_ Ao47 t265.length co47 ∧ zS k_ Ao48 t268.length co48 ∧ zS k_ Ao36 t255.length co36 ∧ zS k_ Ao43 t261.length co43 ∧ zS k_ Ao55 t275.length co55 ∧ zS k_ Ao98 t283.length co98 ∧ zS k_ Ao101 t287.length co101 ∧ zS k_ Ao103 t291.length co103) (Kd.Q_keptB (HO_14.out) hkp (fun k_ hk_ hs_ => (hk_.1.1.1.2.2.2.2.1) hs_)) (fun k_ hk_ => ⟨hk_.1.1.1.1.1, hk_.1.1.1.1.2.1, hk_.1.1.1.1.2.2.1, hk_.1.1.1.1.2.2.2.1, hk_.1.1.1.1.2.2.2.2.1, hk_.1.1.1.1.2.2.2.2.2, hk_.1.1.1.2, hk_.1.1.2, hk_.1.2⟩)); have n4_ := zA (Kd.Q_mono (ok' := fun k_ => zV k_ v252 ∧ zS k_ Ao47 t265.length co47 ∧ zS k_ Ao48 t268.length co48 ∧ zV k_ v272 ∧ zS k_ Ao43 t261.length co43 ∧ zS k_ Ao55 t275.length co55 ∧ zS k_ Ao98 t283.length co98 ∧ zS k_ Ao101 t287.length co101 ∧ zS k_ Ao103 t291.length co103) (Kd.Q_keptB (HO_260001.out) hkp (fun k_ hk_ hs_ => (hk_.1.1.1.2.2.2.2.1) hs_)) (fun k_ hk_ => ⟨hk_.1.1.1.1.1, hk_.1.1.1.1.2.1, hk_.1.1.1.1.2.2.1, hk_.1.1.1.1.2.2.2.1, hk_.1.1.1.1.2.2.2.2.1, hk_.1.1.1.1.2.2.2.2.2, hk_.1.1.1.2, hk_.1.1.2, hk_.1.2⟩)); have n5_ := zA (Kd.Q_mono (Kd.Q_tight rfl hy0) (fun k_ hk_ => HO_265001.out.1 k_ hk_.symm)); have n6_ := zA (Kd.Q_mono (ok' := fun k_ => zV k_ v252 ∧ zS k_ Ao47 t265.length co47 ∧ zS k_ Ao48 t268.length co48 ∧ zV k_ v272 ∧ zS k_ Ao36 t255.length co36 ∧ zS k_ Ao43 t261.length co43 ∧ zS k_ Ao98 t283.length co98 ∧ zS k_ Ao101 t287.length co101 ∧ zS k_ Ao103 t291.length co103) (Kd.Q_keptB (HO_280001.out) hkp (fun k_ hk_ hs_ => (hk_.1.1.1.2.2.2.2.2) hs_)) (fun k_ hk_ => ⟨hk_.1.1.1.1.1, hk_.1.1.1.1.2.1, hk_.1.1.1.1.2.2.1, hk_.1.1.1.1.2.2.2.1, hk_.1.1.1.1.2.2.2.2.1, hk_.1.1.1.1.2.2.2.2.2, hk_.1.1.1.2, hk_.1.1.2, hk_.1.2⟩)); have n7_ := zA (blk_kept (g := gb239) (o := .cells #[.int .i64 a0_0, .slice A0_1 l0_1.length c0_1] 35 (0, 0)) z3 hkp (fun hs_ => (fun e_ => (Kd.Q_ne HO_265001.out BK239.out z37) e_) hs_)); have n8_ := zA (blk_kept (g := gb259) (o := .cells #[.int .i64 t254, .slice Ao36 t255.length co36] 38 (0, 0)) z4 hkp (fun hs_ => (fun e_ => (Kd.Q_ne HO_265001.out BK259.out z37) e_) hs_)); have n9_ := zA (blk_kept (g := gb264) (o := .cells #[.int .i64 t260, .slice Ao43 t261.length co43] 38 (0, 0)) z5 hkp (fun hs_ => (fun e_ => (Kd.Q_ne HO_265001.out BK264.out z37) e_) hs_)); have n10_ := zA (blk_kept (g := gb279) (o := .cells #[.int .i64 t274, .slice Ao55 t275.length co55] 38 (0, 0)) z6 hkp (fun hs_ => (fun e_ => (Kd.Q_ne HO_265001.out BK279.out z37) e_) hs_)); have n11_ := zA (Kd.R_mono (ok' := fun k_ => zV k_ v252 ∧ zS k_ Ao47 t265.length co47 ∧ zS k_ Ao48 t268.length co48 ∧ zV k_ v272 ∧ zS k_ Ao36 t255.length co36 ∧ zS k_ Ao43 t261.length co43 ∧ zS k_ Ao55 t275.length co55 ∧ zS k_ Ao101 t287.length co101 ∧ zS k_ Ao103 t291.length co103) (Kd.R_keptB (HO285.out) hkp (fun k_ hk_ hs_ => (hk_.1.1.1.2) hs_)) (fun k_ hk_ => ⟨hk_.1.1.1.1.1.1.1.1.1.2, hk_.1.1.1.1.1.1.1.1.2, hk_.1.1.1.1.1.1.1.2, hk_.1.1.1.1.1.1.2, hk_.1.1.1.1.1.2, hk_.1.1.1.1.2, hk_.1.1.1.2, hk_.1.1.2, hk_.1.2⟩)); have n12_ := zA (Kd.R_mono (ok' := fun k_ => zV k_ v252 ∧ zS k_ Ao47 t265.length co47 ∧ zS k_ Ao48 t268.length co48 ∧ zV k_ v272 ∧ zS k_ Ao36 t255.length co36 ∧ zS k_ Ao43 t261.length co43 ∧ zS k_ Ao55 t275.length co55 ∧ zS k_ Ao98 t283.length co98 ∧ zS k_ Ao103 t291.length co103) (Kd.R_keptB (HO289.out) hkp (fun k_ hk_ hs_ => (hk_.1.1.1.2) hs_)) (fun k_ hk_ => ⟨hk_.1.1.1.1.1.1.1.1.1.2, hk_.1.1.1.1.1.1.1.1.2, hk_.1.1.1.1.1.1.1.2, hk_.1.1.1.1.1.1.2, hk_.1.1.1.1.1.2, hk_.1.1.1.1.2, hk_.1.1.1.2, hk_.1.1.2, hk_.1.2⟩)); have n13_ := zA (Kd.R_mono (ok' := fun k_ => zV k_ v252 ∧ zS k_ Ao47 t265.length co47 ∧ zS k_ Ao48 t268.length co48 ∧ zV k_ v272 ∧ zS k_ Ao36 t255.length co36 ∧ zS k_ Ao43 t261.length co43 ∧ zS k_ Ao55 t275.length co55 ∧ zS k_ Ao98 t283.length co98 ∧ zS k_ Ao101 t287.length co101) (Kd.R_keptB (HO293.out) hkp (fun k_ hk_ hs_ => (hk_.1.1.1.2) hs_)) (fun k_ hk_ => ⟨hk_.1.1.1.1.1.1.1.1.1.2, hk_.1.1.1.1.1.1.1.1.2, hk_.1.1.1.1.1.1.1.2, hk_.1.1.1.1.1.1.2, hk_.1.1.1.1.1.2, hk_.1.1.1.1.2, hk_.1.1.1.2, hk_.1.1.2, hk_.1.2⟩)); have n14_ := zA (hb); clear HO_8 HO_12 HO_13 HO_14 HO_260001 HO_265001 HO_280001 BK239 BK259 BK264 BK279 HO285 HO289 HO293 HB; revert n0_ n1_ n2_ n3_ n4_ n5_ n6_ n7_ n8_ n9_ n10_ n11_ n12_ n13_ n14_; intro HO_8 HO_12 HO_13 HO_14 HO_260001 HO_265001 HO_280001 BK239 BK259 BK264 BK279 HO285 HO289 HO293 HB; (try clear hb); (try clear hkp); (try clear hy0)) | ((with_reducible refine gate_callee (f := 29) rfl ?_); refine goesL_ (some 94) rfl rfl Try.func29 z28 rfl #[.slice Ao47 t265.length co47, .int .i64 t295] rfl z2 ?_; (with_reducible refine (laws_markIntS.calls kj20 (fun k_ => some k_ = (.slice Ao47 t265.length co47 : Value).ownBlock) (.slice Ao47 t265.length co47) t265 t295 t297 t298 w _ ?side1 ?side2 A93.out).mono ?_); (case side1 => repeat (first | (with_reducible first | exact HB.out | apply below_alloc | apply pw_below_drewN | apply below_drew1 | refine below_set ?_ GE239.out | refine below_set ?_ GE259.out | refine below_set ?_ GE264.out | refine below_set ?_ GE279.out) | exact HB.out)); (case side2 => exact Kd.Q_tight rfl (Kd.Q_of_R HO_12.out)); rintro e w109 ⟨rfl, hy0, hb, hkp⟩; refine ⟨_, rfl, ?_⟩; have n0_ := zA (Kd.R_mono (ok' := fun k_ => zS k_ Ao47 t265.length co47 ∧ zS k_ Ao48 t268.length co48 ∧ zV k_ v272 ∧ zS k_ Ao36 t255.length co36 ∧ zS k_ Ao43 t261.length co43 ∧ zS k_ Ao55 t275.length co55 ∧ zS k_ Ao98 t283.length co98 ∧ zS k_ Ao101 t287.length co101 ∧ zS k_ Ao103 t291.length co103) (Kd.R_keptB (HO_8.out) hkp (fun k_ hk_ hs_ => (hk_.1) hs_)) (fun k_ hk_ => ⟨hk_.1.1, hk_.1.2.1, hk_.1.2.2.1, hk_.1.2.2.2.1, hk_.1.2.2.2.2.1, hk_.1.2.2.2.2.2.1, hk_.1.2.2.2.2.2.2.1, hk_.1.2.2.2.2.2.2.2.1, hk_.1.2.2.2.2.2.2.2.2⟩)); have n1_ := zA (Kd.Q_mono (Kd.Q_tight rfl hy0) (fun k_ hk_ => HO_12.out.1 k_ hk_.symm)); have n2_ := zA (Kd.R_mono (ok' := fun k_ => zV k_ v252 ∧ zS k_ Ao47 t265.length co47 ∧ zV k_ v272 ∧ zS k_ Ao36 t255.length co36 ∧ zS k_ Ao43 t261.length co43 ∧ zS k_ Ao55 t275.length co55 ∧ zS k_ Ao98 t283.length co98 ∧ zS k_ Ao101 t287.length co101 ∧ zS k_ Ao103 t291.length co103) (Kd.R_keptB (HO_13.out) hkp (fun k_ hk_ hs_ => (hk_.2.1) hs_)) (fun k_ hk_ => ⟨hk_.1.1, hk_.1.2.1, hk_.1.2.2.1, hk_.1.2.2.2.1, hk_.1.2.2.2.2.1, hk_.1.2.2.2.2.2.1, hk_.1.2.2.2.2.2.2.1, hk_.1.2.2.2.2.2.2.2.1, hk_.1.2.2.2.2.2.2.2.2⟩)); have n3_ := zA (Kd.Q_mono (ok' := fun k_ => zV k_ v252 ∧ zS k_ Ao47 t265.length co47 ∧ zS k_ Ao48 t268.length co48 ∧ zS k_ Ao36 t255.length co36 ∧ zS k_ Ao43 t261.length co43 ∧ zS k_ Ao55 t275.length co55 ∧ zS k_ Ao98 t283.length co98 ∧ zS k_ Ao101 t287.length co101 ∧ zS k_ Ao103 t291.length co103) (Kd.Q_keptB (HO_14.out) hkp (fun k_ hk_ hs_ => (hk_.2.1) hs_)) (fun k_ hk_ => ⟨hk_.1.1, hk_.1.2.1, hk_.1.2.2.1, hk_.1.2.2.2.1, hk_.1.2.2.2.2.1, hk_.1.2.2.2.2.2.1, hk_.1.2.2.2.2.2.2.1, hk_.1.2.2.2.2.2.2.2.1, hk_.1.2.2.2.2.2.2.2.2⟩)); have n4_ := zA (Kd.Q_mono (ok' := fun k_ => zV k_ v252 ∧ zS k_ Ao47 t265.length co47 ∧ zS k_ Ao48 t268.length co48 ∧ zV k_ v272 ∧ zS k_ Ao43 t261.length co43 ∧ zS k_ Ao55 t275.length co55 ∧ zS k_ Ao98 t283.length co98 ∧ zS k_ Ao101 t287.length co101 ∧ zS k_ Ao103 t291.length co103) (Kd.Q_keptB (HO_260001.out) hkp (fun k_ hk_ hs_ => (hk_.2.1) hs_)) (fun k_ hk_ => ⟨hk_.1.1, hk_.1.2.1, hk_.1.2.2.1, hk_.1.2.2.2.1, hk_.1.2.2.2.2.1, hk_.1.2.2.2.2.2.1, hk_.1.2.2.2.2.2.2.1, hk_.1.2.2.2.2.2.2.2.1, hk_.1.2.2.2.2.2.2.2.2⟩)); have n5_ := zA (Kd.Q_mono (ok' := fun k_ => zV k_ v252 ∧ zS k_ Ao47 t265.length co47 ∧ zS k_ Ao48 t268.length co48 ∧ zV k_ v272 ∧ zS k_ Ao36 t255.length co36 ∧ zS k_ Ao55 t275.length co55 ∧ zS k_ Ao98 t283.length co98 ∧ zS k_ Ao101 t287.length co101 ∧ zS k_ Ao103 t291.length co103) (Kd.Q_keptB (HO_265001.out) hkp (fun k_ hk_ hs_ => (hk_.1.1.1.2.1) hs_)) (fun k_ hk_ => ⟨hk_.1.1.1.1.1, hk_.1.1.1.1.2.1, hk_.1.1.1.1.2.2.1, hk_.1.1.1.1.2.2.2.1, hk_.1.1.1.1.2.2.2.2.1, hk_.1.1.1.1.2.2.2.2.2, hk_.1.1.1.2, hk_.1.1.2, hk_.1.2⟩)); have n6_ := zA (Kd.Q_mono (ok' := fun k_ => zV k_ v252 ∧ zS k_ Ao47 t265.length co47 ∧ zS k_ Ao48 t268.length co48 ∧ zV k_ v272 ∧ zS k_ Ao36 t255.length co36 ∧ zS k_ Ao43 t261.length co43 ∧ zS k_ Ao98 t283.length co98 ∧ zS k_ Ao101 t287.length co101 ∧ zS k_ Ao103 t291.length co103) (Kd.Q_keptB (HO_280001.out) hkp (fun k_ hk_ hs_ => (hk_.2.1) hs_)) (fun k_ hk_ => ⟨hk_.1.1, hk_.1.2.1, hk_.1.2.2.1, hk_.1.2.2.2.1, hk_.1.2.2.2.2.1, hk_.1.2.2.2.2.2.1, hk_.1.2.2.2.2.2.2.1, hk_.1.2.2.2.2.2.2.2.1, hk_.1.2.2.2.2.2.2.2.2⟩)); have n7_ := zA (blk_kept (g := gb239) (o := .cells #[.int .i64 a0_0, .slice A0_1 l0_1.length c0_1] 35 (0, 0)) z3 hkp (fun hs_ => (fun e_ => (Kd.R_ne HO_12.out BK239.out z37) e_) hs_)); have n8_ := zA (blk_kept (g := gb259) (o := .cells #[.int .i64 t254, .slice Ao36 t255.length co36] 38 (0, 0)) z4 hkp (fun hs_ => (fun e_ => (Kd.R_ne HO_12.out BK259.out z37) e_) hs_)); have n9_ := zA (blk_kept (g := gb264) (o := .cells #[.int .i64 t260, .slice Ao43 t261.length co43] 38 (0, 0)) z5 hkp (fun hs_ => (fun e_ => (Kd.R_ne HO_12.out BK264.out z37) e_) hs_)); have n10_ := zA (blk_kept (g := gb279) (o := .cells #[.int .i64 t274, .slice Ao55 t275.length co55] 38 (0, 0)) z6 hkp (fun hs_ => (fun e_ => (Kd.R_ne HO_12.out BK279.out z37) e_) hs_)); have n11_ := zA (Kd.R_mono (ok' := fun k_ => zV k_ v252 ∧ zS k_ Ao47 t265.length co47 ∧ zS k_ Ao48 t268.length co48 ∧ zV k_ v272 ∧ zS k_ Ao36 t255.length co36 ∧ zS k_ Ao43 t261.length co43 ∧ zS k_ Ao55 t275.length co55 ∧ zS k_ Ao101 t287.length co101 ∧ zS k_ Ao103 t291.length co103) (Kd.R_keptB (HO285.out) hkp (fun k_ hk_ hs_ => (hk_.2.1) hs_)) (fun k_ hk_ => ⟨hk_.1.1, hk_.1.2.1, hk_.1.2.2.1, hk_.1.2.2.2.1, hk_.1.2.2.2.2.1, hk_.1.2.2.2.2.2.1, hk_.1.2.2.2.2.2.2.1, hk_.1.2.2.2.2.2.2.2.1, hk_.1.2.2.2.2.2.2.2.2⟩)); have n12_ := zA (Kd.R_mono (ok' := fun k_ => zV k_ v252 ∧ zS k_ Ao47 t265.length co47 ∧ zS k_ Ao48 t268.length co48 ∧ zV k_ v272 ∧ zS k_ Ao36 t255.length co36 ∧ zS k_ Ao43 t261.length co43 ∧ zS k_ Ao55 t275.length co55 ∧ zS k_ Ao98 t283.length co98 ∧ zS k_ Ao103 t291.length co103) (Kd.R_keptB (HO289.out) hkp (fun k_ hk_ hs_ => (hk_.2.1) hs_)) (fun k_ hk_ => ⟨hk_.1.1, hk_.1.2.1, hk_.1.2.2.1, hk_.1.2.2.2.1, hk_.1.2.2.2.2.1, hk_.1.2.2.2.2.2.1, hk_.1.2.2.2.2.2.2.1, hk_.1.2.2.2.2.2.2.2.1, hk_.1.2.2.2.2.2.2.2.2⟩)); have n13_ := zA (Kd.R_mono (ok' := fun k_ => zV k_ v252 ∧ zS k_ Ao47 t265.length co47 ∧ zS k_ Ao48 t268.length co48 ∧ zV k_ v272 ∧ zS k_ Ao36 t255.length co36 ∧ zS k_ Ao43 t261.length co43 ∧ zS k_ Ao55 t275.length co55 ∧ zS k_ Ao98 t283.length co98 ∧ zS k_ Ao101 t287.length co101) (Kd.R_keptB (HO293.out) hkp (fun k_ hk_ hs_ => (hk_.2.1) hs_)) (fun k_ hk_ => ⟨hk_.1.1, hk_.1.2.1, hk_.1.2.2.1, hk_.1.2.2.2.1, hk_.1.2.2.2.2.1, hk_.1.2.2.2.2.2.1, hk_.1.2.2.2.2.2.2.1, hk_.1.2.2.2.2.2.2.2.1, hk_.1.2.2.2.2.2.2.2.2⟩)); have n14_ := zA (hb); clear HO_8 HO_12 HO_13 HO_14 HO_260001 HO_265001 HO_280001 BK239 BK259 BK264 BK279 HO285 HO289 HO293 HB; revert n0_ n1_ n2_ n3_ n4_ n5_ n6_ n7_ n8_ n9_ n10_ n11_ n12_ n13_ n14_; intro HO_8 HO_12 HO_13 HO_14 HO_260001 HO_265001 HO_280001 BK239 BK259 BK264 BK279 HO285 HO289 HO293 HB; (try clear hb); (try clear hkp); (try clear hy0)) | ((with_reducible refine gate_callee (f := 29) rfl ?_); refine goesL_ (some 97) rfl rfl Try.func29 z28 rfl #[.slice Ao48 t268.length co48, .int .i64 t297] rfl z2 ?_; (with_reducible refine (laws_markIntS.calls kj20 (fun k_ => some k_ = (.slice Ao48 t268.length co48 : Value).ownBlock) (.slice Ao48 t268.length co48) t268 t297 t299 t300 w _ ?side1 ?side2 A94.out).mono ?_); (case side1 => repeat (first | (with_reducible first | exact HB.out | apply below_alloc | apply pw_below_drewN | apply below_drew1 | refine below_set ?_ GE239.out | refine below_set ?_ GE259.out | refine below_set ?_ GE264.out | refine below_set ?_ GE279.out) | exact HB.out)); (case side2 => exact Kd.Q_tight rfl (Kd.Q_of_R HO_13.out)); rintro e w110 ⟨rfl, hy0, hb, hkp⟩; refine ⟨_, rfl, ?_⟩; have n0_ := zA (Kd.R_mono (ok' := fun k_ => zS k_ Ao47 t265.length co47 ∧ zS k_ Ao48 t268.length co48 ∧ zV k_ v272 ∧ zS k_ Ao36 t255.length co36 ∧ zS k_ Ao43 t261.length co43 ∧ zS k_ Ao55 t275.length co55 ∧ zS k_ Ao98 t283.length co98 ∧ zS k_ Ao101 t287.length co101 ∧ zS k_ Ao103 t291.length co103) (Kd.R_keptB (HO_8.out) hkp (fun k_ hk_ hs_ => (hk_.2.1) hs_)) (fun k_ hk_ => ⟨hk_.1.1, hk_.1.2.1, hk_.1.2.2.1, hk_.1.2.2.2.1, hk_.1.2.2.2.2.1, hk_.1.2.2.2.2.2.1, hk_.1.2.2.2.2.2.2.1, hk_.1.2.2.2.2.2.2.2.1, hk_.1.2.2.2.2.2.2.2.2⟩)); have n1_ := zA (Kd.Q_mono (ok' := fun k_ => zV k_ v252 ∧ zS k_ Ao48 t268.length co48 ∧ zV k_ v272 ∧ zS k_ Ao36 t255.length co36 ∧ zS k_ Ao43 t261.length co43 ∧ zS k_ Ao55 t275.length co55 ∧ zS k_ Ao98 t283.length co98 ∧ zS k_ Ao101 t287.length co101 ∧ zS k_ Ao103 t291.length co103) (Kd.Q_keptB (HO_12.out) hkp (fun k_ hk_ hs_ => (hk_.2.1) hs_)) (fun k_ hk_ => ⟨hk_.1.1, hk_.1.2.1, hk_.1.2.2.1, hk_.1.2.2.2.1, hk_.1.2.2.2.2.1, hk_.1.2.2.2.2.2.1, hk_.1.2.2.2.2.2.2.1, hk_.1.2.2.2.2.2.2.2.1, hk_.1.2.2.2.2.2.2.2.2⟩)); have n2_ := zA (Kd.Q_mono (Kd.Q_tight rfl hy0) (fun k_ hk_ => HO_13.out.1 k_ hk_.symm)); have n3_ := zA (Kd.Q_mono (ok' := fun k_ => zV k_ v252 ∧ zS k_ Ao47 t265.length co47 ∧ zS k_ Ao48 t268.length co48 ∧ zS k_ Ao36 t255.length co36 ∧ zS k_ Ao43 t261.length co43 ∧ zS k_ Ao55 t275.length co55 ∧ zS k_ Ao98 t283.length co98 ∧ zS k_ Ao101 t287.length co101 ∧ zS k_ Ao103 t291.length co103) (Kd.Q_keptB (HO_14.out) hkp (fun k_ hk_ hs_ => (hk_.2.2.1) hs_)) (fun k_ hk_ => ⟨hk_.1.1, hk_.1.2.1, hk_.1.2.2.1, hk_.1.2.2.2.1, hk_.1.2.2.2.2.1, hk_.1.2.2.2.2.2.1, hk_.1.2.2.2.2.2.2.1, hk_.1.2.2.2.2.2.2.2.1, hk_.1.2.2.2.2.2.2.2.2⟩)); have n4_ := zA (Kd.Q_mono (ok' := fun k_ => zV k_ v252 ∧ zS k_ Ao47 t265.length co47 ∧ zS k_ Ao48 t268.length co48 ∧ zV k_ v272 ∧ zS k_ Ao43 t261.length co43 ∧ zS k_ Ao55 t275.length co55 ∧ zS k_ Ao98 t283.length co98 ∧ zS k_ Ao101 t287.length co101 ∧ zS k_ Ao103 t291.length co103) (Kd.Q_keptB (HO_260001.out) hkp (fun k_ hk_ hs_ => (hk_.2.2.1) hs_)) (fun k_ hk_ => ⟨hk_.1.1, hk_.1.2.1, hk_.1.2.2.1, hk_.1.2.2.2.1, hk_.1.2.2.2.2.1, hk_.1.2.2.2.2.2.1, hk_.1.2.2.2.2.2.2.1, hk_.1.2.2.2.2.2.2.2.1, hk_.1.2.2.2.2.2.2.2.2⟩)); have n5_ := zA (Kd.Q_mono (ok' := fun k_ => zV k_ v252 ∧ zS k_ Ao47 t265.length co47 ∧ zS k_ Ao48 t268.length co48 ∧ zV k_ v272 ∧ zS k_ Ao36 t255.length co36 ∧ zS k_ Ao55 t275.length co55 ∧ zS k_ Ao98 t283.length co98 ∧ zS k_ Ao101 t287.length co101 ∧ zS k_ Ao103 t291.length co103) (Kd.Q_keptB (HO_265001.out) hkp (fun k_ hk_ hs_ => (hk_.2.2.1) hs_)) (fun k_ hk_ => ⟨hk_.1.1, hk_.1.2.1, hk_.1.2.2.1, hk_.1.2.2.2.1, hk_.1.2.2.2.2.1, hk_.1.2.2.2.2.2.1, hk_.1.2.2.2.2.2.2.1, hk_.1.2.2.2.2.2.2.2.1, hk_.1.2.2.2.2.2.2.2.2⟩)); have n6_ := zA (Kd.Q_mono (ok' := fun k_ => zV k_ v252 ∧ zS k_ Ao47 t265.length co47 ∧ zS k_ Ao48 t268.length co48 ∧ zV k_ v272 ∧ zS k_ Ao36 t255.length co36 ∧ zS k_ Ao43 t261.length co43 ∧ zS k_ Ao98 t283.length co98 ∧ zS k_ Ao101 t287.length co101 ∧ zS k_ Ao103 t291.length co103) (Kd.Q_keptB (HO_280001.out) hkp (fun k_ hk_ hs_ => (hk_.2.2.1) hs_)) (fun k_ hk_ => ⟨hk_.1.1, hk_.1.2.1, hk_.1.2.2.1, hk_.1.2.2.2.1, hk_.1.2.2.2.2.1, hk_.1.2.2.2.2.2.1, hk_.1.2.2.2.2.2.2.1, hk_.1.2.2.2.2.2.2.2.1, hk_.1.2.2.2.2.2.2.2.2⟩)); have n7_ := zA (blk_kept (g := gb239) (o := .cells #[.int .i64 a0_0, .slice A0_1 l0_1.length c0_1] 35 (0, 0)) z3 hkp (fun hs_ => (fun e_ => (Kd.R_ne HO_13.out BK239.out z37) e_) hs_)); have n8_ := zA (blk_kept (g := gb259) (o := .cells #[.int .i64 t254, .slice Ao36 t255.length co36] 38 (0, 0)) z4 hkp (fun hs_ => (fun e_ => (Kd.R_ne HO_13.out BK259.out z37) e_) hs_)); have n9_ := zA (blk_kept (g := gb264) (o := .cells #[.int .i64 t260, .slice Ao43 t261.length co43] 38 (0, 0)) z5 hkp (fun hs_ => (fun e_ => (Kd.R_ne HO_13.out BK264.out z37) e_) hs_)); have n10_ := zA (blk_kept (g := gb279) (o := .cells #[.int .i64 t274, .slice Ao55 t275.length co55] 38 (0, 0)) z6 hkp (fun hs_ => (fun e_ => (Kd.R_ne HO_13.out BK279.out z37) e_) hs_)); have n11_ := zA (Kd.R_mono (ok' := fun k_ => zV k_ v252 ∧ zS k_ Ao47 t265.length co47 ∧ zS k_ Ao48 t268.length co48 ∧ zV k_ v272 ∧ zS k_ Ao36 t255.length co36 ∧ zS k_ Ao43 t261.length co43 ∧ zS k_ Ao55 t275.length co55 ∧ zS k_ Ao101 t287.length co101 ∧ zS k_ Ao103 t291.length co103) (Kd.R_keptB (HO285.out) hkp (fun k_ hk_ hs_ => (hk_.2.2.1) hs_)) (fun k_ hk_ => ⟨hk_.1.1, hk_.1.2.1, hk_.1.2.2.1, hk_.1.2.2.2.1, hk_.1.2.2.2.2.1, hk_.1.2.2.2.2.2.1, hk_.1.2.2.2.2.2.2.1, hk_.1.2.2.2.2.2.2.2.1, hk_.1.2.2.2.2.2.2.2.2⟩)); have n12_ := zA (Kd.R_mono (ok' := fun k_ => zV k_ v252 ∧ zS k_ Ao47 t265.length co47 ∧ zS k_ Ao48 t268.length co48 ∧ zV k_ v272 ∧ zS k_ Ao36 t255.length co36 ∧ zS k_ Ao43 t261.length co43 ∧ zS k_ Ao55 t275.length co55 ∧ zS k_ Ao98 t283.length co98 ∧ zS k_ Ao103 t291.length co103) (Kd.R_keptB (HO289.out) hkp (fun k_ hk_ hs_ => (hk_.2.2.1) hs_)) (fun k_ hk_ => ⟨hk_.1.1, hk_.1.2.1, hk_.1.2.2.1, hk_.1.2.2.2.1, hk_.1.2.2.2.2.1, hk_.1.2.2.2.2.2.1, hk_.1.2.2.2.2.2.2.1, hk_.1.2.2.2.2.2.2.2.1, hk_.1.2.2.2.2.2.2.2.2⟩)); have n13_ := zA (Kd.R_mono (ok' := fun k_ => zV k_ v252 ∧ zS k_ Ao47 t265.length co47 ∧ zS k_ Ao48 t268.length co48 ∧ zV k_ v272 ∧ zS k_ Ao36 t255.length co36 ∧ zS k_ Ao43 t261.length co43 ∧ zS k_ Ao55 t275.length co55 ∧ zS k_ Ao98 t283.length co98 ∧ zS k_ Ao101 t287.length co101) (Kd.R_keptB (HO293.out) hkp (fun k_ hk_ hs_ => (hk_.2.2.1) hs_)) (fun k_ hk_ => ⟨hk_.1.1, hk_.1.2.1, hk_.1.2.2.1, hk_.1.2.2.2.1, hk_.1.2.2.2.2.1, hk_.1.2.2.2.2.2.1, hk_.1.2.2.2.2.2.2.1, hk_.1.2.2.2.2.2.2.2.1, hk_.1.2.2.2.2.2.2.2.2⟩)); have n14_ := zA (hb); clear HO_8 HO_12 HO_13 HO_14 HO_260001 HO_265001 HO_280001 BK239 BK259 BK264 BK279 HO285 HO289 HO293 HB; revert n0_ n1_ n2_ n3_ n4_ n5_ n6_ n7_ n8_ n9_ n10_ n11_ n12_ n13_ n14_; intro HO_8 HO_12 HO_13 HO_14 HO_260001 HO_265001 HO_280001 BK239 BK259 BK264 BK279 HO285 HO289 HO293 HB; (try clear hb); (try clear hkp); (try clear hy0)))
          (try simp only [Act.put, List.setIfInBounds_toArray, List.set_cons_zero, List.set_cons_succ])
          go_cut [116] (fun v116 wc => ∃ (kq : Nat) (x116_94 : Bool), v116 = .bool x116_94 ∧ Aside0 (laws_FnExactRunOrders.j1 kq l1 l2 t251 t258 t271 x116_94 a0_0 l0_1 t254 t255 t274 t275 = some r) ∧ Aside0 (kq ≤ kj20) ∧ Aside0 (Kd.R (Kd.int .i64) 3 wc w.heap.size (fun k_ => zV k_ v272 ∧ some k_ ≠ ((.slice Ao36 t255.length co36) : Value).ownBlock ∧ some k_ ≠ ((.slice Ao43 t261.length co43) : Value).ownBlock ∧ some k_ ≠ ((.slice Ao55 t275.length co55) : Value).ownBlock) v252 t251) ∧ Aside0 (Kd.Q (Kd.int .i64) 3 wc w.heap.size (fun k_ => zV k_ v252 ∧ some k_ ≠ ((.slice Ao36 t255.length co36) : Value).ownBlock ∧ some k_ ≠ ((.slice Ao43 t261.length co43) : Value).ownBlock ∧ some k_ ≠ ((.slice Ao55 t275.length co55) : Value).ownBlock) v272 t271) ∧ Aside0 (Kd.Q (Kd.int .i64) 3 wc w.heap.size (fun k_ => zV k_ v252 ∧ zV k_ v272 ∧ some k_ ≠ ((.slice Ao43 t261.length co43) : Value).ownBlock ∧ some k_ ≠ ((.slice Ao55 t275.length co55) : Value).ownBlock) (.slice Ao36 t255.length co36) t255) ∧ Aside0 (Kd.Q (Kd.int .i64) 3 wc w.heap.size (fun k_ => zV k_ v252 ∧ zV k_ v272 ∧ some k_ ≠ ((.slice Ao36 t255.length co36) : Value).ownBlock ∧ some k_ ≠ ((.slice Ao55 t275.length co55) : Value).ownBlock) (.slice Ao43 t261.length co43) t296) ∧ Aside0 (Kd.Q (Kd.int .i64) 3 wc w.heap.size (fun k_ => zV k_ v252 ∧ zV k_ v272 ∧ some k_ ≠ ((.slice Ao36 t255.length co36) : Value).ownBlock ∧ some k_ ≠ ((.slice Ao43 t261.length co43) : Value).ownBlock) (.slice Ao55 t275.length co55) t275) ∧ Aside0 (wc.heap[gb239]? = some (.cells #[.int .i64 a0_0, (.slice A0_1 l0_1.length c0_1)] 35 (0, 0))) ∧ Aside0 (wc.heap[gb259]? = some (.cells #[.int .i64 t254, (.slice Ao36 t255.length co36)] 38 (0, 0))) ∧ Aside0 (wc.heap[gb264]? = some (.cells #[.int .i64 t260, (.slice Ao43 t261.length co43)] 38 (0, 0))) ∧ Aside0 (wc.heap[gb279]? = some (.cells #[.int .i64 t274, (.slice Ao55 t275.length co55)] 38 (0, 0))) ∧ Aside0 (Below w.heap.size w wc))
          case first =>
           have H := HC95.out
           clear HC95
           by_cases c111 : t299 < 0
           ·rw [if_pos c111] at H
            have c111b0 : decide (t299 < 0) = true := decide_eq_true c111
            clear c111
            (first | rw [c111b0] | (simp only [i64_w, i32_w]; rw [c111b0]) | skip)
            have H' := zA H
            clear H
            go_wp2
            go_meet
            case rel => exact ⟨_, (true), z54, H', ⟨z104⟩, ⟨z47⟩, ⟨z48⟩, ⟨z46⟩, ⟨z45⟩, ⟨z44⟩, ⟨z3⟩, ⟨z4⟩, ⟨z5⟩, ⟨z6⟩, ⟨z1⟩⟩
           ·rw [if_neg c111] at H
            have c111b0 : decide (t299 < 0) = false := decide_eq_false c111
            clear c111
            (first | rw [c111b0] | (simp only [i64_w, i32_w]; rw [c111b0]) | skip)
            replace H := Option.bind_eq_some_iff.mp H
            obtain ⟨t301, A1120, H⟩ := H
            (try dsimp only at H)
            have A112 := zA A1120
            clear A1120
            by_cases c113 : t301 = true
            ·subst c113
             have H1 : ((laws_eqFlow.f kj20 t274 t275 t254 t255).bind fun t302 => (if t302 = true then (laws_FnExactRunOrders.j1 kj20 l1 l2 t251 t258 t271 (t278 != t258) a0_0 l0_1 t254 t255 t274 t275) else (laws_FnExactRunOrders.j1 kj20 l1 l2 t251 t258 t271 true a0_0 l0_1 t254 t255 t274 t275))) = some r := z61
             clear H
             have H := H1
             clear H1
             replace H := Option.bind_eq_some_iff.mp H
             obtain ⟨t302, A1140, H⟩ := H
             (try dsimp only at H)
             have A114 := zA A1140
             clear A1140
             by_cases c115 : t302 = true
             ·subst c115
              have H1 : (laws_FnExactRunOrders.j1 kj20 l1 l2 t251 t258 t271 (t278 != t258) a0_0 l0_1 t254 t255 t274 t275) = some r := z61
              clear H
              have H := H1
              clear H1
              have H' := zA H
              clear H
              obtain ⟨Ao116, co116, eo116, _⟩ := Kd.Q_slice HO_14.out
              subst eo116
              obtain ⟨Ao117, co117, eo117⟩ := Kd.R_slice HO_8.out
              subst eo117
              go_wp2_with (first | (go_at_call 21; (with_reducible refine (laws_eqIntS.calls kj20 _ _ t271 _ _ t251 true _ ?side1 ?side2 ?side3 ?side4 A112.out).mono ?_); (case side1 => have zh := (Kd.Q_reads' HO_14.out).2.2; exact zC); (case side2 => exact (Kd.Q_reads' HO_14.out).2.1); (case side3 => have zh := (Kd.R_reads' HO_8.out).2.2; exact zC); (case side4 => exact (Kd.R_reads' HO_8.out).2.1); rintro e w' ⟨rfl, ⟨nd, rfl⟩⟩; have hnb118 := NB279_239.out; have hnc118 := NB239_279.out; have hnb119 := NB279_259.out; have hnc119 := NB259_279.out; have hnb120 := NB279_264.out; have hnc120 := NB264_279.out; have hcz121_0 : w110.cell? ⟨gb279, 0, none⟩ = some (.int .i64 t274) := (blk_cell BK279.out 0).trans rfl; have hcz121_1 : w110.cell? ⟨gb279, 1, none⟩ = some (.slice Ao55 t275.length co55) := (blk_cell BK279.out 1).trans rfl; have hfz121_0 := blk_frozen BK279.out 0; have hfz121_1 := blk_frozen BK279.out 1; have hnb122 := NB259_239.out; have hnc122 := NB239_259.out; have hnb123 := NB259_264.out; have hnc123 := NB264_259.out; have hcz124_0 : w110.cell? ⟨gb259, 0, none⟩ = some (.int .i64 t254) := (blk_cell BK259.out 0).trans rfl; have hcz124_1 : w110.cell? ⟨gb259, 1, none⟩ = some (.slice Ao36 t255.length co36) := (blk_cell BK259.out 1).trans rfl; have hfz124_0 := blk_frozen BK259.out 0; have hfz124_1 := blk_frozen BK259.out 1) | (go_at_call 26; (with_reducible refine (laws_eqFlow.calls kj20 t274 _ _ t275 t254 _ _ t255 true _ ?side1 ?side2 ?side3 ?side4 A114.out).mono ?_); (case side1 => have zh := (Kd.Q_reads' HO_280001.out).2.2; exact zC); (case side2 => exact (Kd.Q_reads' HO_280001.out).2.1); (case side3 => have zh := (Kd.Q_reads' HO_260001.out).2.2; exact zC); (case side4 => exact (Kd.Q_reads' HO_260001.out).2.1); rintro e w125 ⟨rfl, hb⟩; have n0_ := zA (Kd.R_below z11 hb); have n1_ := zA (Kd.Q_below z113 hb); have n2_ := zA (Kd.Q_below z112 hb); have n3_ := zA (Kd.Q_below z10 hb); have n4_ := zA (Kd.Q_below z9 hb); have n5_ := zA (Kd.Q_below z8 hb); have n6_ := zA (Kd.Q_below z7 hb); have n7_ := zA (Kd.R_below z17 hb); have n8_ := zA (Kd.R_below z50 hb); have n9_ := zA (Kd.R_below z111 hb); have n10_ := zA (blk_below (g := gb239) (o := .cells #[.int .i64 a0_0, .slice A0_1 l0_1.length c0_1] 35 (0, 0)) z3 hb); have n11_ := zA (blk_below (g := gb259) (o := .cells #[.int .i64 t254, .slice Ao36 t255.length co36] 38 (0, 0)) z4 hb); have n12_ := zA (blk_below (g := gb264) (o := .cells #[.int .i64 t260, .slice Ao43 t261.length co43] 38 (0, 0)) z5 hb); have n13_ := zA (blk_below (g := gb279) (o := .cells #[.int .i64 t274, .slice Ao55 t275.length co55] 38 (0, 0)) z6 hb); have n14_ := zA (below_step z1 hb); clear HO_8 HO_12 HO_13 HO_14 HO_260001 HO_265001 HO_280001 HO285 HO289 HO293 BK239 BK259 BK264 BK279 HB; revert n0_ n1_ n2_ n3_ n4_ n5_ n6_ n7_ n8_ n9_ n10_ n11_ n12_ n13_ n14_; intro HO_8 HO_12 HO_13 HO_14 HO_260001 HO_265001 HO_280001 HO285 HO289 HO293 BK239 BK259 BK264 BK279 HB; (try clear hb); (try clear hb2); (try clear hk); (try clear hi)))
              go_meet
              case rel => exact ⟨_, ((t278 != t258)), z54, H', ⟨z104⟩, ⟨z47⟩, ⟨z48⟩, ⟨z46⟩, ⟨z45⟩, ⟨z44⟩, ⟨z3⟩, ⟨z4⟩, ⟨z5⟩, ⟨z6⟩, ⟨z1⟩⟩
             ·replace c115 := Bool.eq_false_iff.mpr c115
              subst c115
              have H1 : (laws_FnExactRunOrders.j1 kj20 l1 l2 t251 t258 t271 true a0_0 l0_1 t254 t255 t274 t275) = some r := z42
              clear H
              have H := H1
              clear H1
              have H' := zA H
              clear H
              obtain ⟨Ao126, co126, eo126, _⟩ := Kd.Q_slice HO_14.out
              subst eo126
              obtain ⟨Ao127, co127, eo127⟩ := Kd.R_slice HO_8.out
              subst eo127
              go_wp2_with (first | (go_at_call 21; (with_reducible refine (laws_eqIntS.calls kj20 _ _ t271 _ _ t251 true _ ?side1 ?side2 ?side3 ?side4 A112.out).mono ?_); (case side1 => have zh := (Kd.Q_reads' HO_14.out).2.2; exact zC); (case side2 => exact (Kd.Q_reads' HO_14.out).2.1); (case side3 => have zh := (Kd.R_reads' HO_8.out).2.2; exact zC); (case side4 => exact (Kd.R_reads' HO_8.out).2.1); rintro e w' ⟨rfl, ⟨nd, rfl⟩⟩; have hnb128 := NB279_239.out; have hnc128 := NB239_279.out; have hnb129 := NB279_259.out; have hnc129 := NB259_279.out; have hnb130 := NB279_264.out; have hnc130 := NB264_279.out; have hcz131_0 : w110.cell? ⟨gb279, 0, none⟩ = some (.int .i64 t274) := (blk_cell BK279.out 0).trans rfl; have hcz131_1 : w110.cell? ⟨gb279, 1, none⟩ = some (.slice Ao55 t275.length co55) := (blk_cell BK279.out 1).trans rfl; have hfz131_0 := blk_frozen BK279.out 0; have hfz131_1 := blk_frozen BK279.out 1; have hnb132 := NB259_239.out; have hnc132 := NB239_259.out; have hnb133 := NB259_264.out; have hnc133 := NB264_259.out; have hcz134_0 : w110.cell? ⟨gb259, 0, none⟩ = some (.int .i64 t254) := (blk_cell BK259.out 0).trans rfl; have hcz134_1 : w110.cell? ⟨gb259, 1, none⟩ = some (.slice Ao36 t255.length co36) := (blk_cell BK259.out 1).trans rfl; have hfz134_0 := blk_frozen BK259.out 0; have hfz134_1 := blk_frozen BK259.out 1) | (go_at_call 26; (with_reducible refine (laws_eqFlow.calls kj20 t274 _ _ t275 t254 _ _ t255 false _ ?side1 ?side2 ?side3 ?side4 A114.out).mono ?_); (case side1 => have zh := (Kd.Q_reads' HO_280001.out).2.2; exact zC); (case side2 => exact (Kd.Q_reads' HO_280001.out).2.1); (case side3 => have zh := (Kd.Q_reads' HO_260001.out).2.2; exact zC); (case side4 => exact (Kd.Q_reads' HO_260001.out).2.1); rintro e w135 ⟨rfl, hb⟩; have n0_ := zA (Kd.R_below z11 hb); have n1_ := zA (Kd.Q_below z113 hb); have n2_ := zA (Kd.Q_below z112 hb); have n3_ := zA (Kd.Q_below z10 hb); have n4_ := zA (Kd.Q_below z9 hb); have n5_ := zA (Kd.Q_below z8 hb); have n6_ := zA (Kd.Q_below z7 hb); have n7_ := zA (Kd.R_below z17 hb); have n8_ := zA (Kd.R_below z50 hb); have n9_ := zA (Kd.R_below z111 hb); have n10_ := zA (blk_below (g := gb239) (o := .cells #[.int .i64 a0_0, .slice A0_1 l0_1.length c0_1] 35 (0, 0)) z3 hb); have n11_ := zA (blk_below (g := gb259) (o := .cells #[.int .i64 t254, .slice Ao36 t255.length co36] 38 (0, 0)) z4 hb); have n12_ := zA (blk_below (g := gb264) (o := .cells #[.int .i64 t260, .slice Ao43 t261.length co43] 38 (0, 0)) z5 hb); have n13_ := zA (blk_below (g := gb279) (o := .cells #[.int .i64 t274, .slice Ao55 t275.length co55] 38 (0, 0)) z6 hb); have n14_ := zA (below_step z1 hb); clear HO_8 HO_12 HO_13 HO_14 HO_260001 HO_265001 HO_280001 HO285 HO289 HO293 BK239 BK259 BK264 BK279 HB; revert n0_ n1_ n2_ n3_ n4_ n5_ n6_ n7_ n8_ n9_ n10_ n11_ n12_ n13_ n14_; intro HO_8 HO_12 HO_13 HO_14 HO_260001 HO_265001 HO_280001 HO285 HO289 HO293 BK239 BK259 BK264 BK279 HB; (try clear hb); (try clear hb2); (try clear hk); (try clear hi)))
              go_meet
              case rel => exact ⟨_, (true), z54, H', ⟨z104⟩, ⟨z47⟩, ⟨z48⟩, ⟨z46⟩, ⟨z45⟩, ⟨z44⟩, ⟨z3⟩, ⟨z4⟩, ⟨z5⟩, ⟨z6⟩, ⟨z1⟩⟩
            ·replace c113 := Bool.eq_false_iff.mpr c113
             subst c113
             have H1 : (laws_FnExactRunOrders.j1 kj20 l1 l2 t251 t258 t271 true a0_0 l0_1 t254 t255 t274 t275) = some r := z42
             clear H
             have H := H1
             clear H1
             have H' := zA H
             clear H
             obtain ⟨Ao136, co136, eo136, _⟩ := Kd.Q_slice HO_14.out
             subst eo136
             obtain ⟨Ao137, co137, eo137⟩ := Kd.R_slice HO_8.out
             subst eo137
             go_wp2_with (first | (go_at_call 21; (with_reducible refine (laws_eqIntS.calls kj20 _ _ t271 _ _ t251 false _ ?side1 ?side2 ?side3 ?side4 A112.out).mono ?_); (case side1 => have zh := (Kd.Q_reads' HO_14.out).2.2; exact zC); (case side2 => exact (Kd.Q_reads' HO_14.out).2.1); (case side3 => have zh := (Kd.R_reads' HO_8.out).2.2; exact zC); (case side4 => exact (Kd.R_reads' HO_8.out).2.1); rintro e w' ⟨rfl, ⟨nd, rfl⟩⟩))
             go_meet
             case rel => exact ⟨_, (true), z54, H', ⟨z104⟩, ⟨z47⟩, ⟨z48⟩, ⟨z46⟩, ⟨z45⟩, ⟨z44⟩, ⟨z3⟩, ⟨z4⟩, ⟨z5⟩, ⟨z6⟩, ⟨z1⟩⟩
          case rest =>
           clear HC95
           (try clear c1); (try clear c2); (try clear p2); (try clear c3); (try clear c4); (try clear c4b0); (try clear c4b1); (try clear c5); (try clear c6); (try clear c6b0); (try clear c6b1); (try clear c7); (try clear c8); (try clear c9); (try clear c9b0); (try clear c10); (try clear c11); (try clear c12); (try clear c13); (try clear c19); (try clear c21); (try clear c22); (try clear c24); (try clear c26); (try clear c29); (try clear c34); (try clear c40); (try clear c41); (try clear c43); (try clear c50); (try clear c51); (try clear c52); (try clear c53); (try clear c57); (try clear c59); (try clear c62); (try clear c63); (try clear c64); (try clear c66); (try clear c67); (try clear c72); (try clear c73); (try clear c74); (try clear c76); (try clear c77); (try clear c82); (try clear c85); (try clear c88); (try clear c91); (try clear c104); (try clear c105); (try clear c106); (try clear c111); (try clear c111b0); (try clear c113); (try clear c115); (try clear c118); (try clear c119); (try clear c120); (try clear c122); (try clear c123); (try clear c128); (try clear c129); (try clear c130); (try clear c132); (try clear c133); (try clear hcz107_0); (try clear hcz107_1); (try clear hcz11_0); (try clear hcz11_1); (try clear hcz121_0); (try clear hcz121_1); (try clear hcz124_0); (try clear hcz124_1); (try clear hcz131_0); (try clear hcz131_1); (try clear hcz134_0); (try clear hcz134_1); (try clear hcz23_0); (try clear hcz23_1); (try clear hcz25_0); (try clear hcz25_1); (try clear hcz35_0); (try clear hcz35_1); (try clear hcz37_0); (try clear hcz37_1); (try clear hcz42_0); (try clear hcz42_1); (try clear hcz46_0); (try clear hcz46_1); (try clear hcz54_0); (try clear hcz54_1); (try clear hcz65_0); (try clear hcz65_1); (try clear hcz68_0); (try clear hcz68_1); (try clear hcz75_0); (try clear hcz75_1); (try clear hcz78_0); (try clear hcz78_1); (try clear hfz107_0); (try clear hfz107_1); (try clear hfz11_0); (try clear hfz11_1); (try clear hfz121_0); (try clear hfz121_1); (try clear hfz124_0); (try clear hfz124_1); (try clear hfz131_0); (try clear hfz131_1); (try clear hfz134_0); (try clear hfz134_1); (try clear hfz23_0); (try clear hfz23_1); (try clear hfz25_0); (try clear hfz25_1); (try clear hfz35_0); (try clear hfz35_1); (try clear hfz37_0); (try clear hfz37_1); (try clear hfz42_0); (try clear hfz42_1); (try clear hfz46_0); (try clear hfz46_1); (try clear hfz54_0); (try clear hfz54_1); (try clear hfz65_0); (try clear hfz65_1); (try clear hfz68_0); (try clear hfz68_1); (try clear hfz75_0); (try clear hfz75_1); (try clear hfz78_0); (try clear hfz78_1); (try clear p2)
           obtain ⟨kq, x116_94, rfl, HA, HJ94, HO_8, HO_14, HO_260001, HO_265001, HO_280001, BK239, BK259, BK264, BK279, HB⟩ := hcut
           have hl265001_94 := (Kd.Q_reads' HO_265001.out).1
           rw [hl265001_94] at HO_265001
           (try simp only [hl265001_94])
           (try simp only [hl265001_94] at BK239)
           (try simp only [hl265001_94] at BK259)
           (try simp only [hl265001_94] at BK264)
           (try simp only [hl265001_94] at BK279)
           (try simp only [hl265001_94] at HO_8)
           (try simp only [hl265001_94] at HO_14)
           (try simp only [hl265001_94] at HO_260001)
           (try simp only [hl265001_94] at HO_280001)
           cases kq with
           | zero => exact absurd HA.out (by simp [laws_FnExactRunOrders.j1])
           | succ kj94 =>
            have H := HA.out
            clear HA
            simp only [laws_FnExactRunOrders.j1] at H
            by_cases c138 : x116_94 = true
            ·subst c138
             have H1 : (some false) = some r := z61
             clear H
             have H := H1
             clear H1
             obtain rfl := Option.some.inj H
             go_wp2
             go_ret
             exact ⟨z20, z1⟩
            ·replace c138 := Bool.eq_false_iff.mpr c138
             subst c138
             have H1 : ((laws_markIntS.f kj94 t271 1).bind fun bt303 => ((laws_markFlow.f kj94 t274 t275 bt303.1).bind fun bt305 => ((laws_heldIntS.f kj94 bt303.2 1).bind fun t307 => (if t307 < 0 then (some false) else ((laws_heldFlow.f kj94 t274 bt305.2 t307).bind fun t308 => (if t308 < 0 then (some false) else (if t308 = bt305.1 then ((laws_toFlow.f kj94 a0_0 l0_1).bind fun bt309 => ((laws_toIntS.f kj94 l1).bind fun t313 => ((laws_toIntS.f kj94 l2).bind fun t316 => ((impl_RunOrders.f kj94 bt309.1 bt309.2 t313 t316).bind fun bt319 => ((laws_eqIntS.f kj94 bt319.1 t251).bind fun t328 => (if t328 = true then ((laws_eqFlow.f kj94 bt319.2.1 bt319.2.2.1 t254 t255).bind fun t329 => (if t329 = true then (laws_FnExactRunOrders.j2 kj94 bt303.2 bt305.1 (bt319.2.2.2 != t258) t274 bt305.2) else (laws_FnExactRunOrders.j2 kj94 bt303.2 bt305.1 true t274 bt305.2))) else (laws_FnExactRunOrders.j2 kj94 bt303.2 bt305.1 true t274 bt305.2))))))) else (some false)))))))) = some r := z42
             clear H
             have H := H1
             clear H1
             replace H := Option.bind_eq_some_iff.mp H
             obtain ⟨⟨t303, t304⟩, A1390, H⟩ := H
             (try dsimp only at H)
             have A139 := zA A1390
             clear A1390
             replace H := Option.bind_eq_some_iff.mp H
             obtain ⟨⟨t305, t306⟩, A1400, H⟩ := H
             (try dsimp only at H)
             have A140 := zA A1400
             clear A1400
             replace H := Option.bind_eq_some_iff.mp H
             obtain ⟨t307, A1410, H⟩ := H
             (try dsimp only at H)
             have A141 := zA A1410
             clear A1410
             by_cases c142 : t307 < 0
             ·rw [if_pos c142] at H
              have c142b0 : decide (t307 < 0) = true := decide_eq_true c142
              clear c142
              obtain rfl := Option.some.inj H
              obtain ⟨Ao143, co143, eo143, _⟩ := Kd.Q_slice HO_14.out
              subst eo143
              go_wp2_with (first | ((with_reducible refine gate_callee (f := 29) rfl ?_); refine goesL_ (some 119) rfl rfl Try.func29 z28 rfl #[.slice Ao143 t271.length co143, .int .i64 1] rfl z2 ?_; (with_reducible refine (laws_markIntS.calls kj94 (fun k_ => some k_ = (.slice Ao143 t271.length co143 : Value).ownBlock) (.slice Ao143 t271.length co143) t271 1 t303 t304 w _ ?side1 ?side2 A139.out).mono ?_); (case side1 => repeat (first | (with_reducible first | exact HB.out | apply below_alloc | apply pw_below_drewN | apply below_drew1 | refine below_set ?_ GE239.out | refine below_set ?_ GE259.out | refine below_set ?_ GE264.out | refine below_set ?_ GE279.out) | exact HB.out)); (case side2 => exact Kd.Q_tight rfl HO_14.out); rintro e w144 ⟨rfl, hy0, hb, hkp⟩; refine ⟨_, rfl, ?_⟩; have n0_ := zA (Kd.R_mono (ok' := fun k_ => zS k_ Ao143 t271.length co143 ∧ zS k_ Ao36 t255.length co36 ∧ zS k_ Ao43 t296.length co43 ∧ zS k_ Ao55 t275.length co55) (Kd.R_keptB (HO_8.out) hkp (fun k_ hk_ hs_ => (hk_.1) hs_)) (fun k_ hk_ => ⟨hk_.1.1, hk_.1.2.1, hk_.1.2.2.1, hk_.1.2.2.2⟩)); have n1_ := zA (Kd.Q_mono (Kd.Q_tight rfl hy0) (fun k_ hk_ => HO_14.out.1 k_ hk_.symm)); have n2_ := zA (Kd.Q_mono (ok' := fun k_ => zV k_ v252 ∧ zS k_ Ao143 t271.length co143 ∧ zS k_ Ao43 t296.length co43 ∧ zS k_ Ao55 t275.length co55) (Kd.Q_keptB (HO_260001.out) hkp (fun k_ hk_ hs_ => (hk_.2.1) hs_)) (fun k_ hk_ => ⟨hk_.1.1, hk_.1.2.1, hk_.1.2.2.1, hk_.1.2.2.2⟩)); have n3_ := zA (Kd.Q_mono (ok' := fun k_ => zV k_ v252 ∧ zS k_ Ao143 t271.length co143 ∧ zS k_ Ao36 t255.length co36 ∧ zS k_ Ao55 t275.length co55) (Kd.Q_keptB (HO_265001.out) hkp (fun k_ hk_ hs_ => (hk_.2.1) hs_)) (fun k_ hk_ => ⟨hk_.1.1, hk_.1.2.1, hk_.1.2.2.1, hk_.1.2.2.2⟩)); have n4_ := zA (Kd.Q_mono (ok' := fun k_ => zV k_ v252 ∧ zS k_ Ao143 t271.length co143 ∧ zS k_ Ao36 t255.length co36 ∧ zS k_ Ao43 t296.length co43) (Kd.Q_keptB (HO_280001.out) hkp (fun k_ hk_ hs_ => (hk_.2.1) hs_)) (fun k_ hk_ => ⟨hk_.1.1, hk_.1.2.1, hk_.1.2.2.1, hk_.1.2.2.2⟩)); have n5_ := zA (blk_kept (g := gb239) (o := .cells #[.int .i64 a0_0, .slice A0_1 l0_1.length c0_1] 35 (0, 0)) z3 hkp (fun hs_ => (fun e_ => (Kd.Q_ne HO_14.out BK239.out z37) e_) hs_)); have n6_ := zA (blk_kept (g := gb259) (o := .cells #[.int .i64 t254, .slice Ao36 t255.length co36] 38 (0, 0)) z4 hkp (fun hs_ => (fun e_ => (Kd.Q_ne HO_14.out BK259.out z37) e_) hs_)); have n7_ := zA (blk_kept (g := gb264) (o := .cells #[.int .i64 t260, .slice Ao43 t296.length co43] 38 (0, 0)) z5 hkp (fun hs_ => (fun e_ => (Kd.Q_ne HO_14.out BK264.out z37) e_) hs_)); have n8_ := zA (blk_kept (g := gb279) (o := .cells #[.int .i64 t274, .slice Ao55 t275.length co55] 38 (0, 0)) z6 hkp (fun hs_ => (fun e_ => (Kd.Q_ne HO_14.out BK279.out z37) e_) hs_)); have n9_ := zA (hb); clear HO_8 HO_14 HO_260001 HO_265001 HO_280001 BK239 BK259 BK264 BK279 HB; revert n0_ n1_ n2_ n3_ n4_ n5_ n6_ n7_ n8_ n9_; intro HO_8 HO_14 HO_260001 HO_265001 HO_280001 BK239 BK259 BK264 BK279 HB; (try clear hb); (try clear hkp); (try clear hy0); have hnb145 := NB279_239.out; have hnc145 := NB239_279.out; have hnb146 := NB279_259.out; have hnc146 := NB259_279.out; have hnb147 := NB279_264.out; have hnc147 := NB264_279.out; have hcz148_0 : w144.cell? ⟨gb279, 0, none⟩ = some (.int .i64 t274) := (blk_cell BK279.out 0).trans rfl; have hcz148_1 : w144.cell? ⟨gb279, 1, none⟩ = some (.slice Ao55 t275.length co55) := (blk_cell BK279.out 1).trans rfl; have hfz148_0 := blk_frozen BK279.out 0; have hfz148_1 := blk_frozen BK279.out 1) | ((with_reducible refine gate_callee (f := 43) rfl ?_); refine goesL_ (some 122) rfl rfl Try.func43 z28 rfl #[.agg #[.int .i64 t274, .slice Ao55 t275.length co55], .int .i64 t303] rfl z2 ?_; (with_reducible refine (laws_markFlow.calls kj94 t274 (fun k_ => some k_ = (.slice Ao55 t275.length co55 : Value).ownBlock) (.slice Ao55 t275.length co55) t275 t303 t305 t306 w _ ?side1 ?side2 A140.out).mono ?_); (case side1 => repeat (first | (with_reducible first | exact HB.out | apply below_alloc | apply pw_below_drewN | apply below_drew1 | refine below_set ?_ GE239.out | refine below_set ?_ GE259.out | refine below_set ?_ GE264.out | refine below_set ?_ GE279.out) | exact HB.out)); (case side2 => exact Kd.Q_tight rfl HO_280001.out); rintro e w149 ⟨rfl, hy0, hb, hkp⟩; refine ⟨_, rfl, ?_⟩; have n0_ := zA (Kd.R_mono (ok' := fun k_ => zS k_ Ao143 t271.length co143 ∧ zS k_ Ao36 t255.length co36 ∧ zS k_ Ao43 t296.length co43 ∧ zS k_ Ao55 t275.length co55) (Kd.R_keptB (HO_8.out) hkp (fun k_ hk_ hs_ => (hk_.2.2.2) hs_)) (fun k_ hk_ => ⟨hk_.1.1, hk_.1.2.1, hk_.1.2.2.1, hk_.1.2.2.2⟩)); have n1_ := zA (Kd.Q_mono (ok' := fun k_ => zV k_ v252 ∧ zS k_ Ao36 t255.length co36 ∧ zS k_ Ao43 t296.length co43 ∧ zS k_ Ao55 t275.length co55) (Kd.Q_keptB (HO_14.out) hkp (fun k_ hk_ hs_ => (hk_.2.2.2) hs_)) (fun k_ hk_ => ⟨hk_.1.1, hk_.1.2.1, hk_.1.2.2.1, hk_.1.2.2.2⟩)); have n2_ := zA (Kd.Q_mono (ok' := fun k_ => zV k_ v252 ∧ zS k_ Ao143 t271.length co143 ∧ zS k_ Ao43 t296.length co43 ∧ zS k_ Ao55 t275.length co55) (Kd.Q_keptB (HO_260001.out) hkp (fun k_ hk_ hs_ => (hk_.2.2.2) hs_)) (fun k_ hk_ => ⟨hk_.1.1, hk_.1.2.1, hk_.1.2.2.1, hk_.1.2.2.2⟩)); have n3_ := zA (Kd.Q_mono (ok' := fun k_ => zV k_ v252 ∧ zS k_ Ao143 t271.length co143 ∧ zS k_ Ao36 t255.length co36 ∧ zS k_ Ao55 t275.length co55) (Kd.Q_keptB (HO_265001.out) hkp (fun k_ hk_ hs_ => (hk_.2.2.2) hs_)) (fun k_ hk_ => ⟨hk_.1.1, hk_.1.2.1, hk_.1.2.2.1, hk_.1.2.2.2⟩)); have n4_ := zA (Kd.Q_mono (Kd.Q_tight rfl hy0) (fun k_ hk_ => HO_280001.out.1 k_ hk_.symm)); have n5_ := zA (blk_kept (g := gb239) (o := .cells #[.int .i64 a0_0, .slice A0_1 l0_1.length c0_1] 35 (0, 0)) z3 hkp (fun hs_ => (fun e_ => (Kd.Q_ne HO_280001.out BK239.out z37) e_) hs_)); have n6_ := zA (blk_kept (g := gb259) (o := .cells #[.int .i64 t254, .slice Ao36 t255.length co36] 38 (0, 0)) z4 hkp (fun hs_ => (fun e_ => (Kd.Q_ne HO_280001.out BK259.out z37) e_) hs_)); have n7_ := zA (blk_kept (g := gb264) (o := .cells #[.int .i64 t260, .slice Ao43 t296.length co43] 38 (0, 0)) z5 hkp (fun hs_ => (fun e_ => (Kd.Q_ne HO_280001.out BK264.out z37) e_) hs_)); have n8_ := zA (blk_kept (g := gb279) (o := .cells #[.int .i64 t274, .slice Ao55 t275.length co55] 38 (0, 0)) z6 hkp (fun hs_ => (fun e_ => (Kd.Q_ne HO_280001.out BK279.out z37) e_) hs_)); have n9_ := zA (hb); clear HO_8 HO_14 HO_260001 HO_265001 HO_280001 BK239 BK259 BK264 BK279 HB; revert n0_ n1_ n2_ n3_ n4_ n5_ n6_ n7_ n8_ n9_; intro HO_8 HO_14 HO_260001 HO_265001 HO_280001 BK239 BK259 BK264 BK279 HB; (try clear hb); (try clear hkp); (try clear hy0)) | ((with_reducible refine gate_callee (f := 30) rfl ?_); refine goesL_ (some 125) rfl rfl Try.func30 z28 rfl #[.slice Ao143 t304.length co143, .int .i64 1] rfl z41 ?_; (with_reducible refine (laws_heldIntS.calls kj94 _ _ t304 1 t307 _ ?side1 ?side2 A141.out).mono ?_); (case side1 => have zh := (Kd.Q_reads' HO_14.out).2.2; exact zC); (case side2 => rw [show t304.length = t271.length from (Kd.Q_reads' HO_14.out).1.symm]; exact (Kd.Q_reads' HO_14.out).2.1); rintro e w' ⟨rfl, ⟨nd, rfl⟩⟩; refine ⟨_, rfl, ?_⟩))
              go_ret
              exact ⟨z20, z1⟩
             ·rw [if_neg c142] at H
              have c142b0 : decide (t307 < 0) = false := decide_eq_false c142
              clear c142
              replace H := Option.bind_eq_some_iff.mp H
              obtain ⟨t308, A1500, H⟩ := H
              (try dsimp only at H)
              have A150 := zA A1500
              clear A1500
              by_cases c151 : t308 < 0
              ·rw [if_pos c151] at H
               have c151b0 : decide (t308 < 0) = true := decide_eq_true c151
               clear c151
               obtain rfl := Option.some.inj H
               obtain ⟨Ao152, co152, eo152, _⟩ := Kd.Q_slice HO_14.out
               subst eo152
               go_wp2_with (first | ((with_reducible refine gate_callee (f := 29) rfl ?_); refine goesL_ (some 119) rfl rfl Try.func29 z28 rfl #[.slice Ao152 t271.length co152, .int .i64 1] rfl z2 ?_; (with_reducible refine (laws_markIntS.calls kj94 (fun k_ => some k_ = (.slice Ao152 t271.length co152 : Value).ownBlock) (.slice Ao152 t271.length co152) t271 1 t303 t304 w _ ?side1 ?side2 A139.out).mono ?_); (case side1 => repeat (first | (with_reducible first | exact HB.out | apply below_alloc | apply pw_below_drewN | apply below_drew1 | refine below_set ?_ GE239.out | refine below_set ?_ GE259.out | refine below_set ?_ GE264.out | refine below_set ?_ GE279.out) | exact HB.out)); (case side2 => exact Kd.Q_tight rfl HO_14.out); rintro e w153 ⟨rfl, hy0, hb, hkp⟩; refine ⟨_, rfl, ?_⟩; have n0_ := zA (Kd.R_mono (ok' := fun k_ => zS k_ Ao152 t271.length co152 ∧ zS k_ Ao36 t255.length co36 ∧ zS k_ Ao43 t296.length co43 ∧ zS k_ Ao55 t275.length co55) (Kd.R_keptB (HO_8.out) hkp (fun k_ hk_ hs_ => (hk_.1) hs_)) (fun k_ hk_ => ⟨hk_.1.1, hk_.1.2.1, hk_.1.2.2.1, hk_.1.2.2.2⟩)); have n1_ := zA (Kd.Q_mono (Kd.Q_tight rfl hy0) (fun k_ hk_ => HO_14.out.1 k_ hk_.symm)); have n2_ := zA (Kd.Q_mono (ok' := fun k_ => zV k_ v252 ∧ zS k_ Ao152 t271.length co152 ∧ zS k_ Ao43 t296.length co43 ∧ zS k_ Ao55 t275.length co55) (Kd.Q_keptB (HO_260001.out) hkp (fun k_ hk_ hs_ => (hk_.2.1) hs_)) (fun k_ hk_ => ⟨hk_.1.1, hk_.1.2.1, hk_.1.2.2.1, hk_.1.2.2.2⟩)); have n3_ := zA (Kd.Q_mono (ok' := fun k_ => zV k_ v252 ∧ zS k_ Ao152 t271.length co152 ∧ zS k_ Ao36 t255.length co36 ∧ zS k_ Ao55 t275.length co55) (Kd.Q_keptB (HO_265001.out) hkp (fun k_ hk_ hs_ => (hk_.2.1) hs_)) (fun k_ hk_ => ⟨hk_.1.1, hk_.1.2.1, hk_.1.2.2.1, hk_.1.2.2.2⟩)); have n4_ := zA (Kd.Q_mono (ok' := fun k_ => zV k_ v252 ∧ zS k_ Ao152 t271.length co152 ∧ zS k_ Ao36 t255.length co36 ∧ zS k_ Ao43 t296.length co43) (Kd.Q_keptB (HO_280001.out) hkp (fun k_ hk_ hs_ => (hk_.2.1) hs_)) (fun k_ hk_ => ⟨hk_.1.1, hk_.1.2.1, hk_.1.2.2.1, hk_.1.2.2.2⟩)); have n5_ := zA (blk_kept (g := gb239) (o := .cells #[.int .i64 a0_0, .slice A0_1 l0_1.length c0_1] 35 (0, 0)) z3 hkp (fun hs_ => (fun e_ => (Kd.Q_ne HO_14.out BK239.out z37) e_) hs_)); have n6_ := zA (blk_kept (g := gb259) (o := .cells #[.int .i64 t254, .slice Ao36 t255.length co36] 38 (0, 0)) z4 hkp (fun hs_ => (fun e_ => (Kd.Q_ne HO_14.out BK259.out z37) e_) hs_)); have n7_ := zA (blk_kept (g := gb264) (o := .cells #[.int .i64 t260, .slice Ao43 t296.length co43] 38 (0, 0)) z5 hkp (fun hs_ => (fun e_ => (Kd.Q_ne HO_14.out BK264.out z37) e_) hs_)); have n8_ := zA (blk_kept (g := gb279) (o := .cells #[.int .i64 t274, .slice Ao55 t275.length co55] 38 (0, 0)) z6 hkp (fun hs_ => (fun e_ => (Kd.Q_ne HO_14.out BK279.out z37) e_) hs_)); have n9_ := zA (hb); clear HO_8 HO_14 HO_260001 HO_265001 HO_280001 BK239 BK259 BK264 BK279 HB; revert n0_ n1_ n2_ n3_ n4_ n5_ n6_ n7_ n8_ n9_; intro HO_8 HO_14 HO_260001 HO_265001 HO_280001 BK239 BK259 BK264 BK279 HB; (try clear hb); (try clear hkp); (try clear hy0); have hnb154 := NB279_239.out; have hnc154 := NB239_279.out; have hnb155 := NB279_259.out; have hnc155 := NB259_279.out; have hnb156 := NB279_264.out; have hnc156 := NB264_279.out; have hcz157_0 : w153.cell? ⟨gb279, 0, none⟩ = some (.int .i64 t274) := (blk_cell BK279.out 0).trans rfl; have hcz157_1 : w153.cell? ⟨gb279, 1, none⟩ = some (.slice Ao55 t275.length co55) := (blk_cell BK279.out 1).trans rfl; have hfz157_0 := blk_frozen BK279.out 0; have hfz157_1 := blk_frozen BK279.out 1) | ((with_reducible refine gate_callee (f := 43) rfl ?_); refine goesL_ (some 122) rfl rfl Try.func43 z28 rfl #[.agg #[.int .i64 t274, .slice Ao55 t275.length co55], .int .i64 t303] rfl z2 ?_; (with_reducible refine (laws_markFlow.calls kj94 t274 (fun k_ => some k_ = (.slice Ao55 t275.length co55 : Value).ownBlock) (.slice Ao55 t275.length co55) t275 t303 t305 t306 w _ ?side1 ?side2 A140.out).mono ?_); (case side1 => repeat (first | (with_reducible first | exact HB.out | apply below_alloc | apply pw_below_drewN | apply below_drew1 | refine below_set ?_ GE239.out | refine below_set ?_ GE259.out | refine below_set ?_ GE264.out | refine below_set ?_ GE279.out) | exact HB.out)); (case side2 => exact Kd.Q_tight rfl HO_280001.out); rintro e w158 ⟨rfl, hy0, hb, hkp⟩; refine ⟨_, rfl, ?_⟩; have n0_ := zA (Kd.R_mono (ok' := fun k_ => zS k_ Ao152 t271.length co152 ∧ zS k_ Ao36 t255.length co36 ∧ zS k_ Ao43 t296.length co43 ∧ zS k_ Ao55 t275.length co55) (Kd.R_keptB (HO_8.out) hkp (fun k_ hk_ hs_ => (hk_.2.2.2) hs_)) (fun k_ hk_ => ⟨hk_.1.1, hk_.1.2.1, hk_.1.2.2.1, hk_.1.2.2.2⟩)); have n1_ := zA (Kd.Q_mono (ok' := fun k_ => zV k_ v252 ∧ zS k_ Ao36 t255.length co36 ∧ zS k_ Ao43 t296.length co43 ∧ zS k_ Ao55 t275.length co55) (Kd.Q_keptB (HO_14.out) hkp (fun k_ hk_ hs_ => (hk_.2.2.2) hs_)) (fun k_ hk_ => ⟨hk_.1.1, hk_.1.2.1, hk_.1.2.2.1, hk_.1.2.2.2⟩)); have n2_ := zA (Kd.Q_mono (ok' := fun k_ => zV k_ v252 ∧ zS k_ Ao152 t271.length co152 ∧ zS k_ Ao43 t296.length co43 ∧ zS k_ Ao55 t275.length co55) (Kd.Q_keptB (HO_260001.out) hkp (fun k_ hk_ hs_ => (hk_.2.2.2) hs_)) (fun k_ hk_ => ⟨hk_.1.1, hk_.1.2.1, hk_.1.2.2.1, hk_.1.2.2.2⟩)); have n3_ := zA (Kd.Q_mono (ok' := fun k_ => zV k_ v252 ∧ zS k_ Ao152 t271.length co152 ∧ zS k_ Ao36 t255.length co36 ∧ zS k_ Ao55 t275.length co55) (Kd.Q_keptB (HO_265001.out) hkp (fun k_ hk_ hs_ => (hk_.2.2.2) hs_)) (fun k_ hk_ => ⟨hk_.1.1, hk_.1.2.1, hk_.1.2.2.1, hk_.1.2.2.2⟩)); have n4_ := zA (Kd.Q_mono (Kd.Q_tight rfl hy0) (fun k_ hk_ => HO_280001.out.1 k_ hk_.symm)); have n5_ := zA (blk_kept (g := gb239) (o := .cells #[.int .i64 a0_0, .slice A0_1 l0_1.length c0_1] 35 (0, 0)) z3 hkp (fun hs_ => (fun e_ => (Kd.Q_ne HO_280001.out BK239.out z37) e_) hs_)); have n6_ := zA (blk_kept (g := gb259) (o := .cells #[.int .i64 t254, .slice Ao36 t255.length co36] 38 (0, 0)) z4 hkp (fun hs_ => (fun e_ => (Kd.Q_ne HO_280001.out BK259.out z37) e_) hs_)); have n7_ := zA (blk_kept (g := gb264) (o := .cells #[.int .i64 t260, .slice Ao43 t296.length co43] 38 (0, 0)) z5 hkp (fun hs_ => (fun e_ => (Kd.Q_ne HO_280001.out BK264.out z37) e_) hs_)); have n8_ := zA (blk_kept (g := gb279) (o := .cells #[.int .i64 t274, .slice Ao55 t275.length co55] 38 (0, 0)) z6 hkp (fun hs_ => (fun e_ => (Kd.Q_ne HO_280001.out BK279.out z37) e_) hs_)); have n9_ := zA (hb); clear HO_8 HO_14 HO_260001 HO_265001 HO_280001 BK239 BK259 BK264 BK279 HB; revert n0_ n1_ n2_ n3_ n4_ n5_ n6_ n7_ n8_ n9_; intro HO_8 HO_14 HO_260001 HO_265001 HO_280001 BK239 BK259 BK264 BK279 HB; (try clear hb); (try clear hkp); (try clear hy0)) | ((with_reducible refine gate_callee (f := 30) rfl ?_); refine goesL_ (some 125) rfl rfl Try.func30 z28 rfl #[.slice Ao152 t304.length co152, .int .i64 1] rfl z41 ?_; (with_reducible refine (laws_heldIntS.calls kj94 _ _ t304 1 t307 _ ?side1 ?side2 A141.out).mono ?_); (case side1 => have zh := (Kd.Q_reads' HO_14.out).2.2; exact zC); (case side2 => rw [show t304.length = t271.length from (Kd.Q_reads' HO_14.out).1.symm]; exact (Kd.Q_reads' HO_14.out).2.1); rintro e w' ⟨rfl, ⟨nd, rfl⟩⟩; refine ⟨_, rfl, ?_⟩; have hcz159_0 : w158.cell? ⟨gb279, 0, none⟩ = some (.int .i64 t274) := (blk_cell BK279.out 0).trans rfl; have hcz159_1 : w158.cell? ⟨gb279, 1, none⟩ = some (.slice Ao55 t275.length co55) := (blk_cell BK279.out 1).trans rfl; have hfz159_0 := blk_frozen BK279.out 0; have hfz159_1 := blk_frozen BK279.out 1) | ((with_reducible refine gate_callee (f := 44) rfl ?_); refine goesL_ (some 130) rfl rfl Try.func44 z28 rfl #[.agg #[.int .i64 t274, .slice Ao55 t306.length co55], .int .i64 t307] rfl z53 ?_; (with_reducible refine (laws_heldFlow.calls kj94 t274 _ _ t306 t307 t308 _ ?side1 ?side2 A150.out).mono ?_); (case side1 => have zh := (Kd.Q_reads' HO_280001.out).2.2; exact zC); (case side2 => rw [show t306.length = t275.length from (Kd.Q_reads' HO_280001.out).1.symm]; exact (Kd.Q_reads' HO_280001.out).2.1); rintro e w160 ⟨rfl, hb⟩; refine ⟨_, rfl, ?_⟩; have n0_ := zA (Kd.R_below z11 hb); have n1_ := zA (Kd.Q_below z10 hb); have n2_ := zA (Kd.Q_below z9 hb); have n3_ := zA (Kd.Q_below z8 hb); have n4_ := zA (Kd.Q_below z7 hb); have n5_ := zA (blk_below (g := gb239) (o := .cells #[.int .i64 a0_0, .slice A0_1 l0_1.length c0_1] 35 (0, 0)) z3 hb); have n6_ := zA (blk_below (g := gb259) (o := .cells #[.int .i64 t254, .slice Ao36 t255.length co36] 38 (0, 0)) z4 hb); have n7_ := zA (blk_below (g := gb264) (o := .cells #[.int .i64 t260, .slice Ao43 t296.length co43] 38 (0, 0)) z5 hb); have n8_ := zA (blk_below (g := gb279) (o := .cells #[.int .i64 t274, .slice Ao55 t275.length co55] 38 (0, 0)) z6 hb); have n9_ := zA (below_step z1 hb); clear HO_8 HO_14 HO_260001 HO_265001 HO_280001 BK239 BK259 BK264 BK279 HB; revert n0_ n1_ n2_ n3_ n4_ n5_ n6_ n7_ n8_ n9_; intro HO_8 HO_14 HO_260001 HO_265001 HO_280001 BK239 BK259 BK264 BK279 HB; (try clear hb); (try clear hb2); (try clear hk); (try clear hi)))
               go_ret
               exact ⟨z20, z1⟩
              ·rw [if_neg c151] at H
               have c151b0 : decide (t308 < 0) = false := decide_eq_false c151
               clear c151
               by_cases c161 : t308 = t305
               ·rw [if_pos c161] at H
                have c161b0 : (t308 == t305) = true := beq_iff_eq.mpr c161
                have c161b1 : (t308 != t305) = false := bne_eq_false_iff_eq.mpr c161
                clear c161
                replace H := Option.bind_eq_some_iff.mp H
                obtain ⟨⟨t309, t310⟩, A1620, H⟩ := H
                (try dsimp only at H)
                have A162 := zA A1620
                clear A1620
                replace H := Option.bind_eq_some_iff.mp H
                obtain ⟨t313, A1630, H⟩ := H
                (try dsimp only at H)
                have A163 := zA A1630
                clear A1630
                replace H := Option.bind_eq_some_iff.mp H
                obtain ⟨t316, A1640, H⟩ := H
                (try dsimp only at H)
                have A164 := zA A1640
                clear A1640
                replace H := Option.bind_eq_some_iff.mp H
                obtain ⟨⟨t319, t322, t323, t326⟩, A1650, H⟩ := H
                (try dsimp only at H)
                have A165 := zA A1650
                clear A1650
                have HC166 := zA H
                clear H
                obtain ⟨Ao167, co167, eo167, _⟩ := Kd.Q_slice HO_14.out
                subst eo167
                go_upto_region 41 with (first | ((with_reducible refine gate_callee (f := 29) rfl ?_); refine goesL_ (some 119) rfl rfl Try.func29 z28 rfl #[.slice Ao167 t271.length co167, .int .i64 1] rfl z2 ?_; (with_reducible refine (laws_markIntS.calls kj94 (fun k_ => some k_ = (.slice Ao167 t271.length co167 : Value).ownBlock) (.slice Ao167 t271.length co167) t271 1 t303 t304 w _ ?side1 ?side2 A139.out).mono ?_); (case side1 => repeat (first | (with_reducible first | exact HB.out | apply below_alloc | apply pw_below_drewN | apply below_drew1 | refine below_set ?_ GE239.out | refine below_set ?_ GE259.out | refine below_set ?_ GE264.out | refine below_set ?_ GE279.out) | exact HB.out)); (case side2 => exact Kd.Q_tight rfl HO_14.out); rintro e w168 ⟨rfl, hy0, hb, hkp⟩; refine ⟨_, rfl, ?_⟩; have n0_ := zA (Kd.R_mono (ok' := fun k_ => zS k_ Ao167 t271.length co167 ∧ zS k_ Ao36 t255.length co36 ∧ zS k_ Ao43 t296.length co43 ∧ zS k_ Ao55 t275.length co55) (Kd.R_keptB (HO_8.out) hkp (fun k_ hk_ hs_ => (hk_.1) hs_)) (fun k_ hk_ => ⟨hk_.1.1, hk_.1.2.1, hk_.1.2.2.1, hk_.1.2.2.2⟩)); have n1_ := zA (Kd.Q_mono (Kd.Q_tight rfl hy0) (fun k_ hk_ => HO_14.out.1 k_ hk_.symm)); have n2_ := zA (Kd.Q_mono (ok' := fun k_ => zV k_ v252 ∧ zS k_ Ao167 t271.length co167 ∧ zS k_ Ao43 t296.length co43 ∧ zS k_ Ao55 t275.length co55) (Kd.Q_keptB (HO_260001.out) hkp (fun k_ hk_ hs_ => (hk_.2.1) hs_)) (fun k_ hk_ => ⟨hk_.1.1, hk_.1.2.1, hk_.1.2.2.1, hk_.1.2.2.2⟩)); have n3_ := zA (Kd.Q_mono (ok' := fun k_ => zV k_ v252 ∧ zS k_ Ao167 t271.length co167 ∧ zS k_ Ao36 t255.length co36 ∧ zS k_ Ao55 t275.length co55) (Kd.Q_keptB (HO_265001.out) hkp (fun k_ hk_ hs_ => (hk_.2.1) hs_)) (fun k_ hk_ => ⟨hk_.1.1, hk_.1.2.1, hk_.1.2.2.1, hk_.1.2.2.2⟩)); have n4_ := zA (Kd.Q_mono (ok' := fun k_ => zV k_ v252 ∧ zS k_ Ao167 t271.length co167 ∧ zS k_ Ao36 t255.length co36 ∧ zS k_ Ao43 t296.length co43) (Kd.Q_keptB (HO_280001.out) hkp (fun k_ hk_ hs_ => (hk_.2.1) hs_)) (fun k_ hk_ => ⟨hk_.1.1, hk_.1.2.1, hk_.1.2.2.1, hk_.1.2.2.2⟩)); have n5_ := zA (blk_kept (g := gb239) (o := .cells #[.int .i64 a0_0, .slice A0_1 l0_1.length c0_1] 35 (0, 0)) z3 hkp (fun hs_ => (fun e_ => (Kd.Q_ne HO_14.out BK239.out z37) e_) hs_)); have n6_ := zA (blk_kept (g := gb259) (o := .cells #[.int .i64 t254, .slice Ao36 t255.length co36] 38 (0, 0)) z4 hkp (fun hs_ => (fun e_ => (Kd.Q_ne HO_14.out BK259.out z37) e_) hs_)); have n7_ := zA (blk_kept (g := gb264) (o := .cells #[.int .i64 t260, .slice Ao43 t296.length co43] 38 (0, 0)) z5 hkp (fun hs_ => (fun e_ => (Kd.Q_ne HO_14.out BK264.out z37) e_) hs_)); have n8_ := zA (blk_kept (g := gb279) (o := .cells #[.int .i64 t274, .slice Ao55 t275.length co55] 38 (0, 0)) z6 hkp (fun hs_ => (fun e_ => (Kd.Q_ne HO_14.out BK279.out z37) e_) hs_)); have n9_ := zA (hb); clear HO_8 HO_14 HO_260001 HO_265001 HO_280001 BK239 BK259 BK264 BK279 HB; revert n0_ n1_ n2_ n3_ n4_ n5_ n6_ n7_ n8_ n9_; intro HO_8 HO_14 HO_260001 HO_265001 HO_280001 BK239 BK259 BK264 BK279 HB; (try clear hb); (try clear hkp); (try clear hy0); have hnb169 := NB279_239.out; have hnc169 := NB239_279.out; have hnb170 := NB279_259.out; have hnc170 := NB259_279.out; have hnb171 := NB279_264.out; have hnc171 := NB264_279.out; have hcz172_0 : w168.cell? ⟨gb279, 0, none⟩ = some (.int .i64 t274) := (blk_cell BK279.out 0).trans rfl; have hcz172_1 : w168.cell? ⟨gb279, 1, none⟩ = some (.slice Ao55 t275.length co55) := (blk_cell BK279.out 1).trans rfl; have hfz172_0 := blk_frozen BK279.out 0; have hfz172_1 := blk_frozen BK279.out 1) | ((with_reducible refine gate_callee (f := 43) rfl ?_); refine goesL_ (some 122) rfl rfl Try.func43 z28 rfl #[.agg #[.int .i64 t274, .slice Ao55 t275.length co55], .int .i64 t303] rfl z2 ?_; (with_reducible refine (laws_markFlow.calls kj94 t274 (fun k_ => some k_ = (.slice Ao55 t275.length co55 : Value).ownBlock) (.slice Ao55 t275.length co55) t275 t303 t305 t306 w _ ?side1 ?side2 A140.out).mono ?_); (case side1 => repeat (first | (with_reducible first | exact HB.out | apply below_alloc | apply pw_below_drewN | apply below_drew1 | refine below_set ?_ GE239.out | refine below_set ?_ GE259.out | refine below_set ?_ GE264.out | refine below_set ?_ GE279.out) | exact HB.out)); (case side2 => exact Kd.Q_tight rfl HO_280001.out); rintro e w173 ⟨rfl, hy0, hb, hkp⟩; refine ⟨_, rfl, ?_⟩; have n0_ := zA (Kd.R_mono (ok' := fun k_ => zS k_ Ao167 t271.length co167 ∧ zS k_ Ao36 t255.length co36 ∧ zS k_ Ao43 t296.length co43 ∧ zS k_ Ao55 t275.length co55) (Kd.R_keptB (HO_8.out) hkp (fun k_ hk_ hs_ => (hk_.2.2.2) hs_)) (fun k_ hk_ => ⟨hk_.1.1, hk_.1.2.1, hk_.1.2.2.1, hk_.1.2.2.2⟩)); have n1_ := zA (Kd.Q_mono (ok' := fun k_ => zV k_ v252 ∧ zS k_ Ao36 t255.length co36 ∧ zS k_ Ao43 t296.length co43 ∧ zS k_ Ao55 t275.length co55) (Kd.Q_keptB (HO_14.out) hkp (fun k_ hk_ hs_ => (hk_.2.2.2) hs_)) (fun k_ hk_ => ⟨hk_.1.1, hk_.1.2.1, hk_.1.2.2.1, hk_.1.2.2.2⟩)); have n2_ := zA (Kd.Q_mono (ok' := fun k_ => zV k_ v252 ∧ zS k_ Ao167 t271.length co167 ∧ zS k_ Ao43 t296.length co43 ∧ zS k_ Ao55 t275.length co55) (Kd.Q_keptB (HO_260001.out) hkp (fun k_ hk_ hs_ => (hk_.2.2.2) hs_)) (fun k_ hk_ => ⟨hk_.1.1, hk_.1.2.1, hk_.1.2.2.1, hk_.1.2.2.2⟩)); have n3_ := zA (Kd.Q_mono (ok' := fun k_ => zV k_ v252 ∧ zS k_ Ao167 t271.length co167 ∧ zS k_ Ao36 t255.length co36 ∧ zS k_ Ao55 t275.length co55) (Kd.Q_keptB (HO_265001.out) hkp (fun k_ hk_ hs_ => (hk_.2.2.2) hs_)) (fun k_ hk_ => ⟨hk_.1.1, hk_.1.2.1, hk_.1.2.2.1, hk_.1.2.2.2⟩)); have n4_ := zA (Kd.Q_mono (Kd.Q_tight rfl hy0) (fun k_ hk_ => HO_280001.out.1 k_ hk_.symm)); have n5_ := zA (blk_kept (g := gb239) (o := .cells #[.int .i64 a0_0, .slice A0_1 l0_1.length c0_1] 35 (0, 0)) z3 hkp (fun hs_ => (fun e_ => (Kd.Q_ne HO_280001.out BK239.out z37) e_) hs_)); have n6_ := zA (blk_kept (g := gb259) (o := .cells #[.int .i64 t254, .slice Ao36 t255.length co36] 38 (0, 0)) z4 hkp (fun hs_ => (fun e_ => (Kd.Q_ne HO_280001.out BK259.out z37) e_) hs_)); have n7_ := zA (blk_kept (g := gb264) (o := .cells #[.int .i64 t260, .slice Ao43 t296.length co43] 38 (0, 0)) z5 hkp (fun hs_ => (fun e_ => (Kd.Q_ne HO_280001.out BK264.out z37) e_) hs_)); have n8_ := zA (blk_kept (g := gb279) (o := .cells #[.int .i64 t274, .slice Ao55 t275.length co55] 38 (0, 0)) z6 hkp (fun hs_ => (fun e_ => (Kd.Q_ne HO_280001.out BK279.out z37) e_) hs_)); have n9_ := zA (hb); clear HO_8 HO_14 HO_260001 HO_265001 HO_280001 BK239 BK259 BK264 BK279 HB; revert n0_ n1_ n2_ n3_ n4_ n5_ n6_ n7_ n8_ n9_; intro HO_8 HO_14 HO_260001 HO_265001 HO_280001 BK239 BK259 BK264 BK279 HB; (try clear hb); (try clear hkp); (try clear hy0)) | ((with_reducible refine gate_callee (f := 30) rfl ?_); refine goesL_ (some 125) rfl rfl Try.func30 z28 rfl #[.slice Ao167 t304.length co167, .int .i64 1] rfl z41 ?_; (with_reducible refine (laws_heldIntS.calls kj94 _ _ t304 1 t307 _ ?side1 ?side2 A141.out).mono ?_); (case side1 => have zh := (Kd.Q_reads' HO_14.out).2.2; exact zC); (case side2 => rw [show t304.length = t271.length from (Kd.Q_reads' HO_14.out).1.symm]; exact (Kd.Q_reads' HO_14.out).2.1); rintro e w' ⟨rfl, ⟨nd, rfl⟩⟩; refine ⟨_, rfl, ?_⟩; (try (rw [drewN_self w173]; generalize hq_ : World.drewN w173 _ = w173; have n0_ : Aside0 (Kd.Q (Kd.int .i64) 3 w173 w.heap.size (fun k_ => zV k_ v252 ∧ zS k_ Ao36 t255.length co36 ∧ zS k_ Ao43 t296.length co43 ∧ zS k_ Ao55 t275.length co55) (.slice Ao167 t271.length co167) t304) := ⟨by rw [← hq_]; exact z10⟩; have n1_ : Aside0 (Kd.Q (Kd.int .i64) 3 w173 w.heap.size (fun k_ => zV k_ v252 ∧ zS k_ Ao167 t271.length co167 ∧ zS k_ Ao43 t296.length co43 ∧ zS k_ Ao55 t275.length co55) (.slice Ao36 t255.length co36) t255) := ⟨by rw [← hq_]; exact z9⟩; have n2_ : Aside0 (Kd.Q (Kd.int .i64) 3 w173 w.heap.size (fun k_ => zV k_ v252 ∧ zS k_ Ao167 t271.length co167 ∧ zS k_ Ao36 t255.length co36 ∧ zS k_ Ao55 t275.length co55) (.slice Ao43 t296.length co43) t296) := ⟨by rw [← hq_]; exact z8⟩; have n3_ : Aside0 (Kd.Q (Kd.int .i64) 3 w173 w.heap.size (fun k_ => zV k_ v252 ∧ zS k_ Ao167 t271.length co167 ∧ zS k_ Ao36 t255.length co36 ∧ zS k_ Ao43 t296.length co43) (.slice Ao55 t275.length co55) t306) := ⟨by rw [← hq_]; exact z7⟩; have n4_ : Aside0 (Kd.R (Kd.int .i64) 3 w173 w.heap.size (fun k_ => zS k_ Ao167 t271.length co167 ∧ zS k_ Ao36 t255.length co36 ∧ zS k_ Ao43 t296.length co43 ∧ zS k_ Ao55 t275.length co55) v252 t251) := ⟨by rw [← hq_]; exact z11⟩; have n5_ : Aside0 (w173.heap[gb239]? = some (.cells #[.int .i64 a0_0, .slice A0_1 l0_1.length c0_1] 35 (0, 0))) := ⟨by rw [← hq_]; exact z3⟩; have n6_ : Aside0 (w173.heap[gb259]? = some (.cells #[.int .i64 t254, .slice Ao36 t255.length co36] 38 (0, 0))) := ⟨by rw [← hq_]; exact z4⟩; have n7_ : Aside0 (w173.heap[gb264]? = some (.cells #[.int .i64 t260, .slice Ao43 t296.length co43] 38 (0, 0))) := ⟨by rw [← hq_]; exact z5⟩; have n8_ : Aside0 (w173.heap[gb279]? = some (.cells #[.int .i64 t274, .slice Ao55 t275.length co55] 38 (0, 0))) := ⟨by rw [← hq_]; exact z6⟩; have n9_ : Aside0 (Below w.heap.size w w173) := ⟨by rw [← hq_]; exact z1⟩; clear HO_14 HO_260001 HO_265001 HO_280001 HO_8 BK239 BK259 BK264 BK279 HB hq_; revert n0_ n1_ n2_ n3_ n4_ n5_ n6_ n7_ n8_ n9_; intro HO_14 HO_260001 HO_265001 HO_280001 HO_8 BK239 BK259 BK264 BK279 HB)); have hcz174_0 : w173.cell? ⟨gb279, 0, none⟩ = some (.int .i64 t274) := (blk_cell BK279.out 0).trans rfl; have hcz174_1 : w173.cell? ⟨gb279, 1, none⟩ = some (.slice Ao55 t275.length co55) := (blk_cell BK279.out 1).trans rfl; have hfz174_0 := blk_frozen BK279.out 0; have hfz174_1 := blk_frozen BK279.out 1) | ((with_reducible refine gate_callee (f := 44) rfl ?_); refine goesL_ (some 130) rfl rfl Try.func44 z28 rfl #[.agg #[.int .i64 t274, .slice Ao55 t306.length co55], .int .i64 t307] rfl z53 ?_; (with_reducible refine (laws_heldFlow.calls kj94 t274 _ _ t306 t307 t308 _ ?side1 ?side2 A150.out).mono ?_); (case side1 => have zh := (Kd.Q_reads' HO_280001.out).2.2; exact zC); (case side2 => rw [show t306.length = t275.length from (Kd.Q_reads' HO_280001.out).1.symm]; exact (Kd.Q_reads' HO_280001.out).2.1); rintro e w175 ⟨rfl, hb⟩; refine ⟨_, rfl, ?_⟩; have n0_ := zA (Kd.R_below z11 hb); have n1_ := zA (Kd.Q_below z10 hb); have n2_ := zA (Kd.Q_below z9 hb); have n3_ := zA (Kd.Q_below z8 hb); have n4_ := zA (Kd.Q_below z7 hb); have n5_ := zA (blk_below (g := gb239) (o := .cells #[.int .i64 a0_0, .slice A0_1 l0_1.length c0_1] 35 (0, 0)) z3 hb); have n6_ := zA (blk_below (g := gb259) (o := .cells #[.int .i64 t254, .slice Ao36 t255.length co36] 38 (0, 0)) z4 hb); have n7_ := zA (blk_below (g := gb264) (o := .cells #[.int .i64 t260, .slice Ao43 t296.length co43] 38 (0, 0)) z5 hb); have n8_ := zA (blk_below (g := gb279) (o := .cells #[.int .i64 t274, .slice Ao55 t275.length co55] 38 (0, 0)) z6 hb); have n9_ := zA (below_step z1 hb); clear HO_8 HO_14 HO_260001 HO_265001 HO_280001 BK239 BK259 BK264 BK279 HB; revert n0_ n1_ n2_ n3_ n4_ n5_ n6_ n7_ n8_ n9_; intro HO_8 HO_14 HO_260001 HO_265001 HO_280001 BK239 BK259 BK264 BK279 HB; (try clear hb); (try clear hb2); (try clear hk); (try clear hi); have hnb176 := NB239_259.out; have hnc176 := NB259_239.out; have hnb177 := NB239_264.out; have hnc177 := NB264_239.out; have hcz178_0 : w175.cell? ⟨gb239, 0, none⟩ = some (.int .i64 a0_0) := (blk_cell BK239.out 0).trans rfl; have hcz178_1 : w175.cell? ⟨gb239, 1, none⟩ = some (.slice A0_1 l0_1.length c0_1) := (blk_cell BK239.out 1).trans rfl; have hfz178_0 := blk_frozen BK239.out 0; have hfz178_1 := blk_frozen BK239.out 1) | ((with_reducible refine gate_callee (f := 24) rfl ?_); refine goesL_ (some 138) rfl rfl Try.func24 z28 rfl #[.agg #[.int .i64 a0_0, .slice A0_1 l0_1.length c0_1]] rfl z2 ?_; (with_reducible refine (laws_toFlow.calls kj94 a0_0 _ _ l0_1 t309 t310 _ ?side1 ?side2 A162.out).mono ?_); (case side1 => have zh := (Kd.C_below HR0_1.out HB.out); exact zC); (case side2 => exact HC0_1.out); rintro e w179 ⟨v311, rfl, ho0, hb⟩; refine ⟨_, rfl, ?_⟩; have n0_ := zA (Kd.R_elder' z11 (Kd.R_base ho0) hb); have n1_ := zA (Kd.Q_elder' z10 (Kd.R_base ho0) hb); have n2_ := zA (Kd.Q_elder' z9 (Kd.R_base ho0) hb); have n3_ := zA (Kd.Q_elder' z8 (Kd.R_base ho0) hb); have n4_ := zA (Kd.Q_elder' z7 (Kd.R_base ho0) hb); have n5_ := zA (Kd.R_lower (Kd.R_new' (Kd.R_new' (Kd.R_new' (Kd.R_new' (Kd.R_new' ho0 (Kd.R_lt z11)) (Kd.Q_lt z10)) (Kd.Q_lt z9)) (Kd.Q_lt z8)) (Kd.Q_lt z7)) (below_size z1)); have n6_ := zA (blk_below (g := gb239) (o := .cells #[.int .i64 a0_0, .slice A0_1 l0_1.length c0_1] 35 (0, 0)) z3 hb); have n7_ := zA (blk_below (g := gb259) (o := .cells #[.int .i64 t254, .slice Ao36 t255.length co36] 38 (0, 0)) z4 hb); have n8_ := zA (blk_below (g := gb264) (o := .cells #[.int .i64 t260, .slice Ao43 t296.length co43] 38 (0, 0)) z5 hb); have n9_ := zA (blk_below (g := gb279) (o := .cells #[.int .i64 t274, .slice Ao55 t275.length co55] 38 (0, 0)) z6 hb); have n10_ := zA (below_step z1 hb); clear HO_8 HO_14 HO_260001 HO_265001 HO_280001 BK239 BK259 BK264 BK279 HB; revert n0_ n1_ n2_ n3_ n4_ n5_ n6_ n7_ n8_ n9_ n10_; intro HO_8 HO_14 HO_260001 HO_265001 HO_280001 HO312 BK239 BK259 BK264 BK279 HB; (try clear hb); (try clear hb2); (try clear hk); (try clear hi); (try clear ho0)) | ((with_reducible refine gate_callee (f := 19) rfl ?_); refine goesL_ (some 140) rfl rfl Try.func19 z28 rfl #[.slice A1 l1.length c1] rfl z2 ?_; (with_reducible refine (laws_toIntS.calls kj94 _ _ l1 t313 _ ?side1 ?side2 A163.out).mono ?_); (case side1 => have zh := (Kd.C_below HR1.out HB.out); exact zC); (case side2 => exact HC1.out); rintro e w180 ⟨v314, rfl, ho0, hb⟩; refine ⟨_, rfl, ?_⟩; have n0_ := zA (Kd.R_elder' z11 (Kd.R_base ho0) hb); have n1_ := zA (Kd.Q_elder' z10 (Kd.R_base ho0) hb); have n2_ := zA (Kd.Q_elder' z9 (Kd.R_base ho0) hb); have n3_ := zA (Kd.Q_elder' z8 (Kd.R_base ho0) hb); have n4_ := zA (Kd.Q_elder' z7 (Kd.R_base ho0) hb); have n5_ := zA (Kd.R_elder' z38 (Kd.R_base ho0) hb); have n6_ := zA (Kd.R_lower (Kd.R_new' (Kd.R_new' (Kd.R_new' (Kd.R_new' (Kd.R_new' (Kd.R_new' ho0 (Kd.R_lt z11)) (Kd.Q_lt z10)) (Kd.Q_lt z9)) (Kd.Q_lt z8)) (Kd.Q_lt z7)) (Kd.R_lt z38)) (below_size z1)); have n7_ := zA (blk_below (g := gb239) (o := .cells #[.int .i64 a0_0, .slice A0_1 l0_1.length c0_1] 35 (0, 0)) z3 hb); have n8_ := zA (blk_below (g := gb259) (o := .cells #[.int .i64 t254, .slice Ao36 t255.length co36] 38 (0, 0)) z4 hb); have n9_ := zA (blk_below (g := gb264) (o := .cells #[.int .i64 t260, .slice Ao43 t296.length co43] 38 (0, 0)) z5 hb); have n10_ := zA (blk_below (g := gb279) (o := .cells #[.int .i64 t274, .slice Ao55 t275.length co55] 38 (0, 0)) z6 hb); have n11_ := zA (below_step z1 hb); clear HO_8 HO_14 HO_260001 HO_265001 HO_280001 HO312 BK239 BK259 BK264 BK279 HB; revert n0_ n1_ n2_ n3_ n4_ n5_ n6_ n7_ n8_ n9_ n10_ n11_; intro HO_8 HO_14 HO_260001 HO_265001 HO_280001 HO312 HO315 BK239 BK259 BK264 BK279 HB; (try clear hb); (try clear hb2); (try clear hk); (try clear hi); (try clear ho0)) | ((with_reducible refine gate_callee (f := 19) rfl ?_); refine goesL_ (some 142) rfl rfl Try.func19 z28 rfl #[.slice A2 l2.length c2] rfl z2 ?_; (with_reducible refine (laws_toIntS.calls kj94 _ _ l2 t316 _ ?side1 ?side2 A164.out).mono ?_); (case side1 => have zh := (Kd.C_below HR2.out HB.out); exact zC); (case side2 => exact HC2.out); rintro e w181 ⟨v317, rfl, ho0, hb⟩; refine ⟨_, rfl, ?_⟩; have n0_ := zA (Kd.R_elder' z11 (Kd.R_base ho0) hb); have n1_ := zA (Kd.Q_elder' z10 (Kd.R_base ho0) hb); have n2_ := zA (Kd.Q_elder' z9 (Kd.R_base ho0) hb); have n3_ := zA (Kd.Q_elder' z8 (Kd.R_base ho0) hb); have n4_ := zA (Kd.Q_elder' z7 (Kd.R_base ho0) hb); have n5_ := zA (Kd.R_elder' z38 (Kd.R_base ho0) hb); have n6_ := zA (Kd.R_elder' z49 (Kd.R_base ho0) hb); have n7_ := zA (Kd.R_lower (Kd.R_new' (Kd.R_new' (Kd.R_new' (Kd.R_new' (Kd.R_new' (Kd.R_new' (Kd.R_new' ho0 (Kd.R_lt z11)) (Kd.Q_lt z10)) (Kd.Q_lt z9)) (Kd.Q_lt z8)) (Kd.Q_lt z7)) (Kd.R_lt z38)) (Kd.R_lt z49)) (below_size z1)); have n8_ := zA (blk_below (g := gb239) (o := .cells #[.int .i64 a0_0, .slice A0_1 l0_1.length c0_1] 35 (0, 0)) z3 hb); have n9_ := zA (blk_below (g := gb259) (o := .cells #[.int .i64 t254, .slice Ao36 t255.length co36] 38 (0, 0)) z4 hb); have n10_ := zA (blk_below (g := gb264) (o := .cells #[.int .i64 t260, .slice Ao43 t296.length co43] 38 (0, 0)) z5 hb); have n11_ := zA (blk_below (g := gb279) (o := .cells #[.int .i64 t274, .slice Ao55 t275.length co55] 38 (0, 0)) z6 hb); have n12_ := zA (below_step z1 hb); clear HO_8 HO_14 HO_260001 HO_265001 HO_280001 HO312 HO315 BK239 BK259 BK264 BK279 HB; revert n0_ n1_ n2_ n3_ n4_ n5_ n6_ n7_ n8_ n9_ n10_ n11_ n12_; intro HO_8 HO_14 HO_260001 HO_265001 HO_280001 HO312 HO315 HO318 BK239 BK259 BK264 BK279 HB; (try clear hb); (try clear hb2); (try clear hk); (try clear hi); (try clear ho0); obtain ⟨Ao182, co182, eo182⟩ := Kd.R_slice HO312.out; subst eo182; obtain ⟨Ao183, co183, eo183⟩ := Kd.R_slice HO315.out; subst eo183; obtain ⟨Ao184, co184, eo184⟩ := Kd.R_slice HO318.out; subst eo184) | ((with_reducible refine gate_callee (f := 51) rfl ?_); refine goesL_ (some 143) rfl rfl Try.func51 z28 rfl #[.agg #[.int .i64 t309, .slice Ao182 t310.length co182], .slice Ao183 t313.length co183, .slice Ao184 t316.length co184] rfl z2 ?_; (with_reducible refine (impl_RunOrders.calls kj94 t309 _ _ t310 _ _ t313 _ _ t316 t319 t322 t323 t326 _ ?side1 ?side2 ?side3 ?side4 ?side5 ?side6 A165.out).mono ?_); (case side1 => have zh := (Kd.R_reads' HO312.out).2.2; exact zC); (case side2 => exact (Kd.R_reads' HO312.out).2.1); (case side3 => have zh := (Kd.R_reads' HO315.out).2.2; exact zC); (case side4 => exact (Kd.R_reads' HO315.out).2.1); (case side5 => have zh := (Kd.R_reads' HO318.out).2.2; exact zC); (case side6 => exact (Kd.R_reads' HO318.out).2.1); rintro e w185 ⟨v320, v324, rfl, ho0, ho1, hb⟩; refine ⟨_, rfl, ?_⟩; have n0_ := zA (Kd.R_mono (Kd.R_told (Kd.R_told (Kd.R_old z11 hb) (Kd.R_base ho0)) (Kd.Q_base ho1)) (fun _ h_ => h_.1)); have n1_ := zA (Kd.Q_mono (Kd.Q_told (Kd.Q_told (Kd.Q_old z10 hb) (Kd.R_base ho0)) (Kd.Q_base ho1)) (fun _ h_ => h_.1)); have n2_ := zA (Kd.Q_mono (Kd.Q_told (Kd.Q_told (Kd.Q_old z9 hb) (Kd.R_base ho0)) (Kd.Q_base ho1)) (fun _ h_ => h_.1)); have n3_ := zA (Kd.Q_mono (Kd.Q_told (Kd.Q_told (Kd.Q_old z8 hb) (Kd.R_base ho0)) (Kd.Q_base ho1)) (fun _ h_ => h_.1)); have n4_ := zA (Kd.Q_mono (Kd.Q_told (Kd.Q_told (Kd.Q_old z7 hb) (Kd.R_base ho0)) (Kd.Q_base ho1)) (fun _ h_ => h_.1)); have n5_ := zA (Kd.R_mono (Kd.R_told (Kd.R_told (Kd.R_old z38 hb) (Kd.R_base ho0)) (Kd.Q_base ho1)) (fun _ h_ => h_.1)); have n6_ := zA (Kd.R_mono (Kd.R_told (Kd.R_told (Kd.R_old z49 hb) (Kd.R_base ho0)) (Kd.Q_base ho1)) (fun _ h_ => h_.1)); have n7_ := zA (Kd.R_mono (Kd.R_told (Kd.R_told (Kd.R_old z85 hb) (Kd.R_base ho0)) (Kd.Q_base ho1)) (fun _ h_ => h_.1)); have n8_ := zA (Kd.R_lower (Kd.R_new' (Kd.R_new' (Kd.R_new' (Kd.R_new' (Kd.R_new' (Kd.R_new' (Kd.R_new' (Kd.R_new' ho0 (Kd.R_lt z11)) (Kd.Q_lt z10)) (Kd.Q_lt z9)) (Kd.Q_lt z8)) (Kd.Q_lt z7)) (Kd.R_lt z38)) (Kd.R_lt z49)) (Kd.R_lt z85)) (below_size z1)); have n9_ := zA (Kd.Q_lower (Kd.Q_new' (Kd.Q_new' (Kd.Q_new' (Kd.Q_new' (Kd.Q_new' (Kd.Q_new' (Kd.Q_new' (Kd.Q_new' ho1 (Kd.R_lt z11)) (Kd.Q_lt z10)) (Kd.Q_lt z9)) (Kd.Q_lt z8)) (Kd.Q_lt z7)) (Kd.R_lt z38)) (Kd.R_lt z49)) (Kd.R_lt z85)) (below_size z1)); have n10_ := zA (blk_below (g := gb239) (o := .cells #[.int .i64 a0_0, .slice A0_1 l0_1.length c0_1] 35 (0, 0)) z3 hb); have n11_ := zA (blk_below (g := gb259) (o := .cells #[.int .i64 t254, .slice Ao36 t255.length co36] 38 (0, 0)) z4 hb); have n12_ := zA (blk_below (g := gb264) (o := .cells #[.int .i64 t260, .slice Ao43 t296.length co43] 38 (0, 0)) z5 hb); have n13_ := zA (blk_below (g := gb279) (o := .cells #[.int .i64 t274, .slice Ao55 t275.length co55] 38 (0, 0)) z6 hb); have n14_ := zA (below_step z1 hb); clear HO_8 HO_14 HO_260001 HO_265001 HO_280001 HO312 HO315 HO318 BK239 BK259 BK264 BK279 HB; revert n0_ n1_ n2_ n3_ n4_ n5_ n6_ n7_ n8_ n9_ n10_ n11_ n12_ n13_ n14_; intro HO_8 HO_14 HO_260001 HO_265001 HO_280001 HO312 HO315 HO318 HO321 HO325 BK239 BK259 BK264 BK279 HB; (try clear hb); (try clear hb2); (try clear hk); (try clear hi); (try clear ho0); (try clear ho1)) | ((with_reducible refine gate_dst (N := 21) rfl ?_); refine box_event ?hg (N := 21) ?hd (cs := #[.int .i64 0, .slice none 0 0]) (t := 38) ?hr ?_; (case hd => rfl); (case hg => rfl); (case hr => first | (go_simp; done) | (go_simp; rfl)); intro gb327 hg w186 hbox hb; have n0_ := zA (Kd.R_below z11 hb); have n1_ := zA (Kd.Q_below z10 hb); have n2_ := zA (Kd.Q_below z9 hb); have n3_ := zA (Kd.Q_below z8 hb); have n4_ := zA (Kd.Q_below z7 hb); have n5_ := zA (Kd.R_below z38 hb); have n6_ := zA (Kd.R_below z49 hb); have n7_ := zA (Kd.R_below z85 hb); have n8_ := zA (Kd.R_below (by (with_reducible repeat (first | apply Kd.R_alloc | apply Kd.R_drewN | apply Kd.R_drew)); exact HO321.out) hb); have n9_ := zA (Kd.Q_below (by (with_reducible repeat (first | apply Kd.Q_alloc | apply Kd.Q_drewN | apply Kd.Q_drew)); exact HO325.out) hb); have n10_ := zA (blk_below (g := gb239) (o := .cells #[.int .i64 a0_0, .slice A0_1 l0_1.length c0_1] 35 (0, 0)) z3 hb); have n11_ := zA (blk_below (g := gb259) (o := .cells #[.int .i64 t254, .slice Ao36 t255.length co36] 38 (0, 0)) z4 hb); have n12_ := zA (blk_below (g := gb264) (o := .cells #[.int .i64 t260, .slice Ao43 t296.length co43] 38 (0, 0)) z5 hb); have n13_ := zA (blk_below (g := gb279) (o := .cells #[.int .i64 t274, .slice Ao55 t275.length co55] 38 (0, 0)) z6 hb); have n14_ := zA (below_step z1 hb); have n15_ := zA (hbox); have n16_ := zA ((by rw [hg]; exact (below_size z1) : w.heap.size ≤ gb327)); have n17_ := zA ((by rw [hg]; exact (below_size z1) : w.heap.size ≤ gb327)); have n18_ := zA ((z59 : gb239 ≠ gb327)); have n19_ := zA ((z60 : gb327 ≠ gb239)); have n20_ := zA ((z87 : gb259 ≠ gb327)); have n21_ := zA ((z88 : gb327 ≠ gb259)); have n22_ := zA ((by rw [hg]; exact Nat.ne_of_lt (blk_lt (g := gb264) (o := .cells #[.int .i64 t260, .slice Ao43 t296.length co43] 38 (0, 0)) z5) : gb264 ≠ gb327)); have n23_ := zA ((by rw [hg]; exact Nat.ne_of_gt (blk_lt (g := gb264) (o := .cells #[.int .i64 t260, .slice Ao43 t296.length co43] 38 (0, 0)) z5) : gb327 ≠ gb264)); have n24_ := zA ((by rw [hg]; exact Nat.ne_of_lt (blk_lt (g := gb279) (o := .cells #[.int .i64 t274, .slice Ao55 t275.length co55] 38 (0, 0)) z6) : gb279 ≠ gb327)); have n25_ := zA ((by rw [hg]; exact Nat.ne_of_gt (blk_lt (g := gb279) (o := .cells #[.int .i64 t274, .slice Ao55 t275.length co55] 38 (0, 0)) z6) : gb327 ≠ gb279)); clear HO_8 HO_14 HO_260001 HO_265001 HO_280001 HO312 HO315 HO318 HO321 HO325 BK239 BK259 BK264 BK279 HB; revert n0_ n1_ n2_ n3_ n4_ n5_ n6_ n7_ n8_ n9_ n10_ n11_ n12_ n13_ n14_ n15_ n16_ n17_ n18_ n19_ n20_ n21_ n22_ n23_ n24_ n25_; intro HO_8 HO_14 HO_260001 HO_265001 HO_280001 HO312 HO315 HO318 HO321 HO325 BK239 BK259 BK264 BK279 HB BK327 GW327 GE327 NB239_327 NB327_239 NB259_327 NB327_259 NB264_327 NB327_264 NB279_327 NB327_279; clear hb hbox hg; have hnb187 := NB327_239.out; have hnc187 := NB239_327.out; have hnb188 := NB327_259.out; have hnc188 := NB259_327.out; have hnb189 := NB327_264.out; have hnc189 := NB264_327.out; have hnb190 := NB327_279.out; have hnc190 := NB279_327.out; have hcz191_0 : w186.cell? ⟨gb327, 0, none⟩ = some (.int .i64 0) := (blk_cell BK327.out 0).trans rfl; have hcz191_1 : w186.cell? ⟨gb327, 1, none⟩ = some (.slice none 0 0) := (blk_cell BK327.out 1).trans rfl; have hfz191_0 := blk_frozen BK327.out 0; have hfz191_1 := blk_frozen BK327.out 1; obtain ⟨Ao192, co192, eo192, _⟩ := Kd.Q_slice HO325.out; subst eo192))
                (try simp only [Act.put, List.setIfInBounds_toArray, List.set_cons_zero, List.set_cons_succ])
                go_cut [161] (fun v161 wc => ∃ (kq : Nat) (x161_165 : Bool), v161 = .bool x161_165 ∧ Aside0 (laws_FnExactRunOrders.j2 kq t304 t305 x161_165 t274 t306 = some r) ∧ Aside0 (kq ≤ kj94) ∧ Aside0 (Kd.Q (Kd.int .i64) 3 wc w.heap.size (fun k_ => some k_ ≠ ((.slice Ao36 t255.length co36) : Value).ownBlock ∧ some k_ ≠ ((.slice Ao43 t296.length co43) : Value).ownBlock ∧ some k_ ≠ ((.slice Ao55 t275.length co55) : Value).ownBlock ∧ some k_ ≠ ((.slice Ao192 t323.length co192) : Value).ownBlock) (.slice Ao167 t271.length co167) t304) ∧ Aside0 (Kd.Q (Kd.int .i64) 3 wc w.heap.size (fun k_ => some k_ ≠ ((.slice Ao167 t271.length co167) : Value).ownBlock ∧ some k_ ≠ ((.slice Ao43 t296.length co43) : Value).ownBlock ∧ some k_ ≠ ((.slice Ao55 t275.length co55) : Value).ownBlock ∧ some k_ ≠ ((.slice Ao192 t323.length co192) : Value).ownBlock) (.slice Ao36 t255.length co36) t255) ∧ Aside0 (Kd.Q (Kd.int .i64) 3 wc w.heap.size (fun k_ => some k_ ≠ ((.slice Ao167 t271.length co167) : Value).ownBlock ∧ some k_ ≠ ((.slice Ao36 t255.length co36) : Value).ownBlock ∧ some k_ ≠ ((.slice Ao55 t275.length co55) : Value).ownBlock ∧ some k_ ≠ ((.slice Ao192 t323.length co192) : Value).ownBlock) (.slice Ao43 t296.length co43) t296) ∧ Aside0 (Kd.Q (Kd.int .i64) 3 wc w.heap.size (fun k_ => some k_ ≠ ((.slice Ao167 t271.length co167) : Value).ownBlock ∧ some k_ ≠ ((.slice Ao36 t255.length co36) : Value).ownBlock ∧ some k_ ≠ ((.slice Ao43 t296.length co43) : Value).ownBlock ∧ some k_ ≠ ((.slice Ao192 t323.length co192) : Value).ownBlock) (.slice Ao55 t275.length co55) t306) ∧ Aside0 (Kd.Q (Kd.int .i64) 3 wc w.heap.size (fun k_ => some k_ ≠ ((.slice Ao167 t271.length co167) : Value).ownBlock ∧ some k_ ≠ ((.slice Ao36 t255.length co36) : Value).ownBlock ∧ some k_ ≠ ((.slice Ao43 t296.length co43) : Value).ownBlock ∧ some k_ ≠ ((.slice Ao55 t275.length co55) : Value).ownBlock) (.slice Ao192 t323.length co192) t323) ∧ Aside0 (wc.heap[gb239]? = some (.cells #[.int .i64 a0_0, (.slice A0_1 l0_1.length c0_1)] 35 (0, 0))) ∧ Aside0 (wc.heap[gb259]? = some (.cells #[.int .i64 t254, (.slice Ao36 t255.length co36)] 38 (0, 0))) ∧ Aside0 (wc.heap[gb264]? = some (.cells #[.int .i64 t260, (.slice Ao43 t296.length co43)] 38 (0, 0))) ∧ Aside0 (wc.heap[gb279]? = some (.cells #[.int .i64 t274, (.slice Ao55 t275.length co55)] 38 (0, 0))) ∧ Aside0 (wc.heap[gb327]? = some (.cells #[.int .i64 t322, (.slice Ao192 t323.length co192)] 38 (0, 0))) ∧ Aside0 (Below w.heap.size w wc))
                case first =>
                 have H := HC166.out
                 clear HC166
                 replace H := Option.bind_eq_some_iff.mp H
                 obtain ⟨t328, A1930, H⟩ := H
                 (try dsimp only at H)
                 have A193 := zA A1930
                 clear A1930
                 by_cases c194 : t328 = true
                 ·subst c194
                  have H1 : ((laws_eqFlow.f kj94 t322 t323 t254 t255).bind fun t329 => (if t329 = true then (laws_FnExactRunOrders.j2 kj94 t304 t305 (t326 != t258) t274 t306) else (laws_FnExactRunOrders.j2 kj94 t304 t305 true t274 t306))) = some r := z61
                  clear H
                  have H := H1
                  clear H1
                  replace H := Option.bind_eq_some_iff.mp H
                  obtain ⟨t329, A1950, H⟩ := H
                  (try dsimp only at H)
                  have A195 := zA A1950
                  clear A1950
                  by_cases c196 : t329 = true
                  ·subst c196
                   have H1 : (laws_FnExactRunOrders.j2 kj94 t304 t305 (t326 != t258) t274 t306) = some r := z61
                   clear H
                   have H := H1
                   clear H1
                   have H' := zA H
                   clear H
                   obtain ⟨Ao197, co197, eo197⟩ := Kd.R_slice HO321.out
                   subst eo197
                   obtain ⟨Ao198, co198, eo198⟩ := Kd.R_slice HO_8.out
                   subst eo198
                   go_wp2_with (first | ((with_reducible refine gate_callee (f := 21) rfl ?_); refine goesL_ (some 149) rfl rfl Try.func21 z28 rfl #[.slice Ao197 t319.length co197, .slice Ao198 t251.length co198] rfl z2 ?_; (with_reducible refine (laws_eqIntS.calls kj94 _ _ t319 _ _ t251 true _ ?side1 ?side2 ?side3 ?side4 A193.out).mono ?_); (case side1 => refine (Kd.R_reads' (e := 3) (base := w.heap.size) (ok := fun k_ => ((((((((zS k_ Ao192 t323.length co192 ∧ zS k_ Ao198 t251.length co198) ∧ zS k_ Ao167 t271.length co167) ∧ zS k_ Ao36 t255.length co36) ∧ zS k_ Ao43 t296.length co43) ∧ zS k_ Ao55 t275.length co55) ∧ zS k_ Ao182 t310.length co182) ∧ zS k_ Ao183 t313.length co183) ∧ zS k_ Ao184 t316.length co184)) (n := t319.length) (c := co197) ?_).2.2; exact z21); (case side2 => exact (Kd.R_reads' HO321.out).2.1); (case side3 => refine (Kd.R_reads' (e := 3) (base := w.heap.size) (ok := fun k_ => ((((((zS k_ Ao167 t271.length co167 ∧ (zS k_ Ao36 t255.length co36 ∧ (zS k_ Ao43 t296.length co43 ∧ zS k_ Ao55 t275.length co55))) ∧ zS k_ Ao182 t310.length co182) ∧ zS k_ Ao183 t313.length co183) ∧ zS k_ Ao184 t316.length co184) ∧ zS k_ Ao197 t319.length co197) ∧ zS k_ Ao192 t323.length co192)) (n := t251.length) (c := co198) ?_).2.2; exact z22); (case side4 => exact (Kd.R_reads' HO_8.out).2.1); rintro e w' ⟨rfl, ⟨nd, rfl⟩⟩; refine ⟨_, rfl, ?_⟩; have hnb199 := NB327_239.out; have hnc199 := NB239_327.out; have hnb200 := NB327_259.out; have hnc200 := NB259_327.out; have hnb201 := NB327_264.out; have hnc201 := NB264_327.out; have hnb202 := NB327_279.out; have hnc202 := NB279_327.out; have hcz203_0 : w186.cell? ⟨gb327, 0, none⟩ = some (.int .i64 0) := (blk_cell BK327.out 0).trans rfl; have hcz203_1 : w186.cell? ⟨gb327, 1, none⟩ = some (.slice none 0 0) := (blk_cell BK327.out 1).trans rfl; have hfz203_0 := blk_frozen BK327.out 0; have hfz203_1 := blk_frozen BK327.out 1; have hnb204 := NB259_239.out; have hnc204 := NB239_259.out; have hnb205 := NB259_264.out; have hnc205 := NB264_259.out; have hnb206 := NB259_279.out; have hnc206 := NB279_259.out; have hcz207_0 : w186.cell? ⟨gb259, 0, none⟩ = some (.int .i64 t254) := (blk_cell BK259.out 0).trans rfl; have hcz207_1 : w186.cell? ⟨gb259, 1, none⟩ = some (.slice Ao36 t255.length co36) := (blk_cell BK259.out 1).trans rfl; have hfz207_0 := blk_frozen BK259.out 0; have hfz207_1 := blk_frozen BK259.out 1) | (go_at_call 26; (with_reducible refine (laws_eqFlow.calls kj94 t322 _ _ t323 t254 _ _ t255 true _ ?side1 ?side2 ?side3 ?side4 A195.out).mono ?_); (case side1 => refine (Kd.Q_reads' (e := 3) (base := w.heap.size) (ok := fun k_ => ((((((((zS k_ Ao197 t319.length co197 ∧ zS k_ Ao198 t251.length co198) ∧ zS k_ Ao167 t271.length co167) ∧ zS k_ Ao36 t255.length co36) ∧ zS k_ Ao43 t296.length co43) ∧ zS k_ Ao55 t275.length co55) ∧ zS k_ Ao182 t310.length co182) ∧ zS k_ Ao183 t313.length co183) ∧ zS k_ Ao184 t316.length co184)) (n := t323.length) (c := co192) ?_).2.2; exact z29); (case side2 => exact (Kd.Q_reads' HO325.out).2.1); (case side3 => refine (Kd.Q_reads' (e := 3) (base := w.heap.size) (ok := fun k_ => ((((((zS k_ Ao198 t251.length co198 ∧ (zS k_ Ao167 t271.length co167 ∧ (zS k_ Ao43 t296.length co43 ∧ zS k_ Ao55 t275.length co55))) ∧ zS k_ Ao182 t310.length co182) ∧ zS k_ Ao183 t313.length co183) ∧ zS k_ Ao184 t316.length co184) ∧ zS k_ Ao197 t319.length co197) ∧ zS k_ Ao192 t323.length co192)) (n := t255.length) (c := co36) ?_).2.2; exact z27); (case side4 => exact (Kd.Q_reads' HO_260001.out).2.1); rintro e w208 ⟨rfl, hb⟩; have n0_ := zA (Kd.R_below z22 hb); have n1_ := zA (Kd.Q_below z67 hb); have n2_ := zA (Kd.Q_below z27 hb); have n3_ := zA (Kd.Q_below z63 hb); have n4_ := zA (Kd.Q_below z62 hb); have n5_ := zA (Kd.R_below z66 hb); have n6_ := zA (Kd.R_below z65 hb); have n7_ := zA (Kd.R_below z64 hb); have n8_ := zA (Kd.R_below z21 hb); have n9_ := zA (Kd.Q_below z29 hb); have n10_ := zA (blk_below (g := gb239) (o := .cells #[.int .i64 a0_0, .slice A0_1 l0_1.length c0_1] 35 (0, 0)) z58 hb); have n11_ := zA (blk_below (g := gb259) (o := .cells #[.int .i64 t254, .slice Ao36 t255.length co36] 38 (0, 0)) z57 hb); have n12_ := zA (blk_below (g := gb264) (o := .cells #[.int .i64 t260, .slice Ao43 t296.length co43] 38 (0, 0)) z56 hb); have n13_ := zA (blk_below (g := gb279) (o := .cells #[.int .i64 t274, .slice Ao55 t275.length co55] 38 (0, 0)) z55 hb); have n14_ := zA (blk_below (g := gb327) (o := .cells #[.int .i64 t322, .slice Ao192 t323.length co192] 38 (0, 0)) z52 hb); have n15_ := zA (below_step z12 hb); clear HO_8 HO_14 HO_260001 HO_265001 HO_280001 HO312 HO315 HO318 HO321 HO325 BK239 BK259 BK264 BK279 BK327 HB; revert n0_ n1_ n2_ n3_ n4_ n5_ n6_ n7_ n8_ n9_ n10_ n11_ n12_ n13_ n14_ n15_; intro HO_8 HO_14 HO_260001 HO_265001 HO_280001 HO312 HO315 HO318 HO321 HO325 BK239 BK259 BK264 BK279 BK327 HB; (try clear hb); (try clear hb2); (try clear hk); (try clear hi)))
                   go_meet
                   case rel => exact ⟨_, ((t326 != t258)), z54, H', ⟨z110⟩, ⟨z93⟩, ⟨z92⟩, ⟨z91⟩, ⟨z90⟩, ⟨z94⟩, ⟨z109⟩, ⟨z108⟩, ⟨z107⟩, ⟨z106⟩, ⟨z105⟩, ⟨z12⟩⟩
                  ·replace c196 := Bool.eq_false_iff.mpr c196
                   subst c196
                   have H1 : (laws_FnExactRunOrders.j2 kj94 t304 t305 true t274 t306) = some r := z42
                   clear H
                   have H := H1
                   clear H1
                   have H' := zA H
                   clear H
                   obtain ⟨Ao209, co209, eo209⟩ := Kd.R_slice HO321.out
                   subst eo209
                   obtain ⟨Ao210, co210, eo210⟩ := Kd.R_slice HO_8.out
                   subst eo210
                   go_wp2_with (first | ((with_reducible refine gate_callee (f := 21) rfl ?_); refine goesL_ (some 149) rfl rfl Try.func21 z28 rfl #[.slice Ao209 t319.length co209, .slice Ao210 t251.length co210] rfl z2 ?_; (with_reducible refine (laws_eqIntS.calls kj94 _ _ t319 _ _ t251 true _ ?side1 ?side2 ?side3 ?side4 A193.out).mono ?_); (case side1 => refine (Kd.R_reads' (e := 3) (base := w.heap.size) (ok := fun k_ => ((((((((zS k_ Ao192 t323.length co192 ∧ zS k_ Ao210 t251.length co210) ∧ zS k_ Ao167 t271.length co167) ∧ zS k_ Ao36 t255.length co36) ∧ zS k_ Ao43 t296.length co43) ∧ zS k_ Ao55 t275.length co55) ∧ zS k_ Ao182 t310.length co182) ∧ zS k_ Ao183 t313.length co183) ∧ zS k_ Ao184 t316.length co184)) (n := t319.length) (c := co209) ?_).2.2; exact z21); (case side2 => exact (Kd.R_reads' HO321.out).2.1); (case side3 => refine (Kd.R_reads' (e := 3) (base := w.heap.size) (ok := fun k_ => ((((((zS k_ Ao167 t271.length co167 ∧ (zS k_ Ao36 t255.length co36 ∧ (zS k_ Ao43 t296.length co43 ∧ zS k_ Ao55 t275.length co55))) ∧ zS k_ Ao182 t310.length co182) ∧ zS k_ Ao183 t313.length co183) ∧ zS k_ Ao184 t316.length co184) ∧ zS k_ Ao209 t319.length co209) ∧ zS k_ Ao192 t323.length co192)) (n := t251.length) (c := co210) ?_).2.2; exact z22); (case side4 => exact (Kd.R_reads' HO_8.out).2.1); rintro e w' ⟨rfl, ⟨nd, rfl⟩⟩; refine ⟨_, rfl, ?_⟩; have hnb211 := NB327_239.out; have hnc211 := NB239_327.out; have hnb212 := NB327_259.out; have hnc212 := NB259_327.out; have hnb213 := NB327_264.out; have hnc213 := NB264_327.out; have hnb214 := NB327_279.out; have hnc214 := NB279_327.out; have hcz215_0 : w186.cell? ⟨gb327, 0, none⟩ = some (.int .i64 0) := (blk_cell BK327.out 0).trans rfl; have hcz215_1 : w186.cell? ⟨gb327, 1, none⟩ = some (.slice none 0 0) := (blk_cell BK327.out 1).trans rfl; have hfz215_0 := blk_frozen BK327.out 0; have hfz215_1 := blk_frozen BK327.out 1; have hnb216 := NB259_239.out; have hnc216 := NB239_259.out; have hnb217 := NB259_264.out; have hnc217 := NB264_259.out; have hnb218 := NB259_279.out; have hnc218 := NB279_259.out; have hcz219_0 : w186.cell? ⟨gb259, 0, none⟩ = some (.int .i64 t254) := (blk_cell BK259.out 0).trans rfl; have hcz219_1 : w186.cell? ⟨gb259, 1, none⟩ = some (.slice Ao36 t255.length co36) := (blk_cell BK259.out 1).trans rfl; have hfz219_0 := blk_frozen BK259.out 0; have hfz219_1 := blk_frozen BK259.out 1) | (go_at_call 26; (with_reducible refine (laws_eqFlow.calls kj94 t322 _ _ t323 t254 _ _ t255 false _ ?side1 ?side2 ?side3 ?side4 A195.out).mono ?_); (case side1 => refine (Kd.Q_reads' (e := 3) (base := w.heap.size) (ok := fun k_ => ((((((((zS k_ Ao209 t319.length co209 ∧ zS k_ Ao210 t251.length co210) ∧ zS k_ Ao167 t271.length co167) ∧ zS k_ Ao36 t255.length co36) ∧ zS k_ Ao43 t296.length co43) ∧ zS k_ Ao55 t275.length co55) ∧ zS k_ Ao182 t310.length co182) ∧ zS k_ Ao183 t313.length co183) ∧ zS k_ Ao184 t316.length co184)) (n := t323.length) (c := co192) ?_).2.2; exact z29); (case side2 => exact (Kd.Q_reads' HO325.out).2.1); (case side3 => refine (Kd.Q_reads' (e := 3) (base := w.heap.size) (ok := fun k_ => ((((((zS k_ Ao210 t251.length co210 ∧ (zS k_ Ao167 t271.length co167 ∧ (zS k_ Ao43 t296.length co43 ∧ zS k_ Ao55 t275.length co55))) ∧ zS k_ Ao182 t310.length co182) ∧ zS k_ Ao183 t313.length co183) ∧ zS k_ Ao184 t316.length co184) ∧ zS k_ Ao209 t319.length co209) ∧ zS k_ Ao192 t323.length co192)) (n := t255.length) (c := co36) ?_).2.2; exact z27); (case side4 => exact (Kd.Q_reads' HO_260001.out).2.1); rintro e w220 ⟨rfl, hb⟩; have n0_ := zA (Kd.R_below z22 hb); have n1_ := zA (Kd.Q_below z67 hb); have n2_ := zA (Kd.Q_below z27 hb); have n3_ := zA (Kd.Q_below z63 hb); have n4_ := zA (Kd.Q_below z62 hb); have n5_ := zA (Kd.R_below z66 hb); have n6_ := zA (Kd.R_below z65 hb); have n7_ := zA (Kd.R_below z64 hb); have n8_ := zA (Kd.R_below z21 hb); have n9_ := zA (Kd.Q_below z29 hb); have n10_ := zA (blk_below (g := gb239) (o := .cells #[.int .i64 a0_0, .slice A0_1 l0_1.length c0_1] 35 (0, 0)) z58 hb); have n11_ := zA (blk_below (g := gb259) (o := .cells #[.int .i64 t254, .slice Ao36 t255.length co36] 38 (0, 0)) z57 hb); have n12_ := zA (blk_below (g := gb264) (o := .cells #[.int .i64 t260, .slice Ao43 t296.length co43] 38 (0, 0)) z56 hb); have n13_ := zA (blk_below (g := gb279) (o := .cells #[.int .i64 t274, .slice Ao55 t275.length co55] 38 (0, 0)) z55 hb); have n14_ := zA (blk_below (g := gb327) (o := .cells #[.int .i64 t322, .slice Ao192 t323.length co192] 38 (0, 0)) z52 hb); have n15_ := zA (below_step z12 hb); clear HO_8 HO_14 HO_260001 HO_265001 HO_280001 HO312 HO315 HO318 HO321 HO325 BK239 BK259 BK264 BK279 BK327 HB; revert n0_ n1_ n2_ n3_ n4_ n5_ n6_ n7_ n8_ n9_ n10_ n11_ n12_ n13_ n14_ n15_; intro HO_8 HO_14 HO_260001 HO_265001 HO_280001 HO312 HO315 HO318 HO321 HO325 BK239 BK259 BK264 BK279 BK327 HB; (try clear hb); (try clear hb2); (try clear hk); (try clear hi)))
                   go_meet
                   case rel => exact ⟨_, (true), z54, H', ⟨z110⟩, ⟨z93⟩, ⟨z92⟩, ⟨z91⟩, ⟨z90⟩, ⟨z94⟩, ⟨z109⟩, ⟨z108⟩, ⟨z107⟩, ⟨z106⟩, ⟨z105⟩, ⟨z12⟩⟩
                 ·replace c194 := Bool.eq_false_iff.mpr c194
                  subst c194
                  have H1 : (laws_FnExactRunOrders.j2 kj94 t304 t305 true t274 t306) = some r := z42
                  clear H
                  have H := H1
                  clear H1
                  have H' := zA H
                  clear H
                  obtain ⟨Ao221, co221, eo221⟩ := Kd.R_slice HO321.out
                  subst eo221
                  obtain ⟨Ao222, co222, eo222⟩ := Kd.R_slice HO_8.out
                  subst eo222
                  go_wp2_with (first | ((with_reducible refine gate_callee (f := 21) rfl ?_); refine goesL_ (some 149) rfl rfl Try.func21 z28 rfl #[.slice Ao221 t319.length co221, .slice Ao222 t251.length co222] rfl z2 ?_; (with_reducible refine (laws_eqIntS.calls kj94 _ _ t319 _ _ t251 false _ ?side1 ?side2 ?side3 ?side4 A193.out).mono ?_); (case side1 => refine (Kd.R_reads' (e := 3) (base := w.heap.size) (ok := fun k_ => ((((((((zS k_ Ao192 t323.length co192 ∧ zS k_ Ao222 t251.length co222) ∧ zS k_ Ao167 t271.length co167) ∧ zS k_ Ao36 t255.length co36) ∧ zS k_ Ao43 t296.length co43) ∧ zS k_ Ao55 t275.length co55) ∧ zS k_ Ao182 t310.length co182) ∧ zS k_ Ao183 t313.length co183) ∧ zS k_ Ao184 t316.length co184)) (n := t319.length) (c := co221) ?_).2.2; exact z21); (case side2 => exact (Kd.R_reads' HO321.out).2.1); (case side3 => refine (Kd.R_reads' (e := 3) (base := w.heap.size) (ok := fun k_ => ((((((zS k_ Ao167 t271.length co167 ∧ (zS k_ Ao36 t255.length co36 ∧ (zS k_ Ao43 t296.length co43 ∧ zS k_ Ao55 t275.length co55))) ∧ zS k_ Ao182 t310.length co182) ∧ zS k_ Ao183 t313.length co183) ∧ zS k_ Ao184 t316.length co184) ∧ zS k_ Ao221 t319.length co221) ∧ zS k_ Ao192 t323.length co192)) (n := t251.length) (c := co222) ?_).2.2; exact z22); (case side4 => exact (Kd.R_reads' HO_8.out).2.1); rintro e w' ⟨rfl, ⟨nd, rfl⟩⟩; refine ⟨_, rfl, ?_⟩))
                  go_meet
                  case rel => exact ⟨_, (true), z54, H', ⟨z110⟩, ⟨by (try simp only [hl265001_94]); (with_reducible repeat (first | apply Kd.Q_alloc | apply Kd.Q_drewN | apply Kd.Q_drew)); exact Kd.Q_mono (Kd.Q_far (p := ⟨gb327, 1, none⟩) (Kd.Q_far (p := ⟨gb327, 0, none⟩) (Kd.Q_types HO_14.out BK327.out z37) (fun _ hk => hk.2) (.int .i64 t322)) (fun _ hk => hk.2) (.slice Ao192 t323.length co192)) (fun _ hk => ⟨hk.1.1.1.1.1.1.2.1, ⟨hk.1.1.1.1.1.1.2.2.1, ⟨hk.1.1.1.1.1.1.2.2.2, hk.1.2⟩⟩⟩)⟩, ⟨by (try simp only [hl265001_94]); (with_reducible repeat (first | apply Kd.Q_alloc | apply Kd.Q_drewN | apply Kd.Q_drew)); exact Kd.Q_mono (Kd.Q_far (p := ⟨gb327, 1, none⟩) (Kd.Q_far (p := ⟨gb327, 0, none⟩) (Kd.Q_types HO_260001.out BK327.out z37) (fun _ hk => hk.2) (.int .i64 t322)) (fun _ hk => hk.2) (.slice Ao192 t323.length co192)) (fun _ hk => ⟨hk.1.1.1.1.1.1.2.1, ⟨hk.1.1.1.1.1.1.2.2.1, ⟨hk.1.1.1.1.1.1.2.2.2, hk.1.2⟩⟩⟩)⟩, ⟨by (try simp only [hl265001_94]); (with_reducible repeat (first | apply Kd.Q_alloc | apply Kd.Q_drewN | apply Kd.Q_drew)); exact Kd.Q_mono (Kd.Q_far (p := ⟨gb327, 1, none⟩) (Kd.Q_far (p := ⟨gb327, 0, none⟩) (Kd.Q_types HO_265001.out BK327.out z37) (fun _ hk => hk.2) (.int .i64 t322)) (fun _ hk => hk.2) (.slice Ao192 t323.length co192)) (fun _ hk => ⟨hk.1.1.1.1.1.1.2.1, ⟨hk.1.1.1.1.1.1.2.2.1, ⟨hk.1.1.1.1.1.1.2.2.2, hk.1.2⟩⟩⟩)⟩, ⟨by (try simp only [hl265001_94]); (with_reducible repeat (first | apply Kd.Q_alloc | apply Kd.Q_drewN | apply Kd.Q_drew)); exact Kd.Q_mono (Kd.Q_far (p := ⟨gb327, 1, none⟩) (Kd.Q_far (p := ⟨gb327, 0, none⟩) (Kd.Q_types HO_280001.out BK327.out z37) (fun _ hk => hk.2) (.int .i64 t322)) (fun _ hk => hk.2) (.slice Ao192 t323.length co192)) (fun _ hk => ⟨hk.1.1.1.1.1.1.2.1, ⟨hk.1.1.1.1.1.1.2.2.1, ⟨hk.1.1.1.1.1.1.2.2.2, hk.1.2⟩⟩⟩)⟩, ⟨by (try simp only [hl265001_94]); (with_reducible repeat (first | apply Kd.Q_alloc | apply Kd.Q_drewN | apply Kd.Q_drew)); exact Kd.Q_mono (Kd.Q_far (p := ⟨gb327, 1, none⟩) (Kd.Q_far (p := ⟨gb327, 0, none⟩) (Kd.Q_types HO325.out BK327.out z37) (fun _ hk => hk.2) (.int .i64 t322)) (fun _ hk => hk.2) (.slice Ao192 t323.length co192)) (fun _ hk => ⟨hk.1.1.1.1.1.1.1.2, ⟨hk.1.1.1.1.1.1.2, ⟨hk.1.1.1.1.1.2, hk.1.1.1.1.2⟩⟩⟩)⟩, ⟨by (try simp only [hl265001_94]); (with_reducible repeat (first | refine blk_drewN ?_ _ | refine blk_drew ?_ | refine blk_alloc ?_ _)); refine blk_far ?_ NB239_327.out _; (with_reducible repeat (first | refine blk_drewN ?_ _ | refine blk_drew ?_ | refine blk_alloc ?_ _)); refine blk_far ?_ NB239_327.out _; (with_reducible repeat (first | refine blk_drewN ?_ _ | refine blk_drew ?_ | refine blk_alloc ?_ _)); exact BK239.out⟩, ⟨by (try simp only [hl265001_94]); (with_reducible repeat (first | refine blk_drewN ?_ _ | refine blk_drew ?_ | refine blk_alloc ?_ _)); refine blk_far ?_ NB259_327.out _; (with_reducible repeat (first | refine blk_drewN ?_ _ | refine blk_drew ?_ | refine blk_alloc ?_ _)); refine blk_far ?_ NB259_327.out _; (with_reducible repeat (first | refine blk_drewN ?_ _ | refine blk_drew ?_ | refine blk_alloc ?_ _)); exact BK259.out⟩, ⟨by (try simp only [hl265001_94]); (with_reducible repeat (first | refine blk_drewN ?_ _ | refine blk_drew ?_ | refine blk_alloc ?_ _)); refine blk_far ?_ NB264_327.out _; (with_reducible repeat (first | refine blk_drewN ?_ _ | refine blk_drew ?_ | refine blk_alloc ?_ _)); refine blk_far ?_ NB264_327.out _; (with_reducible repeat (first | refine blk_drewN ?_ _ | refine blk_drew ?_ | refine blk_alloc ?_ _)); exact BK264.out⟩, ⟨by (try simp only [hl265001_94]); (with_reducible repeat (first | refine blk_drewN ?_ _ | refine blk_drew ?_ | refine blk_alloc ?_ _)); refine blk_far ?_ NB279_327.out _; (with_reducible repeat (first | refine blk_drewN ?_ _ | refine blk_drew ?_ | refine blk_alloc ?_ _)); refine blk_far ?_ NB279_327.out _; (with_reducible repeat (first | refine blk_drewN ?_ _ | refine blk_drew ?_ | refine blk_alloc ?_ _)); exact BK279.out⟩, ⟨by (try simp only [hl265001_94]); (with_reducible repeat (first | refine blk_drewN ?_ _ | refine blk_drew ?_ | refine blk_alloc ?_ _)); refine blk_put (cs := #[.int .i64 t322, .slice none 0 0]) ?_ 1 _ rfl; (with_reducible repeat (first | refine blk_drewN ?_ _ | refine blk_drew ?_ | refine blk_alloc ?_ _)); refine blk_put (cs := #[.int .i64 0, .slice none 0 0]) ?_ 0 _ rfl; (with_reducible repeat (first | refine blk_drewN ?_ _ | refine blk_drew ?_ | refine blk_alloc ?_ _)); exact BK327.out⟩, ⟨z12⟩⟩
                case rest =>
                 clear HC166
                 (try clear c1); (try clear c2); (try clear p2); (try clear c3); (try clear c4); (try clear c4b0); (try clear c4b1); (try clear c5); (try clear c6); (try clear c6b0); (try clear c6b1); (try clear c7); (try clear c8); (try clear c9); (try clear c9b0); (try clear c10); (try clear c11); (try clear c12); (try clear c13); (try clear c14); (try clear c15); (try clear c16); (try clear c17); (try clear c18); (try clear c19); (try clear c20); (try clear c21); (try clear c22); (try clear c24); (try clear c26); (try clear c29); (try clear c30); (try clear c34); (try clear c40); (try clear c41); (try clear c43); (try clear c44); (try clear c50); (try clear c51); (try clear c52); (try clear c53); (try clear c57); (try clear c59); (try clear c62); (try clear c63); (try clear c64); (try clear c66); (try clear c67); (try clear c72); (try clear c73); (try clear c74); (try clear c76); (try clear c77); (try clear c82); (try clear c85); (try clear c88); (try clear c91); (try clear c104); (try clear c105); (try clear c106); (try clear c111); (try clear c111b0); (try clear c113); (try clear c115); (try clear c118); (try clear c119); (try clear c120); (try clear c122); (try clear c123); (try clear c128); (try clear c129); (try clear c130); (try clear c132); (try clear c133); (try clear c138); (try clear c142); (try clear c142b0); (try clear c145); (try clear c146); (try clear c147); (try clear c151); (try clear c151b0); (try clear c154); (try clear c155); (try clear c156); (try clear c161); (try clear c161b0); (try clear c161b1); (try clear c169); (try clear c170); (try clear c171); (try clear c176); (try clear c177); (try clear c187); (try clear c188); (try clear c189); (try clear c190); (try clear c194); (try clear c196); (try clear c199); (try clear c200); (try clear c201); (try clear c202); (try clear c204); (try clear c205); (try clear c206); (try clear c211); (try clear c212); (try clear c213); (try clear c214); (try clear c216); (try clear c217); (try clear c218); (try clear hcz107_0); (try clear hcz107_1); (try clear hcz11_0); (try clear hcz11_1); (try clear hcz121_0); (try clear hcz121_1); (try clear hcz124_0); (try clear hcz124_1); (try clear hcz131_0); (try clear hcz131_1); (try clear hcz134_0); (try clear hcz134_1); (try clear hcz148_0); (try clear hcz148_1); (try clear hcz157_0); (try clear hcz157_1); (try clear hcz159_0); (try clear hcz159_1); (try clear hcz172_0); (try clear hcz172_1); (try clear hcz174_0); (try clear hcz174_1); (try clear hcz178_0); (try clear hcz178_1); (try clear hcz191_0); (try clear hcz191_1); (try clear hcz203_0); (try clear hcz203_1); (try clear hcz207_0); (try clear hcz207_1); (try clear hcz215_0); (try clear hcz215_1); (try clear hcz219_0); (try clear hcz219_1); (try clear hcz23_0); (try clear hcz23_1); (try clear hcz25_0); (try clear hcz25_1); (try clear hcz35_0); (try clear hcz35_1); (try clear hcz37_0); (try clear hcz37_1); (try clear hcz42_0); (try clear hcz42_1); (try clear hcz46_0); (try clear hcz46_1); (try clear hcz54_0); (try clear hcz54_1); (try clear hcz65_0); (try clear hcz65_1); (try clear hcz68_0); (try clear hcz68_1); (try clear hcz75_0); (try clear hcz75_1); (try clear hcz78_0); (try clear hcz78_1); (try clear hfz107_0); (try clear hfz107_1); (try clear hfz11_0); (try clear hfz11_1); (try clear hfz121_0); (try clear hfz121_1); (try clear hfz124_0); (try clear hfz124_1); (try clear hfz131_0); (try clear hfz131_1); (try clear hfz134_0); (try clear hfz134_1); (try clear hfz148_0); (try clear hfz148_1); (try clear hfz157_0); (try clear hfz157_1); (try clear hfz159_0); (try clear hfz159_1); (try clear hfz172_0); (try clear hfz172_1); (try clear hfz174_0); (try clear hfz174_1); (try clear hfz178_0); (try clear hfz178_1); (try clear hfz191_0); (try clear hfz191_1); (try clear hfz203_0); (try clear hfz203_1); (try clear hfz207_0); (try clear hfz207_1); (try clear hfz215_0); (try clear hfz215_1); (try clear hfz219_0); (try clear hfz219_1); (try clear hfz23_0); (try clear hfz23_1); (try clear hfz25_0); (try clear hfz25_1); (try clear hfz35_0); (try clear hfz35_1); (try clear hfz37_0); (try clear hfz37_1); (try clear hfz42_0); (try clear hfz42_1); (try clear hfz46_0); (try clear hfz46_1); (try clear hfz54_0); (try clear hfz54_1); (try clear hfz65_0); (try clear hfz65_1); (try clear hfz68_0); (try clear hfz68_1); (try clear hfz75_0); (try clear hfz75_1); (try clear hfz78_0); (try clear hfz78_1); (try clear p2)
                 obtain ⟨kq, x161_165, rfl, HA, HJ165, HO_14, HO_260001, HO_265001, HO_280001, HO_328001, BK239, BK259, BK264, BK279, BK327, HB⟩ := hcut
                 have hl14_165 := (Kd.Q_reads' HO_14.out).1
                 rw [hl14_165] at HO_14
                 (try simp only [hl14_165])
                 (try simp only [hl14_165] at BK239)
                 (try simp only [hl14_165] at BK259)
                 (try simp only [hl14_165] at BK264)
                 (try simp only [hl14_165] at BK279)
                 (try simp only [hl14_165] at BK327)
                 (try simp only [hl14_165] at HO_260001)
                 (try simp only [hl14_165] at HO_265001)
                 (try simp only [hl14_165] at HO_280001)
                 (try simp only [hl14_165] at HO_328001)
                 have hl280001_165 := (Kd.Q_reads' HO_280001.out).1
                 rw [hl280001_165] at HO_280001
                 (try simp only [hl280001_165])
                 (try simp only [hl280001_165] at BK239)
                 (try simp only [hl280001_165] at BK259)
                 (try simp only [hl280001_165] at BK264)
                 (try simp only [hl280001_165] at BK279)
                 (try simp only [hl280001_165] at BK327)
                 (try simp only [hl280001_165] at HO_14)
                 (try simp only [hl280001_165] at HO_260001)
                 (try simp only [hl280001_165] at HO_265001)
                 (try simp only [hl280001_165] at HO_328001)
                 cases kq with
                 | zero => exact absurd HA.out (by simp [laws_FnExactRunOrders.j2])
                 | succ kj165 =>
                  have H := HA.out
                  clear HA
                  simp only [laws_FnExactRunOrders.j2] at H
                  by_cases c223 : x161_165 = true
                  ·subst c223
                   have H1 : (some false) = some r := z61
                   clear H
                   have H := H1
                   clear H1
                   obtain rfl := Option.some.inj H
                   go_wp2
                   go_ret
                   exact ⟨z20, z12⟩
                  ·replace c223 := Bool.eq_false_iff.mpr c223
                   subst c223
                   have H1 : ((laws_heldIntS.f kj165 t304 1).bind fun t330 => (if t330 < 0 then (some false) else ((laws_heldFlow.f kj165 t274 t306 t330).bind fun t331 => (if t331 < 0 then (some false) else (if t331 = t305 then (some true) else (some false)))))) = some r := z42
                   clear H
                   have H := H1
                   clear H1
                   replace H := Option.bind_eq_some_iff.mp H
                   obtain ⟨t330, A2240, H⟩ := H
                   (try dsimp only at H)
                   have A224 := zA A2240
                   clear A2240
                   by_cases c225 : t330 < 0
                   ·rw [if_pos c225] at H
                    have c225b0 : decide (t330 < 0) = true := decide_eq_true c225
                    clear c225
                    obtain rfl := Option.some.inj H
                    go_wp2_with (first | ((with_reducible refine gate_callee (f := 30) rfl ?_); refine goesL_ (some 164) rfl rfl Try.func30 z28 rfl #[.slice Ao167 t304.length co167, .int .i64 1] rfl z2 ?_; (with_reducible refine (laws_heldIntS.calls kj165 _ _ t304 1 t330 _ ?side1 ?side2 A224.out).mono ?_); (case side1 => have zh := (Kd.Q_reads' HO_14.out).2.2; exact zC); (case side2 => exact (Kd.Q_reads' HO_14.out).2.1); rintro e w' ⟨rfl, ⟨nd, rfl⟩⟩; refine ⟨_, rfl, ?_⟩))
                    go_ret
                    exact ⟨z20, z12⟩
                   ·rw [if_neg c225] at H
                    have c225b0 : decide (t330 < 0) = false := decide_eq_false c225
                    clear c225
                    replace H := Option.bind_eq_some_iff.mp H
                    obtain ⟨t331, A2260, H⟩ := H
                    (try dsimp only at H)
                    have A226 := zA A2260
                    clear A2260
                    by_cases c227 : t331 < 0
                    ·rw [if_pos c227] at H
                     have c227b0 : decide (t331 < 0) = true := decide_eq_true c227
                     clear c227
                     obtain rfl := Option.some.inj H
                     go_wp2_with (first | ((with_reducible refine gate_callee (f := 30) rfl ?_); refine goesL_ (some 164) rfl rfl Try.func30 z28 rfl #[.slice Ao167 t304.length co167, .int .i64 1] rfl z2 ?_; (with_reducible refine (laws_heldIntS.calls kj165 _ _ t304 1 t330 _ ?side1 ?side2 A224.out).mono ?_); (case side1 => have zh := (Kd.Q_reads' HO_14.out).2.2; exact zC); (case side2 => exact (Kd.Q_reads' HO_14.out).2.1); rintro e w' ⟨rfl, ⟨nd, rfl⟩⟩; refine ⟨_, rfl, ?_⟩; have hnb228 := NB279_239.out; have hnc228 := NB239_279.out; have hnb229 := NB279_259.out; have hnc229 := NB259_279.out; have hnb230 := NB279_264.out; have hnc230 := NB264_279.out; have hnb231 := NB279_327.out; have hnc231 := NB327_279.out; have hcz232_0 : wc.cell? ⟨gb279, 0, none⟩ = some (.int .i64 t274) := (blk_cell BK279.out 0).trans rfl; have hcz232_1 : wc.cell? ⟨gb279, 1, none⟩ = some (.slice Ao55 t306.length co55) := (blk_cell BK279.out 1).trans rfl; have hfz232_0 := blk_frozen BK279.out 0; have hfz232_1 := blk_frozen BK279.out 1) | ((with_reducible refine gate_callee (f := 44) rfl ?_); refine goesL_ (some 169) rfl rfl Try.func44 z28 rfl #[.agg #[.int .i64 t274, .slice Ao55 t306.length co55], .int .i64 t330] rfl z2 ?_; (with_reducible refine (laws_heldFlow.calls kj165 t274 _ _ t306 t330 t331 _ ?side1 ?side2 A226.out).mono ?_); (case side1 => have zh := (Kd.Q_reads' HO_280001.out).2.2; exact zC); (case side2 => exact (Kd.Q_reads' HO_280001.out).2.1); rintro e w233 ⟨rfl, hb⟩; refine ⟨_, rfl, ?_⟩; have n0_ := zA (Kd.Q_below z10 hb); have n1_ := zA (Kd.Q_below z9 hb); have n2_ := zA (Kd.Q_below z8 hb); have n3_ := zA (Kd.Q_below z7 hb); have n4_ := zA (Kd.Q_below z96 hb); have n5_ := zA (blk_below (g := gb239) (o := .cells #[.int .i64 a0_0, .slice A0_1 l0_1.length c0_1] 35 (0, 0)) z3 hb); have n6_ := zA (blk_below (g := gb259) (o := .cells #[.int .i64 t254, .slice Ao36 t255.length co36] 38 (0, 0)) z4 hb); have n7_ := zA (blk_below (g := gb264) (o := .cells #[.int .i64 t260, .slice Ao43 t296.length co43] 38 (0, 0)) z5 hb); have n8_ := zA (blk_below (g := gb279) (o := .cells #[.int .i64 t274, .slice Ao55 t306.length co55] 38 (0, 0)) z6 hb); have n9_ := zA (blk_below (g := gb327) (o := .cells #[.int .i64 t322, .slice Ao192 t323.length co192] 38 (0, 0)) z89 hb); have n10_ := zA (below_step z12 hb); clear HO_14 HO_260001 HO_265001 HO_280001 HO_328001 BK239 BK259 BK264 BK279 BK327 HB; revert n0_ n1_ n2_ n3_ n4_ n5_ n6_ n7_ n8_ n9_ n10_; intro HO_14 HO_260001 HO_265001 HO_280001 HO_328001 BK239 BK259 BK264 BK279 BK327 HB; (try clear hb); (try clear hb2); (try clear hk); (try clear hi)))
                     go_ret
                     exact ⟨z20, z12⟩
                    ·rw [if_neg c227] at H
                     have c227b0 : decide (t331 < 0) = false := decide_eq_false c227
                     clear c227
                     by_cases c234 : t331 = t305
                     ·rw [if_pos c234] at H
                      have c234b0 : (t331 == t305) = true := beq_iff_eq.mpr c234
                      have c234b1 : (t331 != t305) = false := bne_eq_false_iff_eq.mpr c234
                      clear c234
                      obtain rfl := Option.some.inj H
                      go_wp2_with (first | ((with_reducible refine gate_callee (f := 30) rfl ?_); refine goesL_ (some 164) rfl rfl Try.func30 z28 rfl #[.slice Ao167 t304.length co167, .int .i64 1] rfl z2 ?_; (with_reducible refine (laws_heldIntS.calls kj165 _ _ t304 1 t330 _ ?side1 ?side2 A224.out).mono ?_); (case side1 => have zh := (Kd.Q_reads' HO_14.out).2.2; exact zC); (case side2 => exact (Kd.Q_reads' HO_14.out).2.1); rintro e w' ⟨rfl, ⟨nd, rfl⟩⟩; refine ⟨_, rfl, ?_⟩; have hnb235 := NB279_239.out; have hnc235 := NB239_279.out; have hnb236 := NB279_259.out; have hnc236 := NB259_279.out; have hnb237 := NB279_264.out; have hnc237 := NB264_279.out; have hnb238 := NB279_327.out; have hnc238 := NB327_279.out; have hcz239_0 : wc.cell? ⟨gb279, 0, none⟩ = some (.int .i64 t274) := (blk_cell BK279.out 0).trans rfl; have hcz239_1 : wc.cell? ⟨gb279, 1, none⟩ = some (.slice Ao55 t306.length co55) := (blk_cell BK279.out 1).trans rfl; have hfz239_0 := blk_frozen BK279.out 0; have hfz239_1 := blk_frozen BK279.out 1) | ((with_reducible refine gate_callee (f := 44) rfl ?_); refine goesL_ (some 169) rfl rfl Try.func44 z28 rfl #[.agg #[.int .i64 t274, .slice Ao55 t306.length co55], .int .i64 t330] rfl z2 ?_; (with_reducible refine (laws_heldFlow.calls kj165 t274 _ _ t306 t330 t331 _ ?side1 ?side2 A226.out).mono ?_); (case side1 => have zh := (Kd.Q_reads' HO_280001.out).2.2; exact zC); (case side2 => exact (Kd.Q_reads' HO_280001.out).2.1); rintro e w240 ⟨rfl, hb⟩; refine ⟨_, rfl, ?_⟩; have n0_ := zA (Kd.Q_below z10 hb); have n1_ := zA (Kd.Q_below z9 hb); have n2_ := zA (Kd.Q_below z8 hb); have n3_ := zA (Kd.Q_below z7 hb); have n4_ := zA (Kd.Q_below z96 hb); have n5_ := zA (blk_below (g := gb239) (o := .cells #[.int .i64 a0_0, .slice A0_1 l0_1.length c0_1] 35 (0, 0)) z3 hb); have n6_ := zA (blk_below (g := gb259) (o := .cells #[.int .i64 t254, .slice Ao36 t255.length co36] 38 (0, 0)) z4 hb); have n7_ := zA (blk_below (g := gb264) (o := .cells #[.int .i64 t260, .slice Ao43 t296.length co43] 38 (0, 0)) z5 hb); have n8_ := zA (blk_below (g := gb279) (o := .cells #[.int .i64 t274, .slice Ao55 t306.length co55] 38 (0, 0)) z6 hb); have n9_ := zA (blk_below (g := gb327) (o := .cells #[.int .i64 t322, .slice Ao192 t323.length co192] 38 (0, 0)) z89 hb); have n10_ := zA (below_step z12 hb); clear HO_14 HO_260001 HO_265001 HO_280001 HO_328001 BK239 BK259 BK264 BK279 BK327 HB; revert n0_ n1_ n2_ n3_ n4_ n5_ n6_ n7_ n8_ n9_ n10_; intro HO_14 HO_260001 HO_265001 HO_280001 HO_328001 BK239 BK259 BK264 BK279 BK327 HB; (try clear hb); (try clear hb2); (try clear hk); (try clear hi)))
                      go_ret
                      exact ⟨z20, z12⟩
                     ·rw [if_neg c234] at H
                      have c234b0 : (t331 == t305) = false := beq_eq_false_iff_ne.mpr c234
                      have c234b1 : (t331 != t305) = true := bne_iff_ne.mpr c234
                      obtain rfl := Option.some.inj H
                      go_wp2_with (first | ((with_reducible refine gate_callee (f := 30) rfl ?_); refine goesL_ (some 164) rfl rfl Try.func30 z28 rfl #[.slice Ao167 t304.length co167, .int .i64 1] rfl z2 ?_; (with_reducible refine (laws_heldIntS.calls kj165 _ _ t304 1 t330 _ ?side1 ?side2 A224.out).mono ?_); (case side1 => have zh := (Kd.Q_reads' HO_14.out).2.2; exact zC); (case side2 => exact (Kd.Q_reads' HO_14.out).2.1); rintro e w' ⟨rfl, ⟨nd, rfl⟩⟩; refine ⟨_, rfl, ?_⟩; have hnb241 := NB279_239.out; have hnc241 := NB239_279.out; have hnb242 := NB279_259.out; have hnc242 := NB259_279.out; have hnb243 := NB279_264.out; have hnc243 := NB264_279.out; have hnb244 := NB279_327.out; have hnc244 := NB327_279.out; have hcz245_0 : wc.cell? ⟨gb279, 0, none⟩ = some (.int .i64 t274) := (blk_cell BK279.out 0).trans rfl; have hcz245_1 : wc.cell? ⟨gb279, 1, none⟩ = some (.slice Ao55 t306.length co55) := (blk_cell BK279.out 1).trans rfl; have hfz245_0 := blk_frozen BK279.out 0; have hfz245_1 := blk_frozen BK279.out 1) | ((with_reducible refine gate_callee (f := 44) rfl ?_); refine goesL_ (some 169) rfl rfl Try.func44 z28 rfl #[.agg #[.int .i64 t274, .slice Ao55 t306.length co55], .int .i64 t330] rfl z2 ?_; (with_reducible refine (laws_heldFlow.calls kj165 t274 _ _ t306 t330 t331 _ ?side1 ?side2 A226.out).mono ?_); (case side1 => have zh := (Kd.Q_reads' HO_280001.out).2.2; exact zC); (case side2 => exact (Kd.Q_reads' HO_280001.out).2.1); rintro e w246 ⟨rfl, hb⟩; refine ⟨_, rfl, ?_⟩; have n0_ := zA (Kd.Q_below z10 hb); have n1_ := zA (Kd.Q_below z9 hb); have n2_ := zA (Kd.Q_below z8 hb); have n3_ := zA (Kd.Q_below z7 hb); have n4_ := zA (Kd.Q_below z96 hb); have n5_ := zA (blk_below (g := gb239) (o := .cells #[.int .i64 a0_0, .slice A0_1 l0_1.length c0_1] 35 (0, 0)) z3 hb); have n6_ := zA (blk_below (g := gb259) (o := .cells #[.int .i64 t254, .slice Ao36 t255.length co36] 38 (0, 0)) z4 hb); have n7_ := zA (blk_below (g := gb264) (o := .cells #[.int .i64 t260, .slice Ao43 t296.length co43] 38 (0, 0)) z5 hb); have n8_ := zA (blk_below (g := gb279) (o := .cells #[.int .i64 t274, .slice Ao55 t306.length co55] 38 (0, 0)) z6 hb); have n9_ := zA (blk_below (g := gb327) (o := .cells #[.int .i64 t322, .slice Ao192 t323.length co192] 38 (0, 0)) z89 hb); have n10_ := zA (below_step z12 hb); clear HO_14 HO_260001 HO_265001 HO_280001 HO_328001 BK239 BK259 BK264 BK279 BK327 HB; revert n0_ n1_ n2_ n3_ n4_ n5_ n6_ n7_ n8_ n9_ n10_; intro HO_14 HO_260001 HO_265001 HO_280001 HO_328001 BK239 BK259 BK264 BK279 BK327 HB; (try clear hb); (try clear hb2); (try clear hk); (try clear hi)))
                      go_ret
                      exact ⟨z20, z12⟩
               ·rw [if_neg c161] at H
                have c161b0 : (t308 == t305) = false := beq_eq_false_iff_ne.mpr c161
                have c161b1 : (t308 != t305) = true := bne_iff_ne.mpr c161
                obtain rfl := Option.some.inj H
                obtain ⟨Ao247, co247, eo247, _⟩ := Kd.Q_slice HO_14.out
                subst eo247
                go_wp2_with (first | ((with_reducible refine gate_callee (f := 29) rfl ?_); refine goesL_ (some 119) rfl rfl Try.func29 z28 rfl #[.slice Ao247 t271.length co247, .int .i64 1] rfl z2 ?_; (with_reducible refine (laws_markIntS.calls kj94 (fun k_ => some k_ = (.slice Ao247 t271.length co247 : Value).ownBlock) (.slice Ao247 t271.length co247) t271 1 t303 t304 w _ ?side1 ?side2 A139.out).mono ?_); (case side1 => repeat (first | (with_reducible first | exact HB.out | apply below_alloc | apply pw_below_drewN | apply below_drew1 | refine below_set ?_ GE239.out | refine below_set ?_ GE259.out | refine below_set ?_ GE264.out | refine below_set ?_ GE279.out) | exact HB.out)); (case side2 => exact Kd.Q_tight rfl HO_14.out); rintro e w248 ⟨rfl, hy0, hb, hkp⟩; refine ⟨_, rfl, ?_⟩; have n0_ := zA (Kd.R_mono (ok' := fun k_ => zS k_ Ao247 t271.length co247 ∧ zS k_ Ao36 t255.length co36 ∧ zS k_ Ao43 t296.length co43 ∧ zS k_ Ao55 t275.length co55) (Kd.R_keptB (HO_8.out) hkp (fun k_ hk_ hs_ => (hk_.1) hs_)) (fun k_ hk_ => ⟨hk_.1.1, hk_.1.2.1, hk_.1.2.2.1, hk_.1.2.2.2⟩)); have n1_ := zA (Kd.Q_mono (Kd.Q_tight rfl hy0) (fun k_ hk_ => HO_14.out.1 k_ hk_.symm)); have n2_ := zA (Kd.Q_mono (ok' := fun k_ => zV k_ v252 ∧ zS k_ Ao247 t271.length co247 ∧ zS k_ Ao43 t296.length co43 ∧ zS k_ Ao55 t275.length co55) (Kd.Q_keptB (HO_260001.out) hkp (fun k_ hk_ hs_ => (hk_.2.1) hs_)) (fun k_ hk_ => ⟨hk_.1.1, hk_.1.2.1, hk_.1.2.2.1, hk_.1.2.2.2⟩)); have n3_ := zA (Kd.Q_mono (ok' := fun k_ => zV k_ v252 ∧ zS k_ Ao247 t271.length co247 ∧ zS k_ Ao36 t255.length co36 ∧ zS k_ Ao55 t275.length co55) (Kd.Q_keptB (HO_265001.out) hkp (fun k_ hk_ hs_ => (hk_.2.1) hs_)) (fun k_ hk_ => ⟨hk_.1.1, hk_.1.2.1, hk_.1.2.2.1, hk_.1.2.2.2⟩)); have n4_ := zA (Kd.Q_mono (ok' := fun k_ => zV k_ v252 ∧ zS k_ Ao247 t271.length co247 ∧ zS k_ Ao36 t255.length co36 ∧ zS k_ Ao43 t296.length co43) (Kd.Q_keptB (HO_280001.out) hkp (fun k_ hk_ hs_ => (hk_.2.1) hs_)) (fun k_ hk_ => ⟨hk_.1.1, hk_.1.2.1, hk_.1.2.2.1, hk_.1.2.2.2⟩)); have n5_ := zA (blk_kept (g := gb239) (o := .cells #[.int .i64 a0_0, .slice A0_1 l0_1.length c0_1] 35 (0, 0)) z3 hkp (fun hs_ => (fun e_ => (Kd.Q_ne HO_14.out BK239.out z37) e_) hs_)); have n6_ := zA (blk_kept (g := gb259) (o := .cells #[.int .i64 t254, .slice Ao36 t255.length co36] 38 (0, 0)) z4 hkp (fun hs_ => (fun e_ => (Kd.Q_ne HO_14.out BK259.out z37) e_) hs_)); have n7_ := zA (blk_kept (g := gb264) (o := .cells #[.int .i64 t260, .slice Ao43 t296.length co43] 38 (0, 0)) z5 hkp (fun hs_ => (fun e_ => (Kd.Q_ne HO_14.out BK264.out z37) e_) hs_)); have n8_ := zA (blk_kept (g := gb279) (o := .cells #[.int .i64 t274, .slice Ao55 t275.length co55] 38 (0, 0)) z6 hkp (fun hs_ => (fun e_ => (Kd.Q_ne HO_14.out BK279.out z37) e_) hs_)); have n9_ := zA (hb); clear HO_8 HO_14 HO_260001 HO_265001 HO_280001 BK239 BK259 BK264 BK279 HB; revert n0_ n1_ n2_ n3_ n4_ n5_ n6_ n7_ n8_ n9_; intro HO_8 HO_14 HO_260001 HO_265001 HO_280001 BK239 BK259 BK264 BK279 HB; (try clear hb); (try clear hkp); (try clear hy0); have hnb249 := NB279_239.out; have hnc249 := NB239_279.out; have hnb250 := NB279_259.out; have hnc250 := NB259_279.out; have hnb251 := NB279_264.out; have hnc251 := NB264_279.out; have hcz252_0 : w248.cell? ⟨gb279, 0, none⟩ = some (.int .i64 t274) := (blk_cell BK279.out 0).trans rfl; have hcz252_1 : w248.cell? ⟨gb279, 1, none⟩ = some (.slice Ao55 t275.length co55) := (blk_cell BK279.out 1).trans rfl; have hfz252_0 := blk_frozen BK279.out 0; have hfz252_1 := blk_frozen BK279.out 1) | ((with_reducible refine gate_callee (f := 43) rfl ?_); refine goesL_ (some 122) rfl rfl Try.func43 z28 rfl #[.agg #[.int .i64 t274, .slice Ao55 t275.length co55], .int .i64 t303] rfl z2 ?_; (with_reducible refine (laws_markFlow.calls kj94 t274 (fun k_ => some k_ = (.slice Ao55 t275.length co55 : Value).ownBlock) (.slice Ao55 t275.length co55) t275 t303 t305 t306 w _ ?side1 ?side2 A140.out).mono ?_); (case side1 => repeat (first | (with_reducible first | exact HB.out | apply below_alloc | apply pw_below_drewN | apply below_drew1 | refine below_set ?_ GE239.out | refine below_set ?_ GE259.out | refine below_set ?_ GE264.out | refine below_set ?_ GE279.out) | exact HB.out)); (case side2 => exact Kd.Q_tight rfl HO_280001.out); rintro e w253 ⟨rfl, hy0, hb, hkp⟩; refine ⟨_, rfl, ?_⟩; have n0_ := zA (Kd.R_mono (ok' := fun k_ => zS k_ Ao247 t271.length co247 ∧ zS k_ Ao36 t255.length co36 ∧ zS k_ Ao43 t296.length co43 ∧ zS k_ Ao55 t275.length co55) (Kd.R_keptB (HO_8.out) hkp (fun k_ hk_ hs_ => (hk_.2.2.2) hs_)) (fun k_ hk_ => ⟨hk_.1.1, hk_.1.2.1, hk_.1.2.2.1, hk_.1.2.2.2⟩)); have n1_ := zA (Kd.Q_mono (ok' := fun k_ => zV k_ v252 ∧ zS k_ Ao36 t255.length co36 ∧ zS k_ Ao43 t296.length co43 ∧ zS k_ Ao55 t275.length co55) (Kd.Q_keptB (HO_14.out) hkp (fun k_ hk_ hs_ => (hk_.2.2.2) hs_)) (fun k_ hk_ => ⟨hk_.1.1, hk_.1.2.1, hk_.1.2.2.1, hk_.1.2.2.2⟩)); have n2_ := zA (Kd.Q_mono (ok' := fun k_ => zV k_ v252 ∧ zS k_ Ao247 t271.length co247 ∧ zS k_ Ao43 t296.length co43 ∧ zS k_ Ao55 t275.length co55) (Kd.Q_keptB (HO_260001.out) hkp (fun k_ hk_ hs_ => (hk_.2.2.2) hs_)) (fun k_ hk_ => ⟨hk_.1.1, hk_.1.2.1, hk_.1.2.2.1, hk_.1.2.2.2⟩)); have n3_ := zA (Kd.Q_mono (ok' := fun k_ => zV k_ v252 ∧ zS k_ Ao247 t271.length co247 ∧ zS k_ Ao36 t255.length co36 ∧ zS k_ Ao55 t275.length co55) (Kd.Q_keptB (HO_265001.out) hkp (fun k_ hk_ hs_ => (hk_.2.2.2) hs_)) (fun k_ hk_ => ⟨hk_.1.1, hk_.1.2.1, hk_.1.2.2.1, hk_.1.2.2.2⟩)); have n4_ := zA (Kd.Q_mono (Kd.Q_tight rfl hy0) (fun k_ hk_ => HO_280001.out.1 k_ hk_.symm)); have n5_ := zA (blk_kept (g := gb239) (o := .cells #[.int .i64 a0_0, .slice A0_1 l0_1.length c0_1] 35 (0, 0)) z3 hkp (fun hs_ => (fun e_ => (Kd.Q_ne HO_280001.out BK239.out z37) e_) hs_)); have n6_ := zA (blk_kept (g := gb259) (o := .cells #[.int .i64 t254, .slice Ao36 t255.length co36] 38 (0, 0)) z4 hkp (fun hs_ => (fun e_ => (Kd.Q_ne HO_280001.out BK259.out z37) e_) hs_)); have n7_ := zA (blk_kept (g := gb264) (o := .cells #[.int .i64 t260, .slice Ao43 t296.length co43] 38 (0, 0)) z5 hkp (fun hs_ => (fun e_ => (Kd.Q_ne HO_280001.out BK264.out z37) e_) hs_)); have n8_ := zA (blk_kept (g := gb279) (o := .cells #[.int .i64 t274, .slice Ao55 t275.length co55] 38 (0, 0)) z6 hkp (fun hs_ => (fun e_ => (Kd.Q_ne HO_280001.out BK279.out z37) e_) hs_)); have n9_ := zA (hb); clear HO_8 HO_14 HO_260001 HO_265001 HO_280001 BK239 BK259 BK264 BK279 HB; revert n0_ n1_ n2_ n3_ n4_ n5_ n6_ n7_ n8_ n9_; intro HO_8 HO_14 HO_260001 HO_265001 HO_280001 BK239 BK259 BK264 BK279 HB; (try clear hb); (try clear hkp); (try clear hy0)) | ((with_reducible refine gate_callee (f := 30) rfl ?_); refine goesL_ (some 125) rfl rfl Try.func30 z28 rfl #[.slice Ao247 t304.length co247, .int .i64 1] rfl z41 ?_; (with_reducible refine (laws_heldIntS.calls kj94 _ _ t304 1 t307 _ ?side1 ?side2 A141.out).mono ?_); (case side1 => have zh := (Kd.Q_reads' HO_14.out).2.2; exact zC); (case side2 => rw [show t304.length = t271.length from (Kd.Q_reads' HO_14.out).1.symm]; exact (Kd.Q_reads' HO_14.out).2.1); rintro e w' ⟨rfl, ⟨nd, rfl⟩⟩; refine ⟨_, rfl, ?_⟩; have hcz254_0 : w253.cell? ⟨gb279, 0, none⟩ = some (.int .i64 t274) := (blk_cell BK279.out 0).trans rfl; have hcz254_1 : w253.cell? ⟨gb279, 1, none⟩ = some (.slice Ao55 t275.length co55) := (blk_cell BK279.out 1).trans rfl; have hfz254_0 := blk_frozen BK279.out 0; have hfz254_1 := blk_frozen BK279.out 1) | ((with_reducible refine gate_callee (f := 44) rfl ?_); refine goesL_ (some 130) rfl rfl Try.func44 z28 rfl #[.agg #[.int .i64 t274, .slice Ao55 t306.length co55], .int .i64 t307] rfl z53 ?_; (with_reducible refine (laws_heldFlow.calls kj94 t274 _ _ t306 t307 t308 _ ?side1 ?side2 A150.out).mono ?_); (case side1 => have zh := (Kd.Q_reads' HO_280001.out).2.2; exact zC); (case side2 => rw [show t306.length = t275.length from (Kd.Q_reads' HO_280001.out).1.symm]; exact (Kd.Q_reads' HO_280001.out).2.1); rintro e w255 ⟨rfl, hb⟩; refine ⟨_, rfl, ?_⟩; have n0_ := zA (Kd.R_below z11 hb); have n1_ := zA (Kd.Q_below z10 hb); have n2_ := zA (Kd.Q_below z9 hb); have n3_ := zA (Kd.Q_below z8 hb); have n4_ := zA (Kd.Q_below z7 hb); have n5_ := zA (blk_below (g := gb239) (o := .cells #[.int .i64 a0_0, .slice A0_1 l0_1.length c0_1] 35 (0, 0)) z3 hb); have n6_ := zA (blk_below (g := gb259) (o := .cells #[.int .i64 t254, .slice Ao36 t255.length co36] 38 (0, 0)) z4 hb); have n7_ := zA (blk_below (g := gb264) (o := .cells #[.int .i64 t260, .slice Ao43 t296.length co43] 38 (0, 0)) z5 hb); have n8_ := zA (blk_below (g := gb279) (o := .cells #[.int .i64 t274, .slice Ao55 t275.length co55] 38 (0, 0)) z6 hb); have n9_ := zA (below_step z1 hb); clear HO_8 HO_14 HO_260001 HO_265001 HO_280001 BK239 BK259 BK264 BK279 HB; revert n0_ n1_ n2_ n3_ n4_ n5_ n6_ n7_ n8_ n9_; intro HO_8 HO_14 HO_260001 HO_265001 HO_280001 BK239 BK259 BK264 BK279 HB; (try clear hb); (try clear hb2); (try clear hk); (try clear hi)))
                go_ret
                exact ⟨z20, z1⟩
         ·replace c91 := Bool.eq_false_iff.mpr c91
          subst c91
          have H1 : (some false) = some r := z42
          clear H
          have H := H1
          clear H1
          obtain rfl := Option.some.inj H
          try go_wp2
          have n0_ := zA (Kd.R_drew HO_8.out)
          have n1_ := zA (Kd.R_drew HO_12.out)
          have n2_ := zA (Kd.R_drew HO_13.out)
          have n3_ := zA (Kd.Q_drew HO_14.out)
          have n4_ := zA (Kd.Q_drew HO_260001.out)
          have n5_ := zA (Kd.Q_drew HO_265001.out)
          have n6_ := zA (Kd.Q_drew HO_280001.out)
          have n7_ := zA (blk_drew BK239.out)
          have n8_ := zA (blk_drew BK259.out)
          have n9_ := zA (blk_drew BK264.out)
          have n10_ := zA (blk_drew BK279.out)
          have n11_ := zA (below_drew1 HB.out)
          clear HO_8
          clear HO_12
          clear HO_13
          clear HO_14
          clear HO_260001
          clear HO_265001
          clear HO_280001
          clear BK239
          clear BK259
          clear BK264
          clear BK279
          clear HB
          have HO_8 := n0_
          have HO_12 := n1_
          have HO_13 := n2_
          have HO_14 := n3_
          have HO_260001 := n4_
          have HO_265001 := n5_
          have HO_280001 := n6_
          have BK239 := n7_
          have BK259 := n8_
          have BK264 := n9_
          have BK279 := n10_
          have HB := n11_
          clear n0_ n1_ n2_ n3_ n4_ n5_ n6_ n7_ n8_ n9_ n10_ n11_
          refine start_ (n := 5) (S := fun w' => w'.cell? ⟨gb264, 0, none⟩ = some (.int .i64 t260) ∧ w'.cell? ⟨gb264, 1, none⟩ = some (.slice Ao43 t261.length co43) ∧ w'.cell? ⟨gb239, 0, none⟩ = some (.int .i64 a0_0) ∧ w'.cell? ⟨gb239, 1, none⟩ = some (.slice A0_1 l0_1.length c0_1)) (ds := []) #[false, false, false, false, false] z28 rfl rfl ⟨(blk_cell BK264.out 0).trans rfl, (blk_cell BK264.out 1).trans rfl, (blk_cell BK239.out 0).trans rfl, (blk_cell BK239.out 1).trans rfl⟩ (fun hHeld => ?_)
          generalize wc.drew = w256 at HO_8 HO_12 HO_13 HO_14 HO_260001 HO_265001 HO_280001 BK239 BK259 BK264 BK279 HB hHeld ⊢
          refine take_ (i := 0) (N := some 74) (v := ?_) (a' := ?_) #[true, false, false, false, false] rfl rfl z28 (fun _ _ _ h => h) (Or.inl ⟨by rfl, ?_⟩) hHeld ?_ ?_
          rotate_left
          ·rintro w' ⟨s0, s1, s2, s3⟩
           go_simp
           with_reducible rfl
          rotate_left
          ·simp only [Act.put, List.setIfInBounds_toArray, List.set_cons_zero, List.set_cons_succ, i64_w, i32_w]
           rfl
          refine take_ (i := 1) (N := some 75) (v := ?_) (a' := ?_) #[true, true, false, false, false] rfl rfl z28 (fun _ _ _ h => h) (Or.inl ⟨by rfl, ?_⟩) hHeld ?_ ?_
          rotate_left
          ·rintro w' ⟨s0, s1, s2, s3⟩
           go_simp
           with_reducible rfl
          rotate_left
          ·simp only [Act.put, List.setIfInBounds_toArray, List.set_cons_zero, List.set_cons_succ, i64_w, i32_w]
           rfl
          refine one_ (i := 2) (N := some 76) #[true, true, true, false, false] rfl rfl z28 z37 (fun K hK => ?_)
          refine goes_ Try.func24 z28 rfl #[.agg #[.int .i64 a0_0, .slice A0_1 l0_1.length c0_1]] (by rfl) rfl rfl z2 ?_
          with_reducible refine (laws_toFlow.calls kj20 a0_0 _ _ l0_1 t282 t283 _ ?side1 ?side2 A83.out).mono ?_
          (case side1 => have zh := (Kd.C_below HR0_1.out HB.out); exact zC)
          (case side2 => exact HC0_1.out)
          rintro e w257 ⟨v284, rfl, ho0, hb⟩
          refine ⟨_, rfl, ?_⟩
          have n0_ := zA (Kd.R_elder' z11 (Kd.R_base ho0) hb)
          have n1_ := zA (Kd.R_elder' z16 (Kd.R_base ho0) hb)
          have n2_ := zA (Kd.R_elder' z15 (Kd.R_base ho0) hb)
          have n3_ := zA (Kd.Q_elder' z10 (Kd.R_base ho0) hb)
          have n4_ := zA (Kd.Q_elder' z9 (Kd.R_base ho0) hb)
          have n5_ := zA (Kd.Q_elder' z8 (Kd.R_base ho0) hb)
          have n6_ := zA (Kd.Q_elder' z7 (Kd.R_base ho0) hb)
          have n7_ := zA (Kd.R_lower (Kd.R_new' (Kd.R_new' (Kd.R_new' (Kd.R_new' (Kd.R_new' (Kd.R_new' (Kd.R_new' ho0 (Kd.R_lt z11)) (Kd.R_lt z16)) (Kd.R_lt z15)) (Kd.Q_lt z10)) (Kd.Q_lt z9)) (Kd.Q_lt z8)) (Kd.Q_lt z7)) (below_size z1))
          have n8_ := zA (blk_below (g := gb239) (o := .cells #[.int .i64 a0_0, .slice A0_1 l0_1.length c0_1] 35 (0, 0)) z3 hb)
          have n9_ := zA (blk_below (g := gb259) (o := .cells #[.int .i64 t254, .slice Ao36 t255.length co36] 38 (0, 0)) z4 hb)
          have n10_ := zA (blk_below (g := gb264) (o := .cells #[.int .i64 t260, .slice Ao43 t261.length co43] 38 (0, 0)) z5 hb)
          have n11_ := zA (blk_below (g := gb279) (o := .cells #[.int .i64 t274, .slice Ao55 t275.length co55] 38 (0, 0)) z6 hb)
          have n12_ := zA (below_step z1 hb)
          clear HO_8
          clear HO_12
          clear HO_13
          clear HO_14
          clear HO_260001
          clear HO_265001
          clear HO_280001
          clear BK239
          clear BK259
          clear BK264
          clear BK279
          clear HB
          have HO_8 := n0_
          have HO_12 := n1_
          have HO_13 := n2_
          have HO_14 := n3_
          have HO_260001 := n4_
          have HO_265001 := n5_
          have HO_280001 := n6_
          have HO285 := n7_
          have BK239 := n8_
          have BK259 := n9_
          have BK264 := n10_
          have BK279 := n11_
          have HB := n12_
          clear n0_ n1_ n2_ n3_ n4_ n5_ n6_ n7_ n8_ n9_ n10_ n11_ n12_
          (try clear hb)
          (try clear hb2)
          (try clear hk)
          (try clear hi)
          (try clear ho0)
          obtain ⟨Ao258, co258, eo258⟩ := Kd.R_slice HO285.out
          (first | subst eo258 | (injection eo258 with f1_ f2_ f3_; have f4_ := f1_.symm; have f5_ := f3_.symm; clear f1_ f2_ f3_; subst f4_; subst f5_))
          refine hK.out _ _ ⟨(blk_cell BK264.out 0).trans rfl, (blk_cell BK264.out 1).trans rfl, (blk_cell BK239.out 0).trans rfl, (blk_cell BK239.out 1).trans rfl⟩ (fun hHeld => ?_)
          clear hK K
          refine norm_ (a' := ?_) ?_ ?_
          rotate_left
          ·show Act.put _ (some 76) _ = _
           simp only [Act.put, List.setIfInBounds_toArray, List.set_cons_zero, List.set_cons_succ, i64_w, i32_w]
           rfl
          refine one_ (i := 3) (N := some 77) #[true, true, true, true, false] rfl rfl z28 z37 (fun K hK => ?_)
          refine goes_ Try.func26 z28 rfl #[.agg #[.int .i64 t260, .slice Ao43 t261.length co43], .agg #[.int .i64 t282, .slice Ao258 t283.length co258]] (by rfl) rfl rfl z2 ?_
          with_reducible refine (laws_eqFlow.calls kj20 t260 _ _ t261 t282 _ _ t283 true _ ?side1 ?side2 ?side3 ?side4 A84.out).mono ?_
          (case side1 => have zh := (Kd.Q_reads' HO_265001.out).2.2; exact zC)
          (case side2 => exact (Kd.Q_reads' HO_265001.out).2.1)
          (case side3 => have zh := (Kd.R_reads' HO285.out).2.2; exact zC)
          (case side4 => exact (Kd.R_reads' HO285.out).2.1)
          rintro e w259 ⟨rfl, hb⟩
          refine ⟨_, rfl, ?_⟩
          have n0_ := zA (Kd.R_below z11 hb)
          have n1_ := zA (Kd.R_below z16 hb)
          have n2_ := zA (Kd.R_below z15 hb)
          have n3_ := zA (Kd.Q_below z10 hb)
          have n4_ := zA (Kd.Q_below z9 hb)
          have n5_ := zA (Kd.Q_below z8 hb)
          have n6_ := zA (Kd.Q_below z7 hb)
          have n7_ := zA (Kd.R_below z17 hb)
          have n8_ := zA (blk_below (g := gb239) (o := .cells #[.int .i64 a0_0, .slice A0_1 l0_1.length c0_1] 35 (0, 0)) z3 hb)
          have n9_ := zA (blk_below (g := gb259) (o := .cells #[.int .i64 t254, .slice Ao36 t255.length co36] 38 (0, 0)) z4 hb)
          have n10_ := zA (blk_below (g := gb264) (o := .cells #[.int .i64 t260, .slice Ao43 t261.length co43] 38 (0, 0)) z5 hb)
          have n11_ := zA (blk_below (g := gb279) (o := .cells #[.int .i64 t274, .slice Ao55 t275.length co55] 38 (0, 0)) z6 hb)
          have n12_ := zA (below_step z1 hb)
          clear HO_8
          clear HO_12
          clear HO_13
          clear HO_14
          clear HO_260001
          clear HO_265001
          clear HO_280001
          clear HO285
          clear BK239
          clear BK259
          clear BK264
          clear BK279
          clear HB
          have HO_8 := n0_
          have HO_12 := n1_
          have HO_13 := n2_
          have HO_14 := n3_
          have HO_260001 := n4_
          have HO_265001 := n5_
          have HO_280001 := n6_
          have HO285 := n7_
          have BK239 := n8_
          have BK259 := n9_
          have BK264 := n10_
          have BK279 := n11_
          have HB := n12_
          clear n0_ n1_ n2_ n3_ n4_ n5_ n6_ n7_ n8_ n9_ n10_ n11_ n12_
          (try clear hb)
          (try clear hb2)
          (try clear hk)
          (try clear hi)
          refine hK.out _ _ ⟨(blk_cell BK264.out 0).trans rfl, (blk_cell BK264.out 1).trans rfl, (blk_cell BK239.out 0).trans rfl, (blk_cell BK239.out 1).trans rfl⟩ (fun hHeld => ?_)
          clear hK K
          refine norm_ (a' := ?_) ?_ ?_
          rotate_left
          ·show Act.put _ (some 77) _ = _
           simp only [Act.put, List.setIfInBounds_toArray, List.set_cons_zero, List.set_cons_succ, i64_w, i32_w]
           rfl
          refine pure_ (i := 4) (N := some 78) (v := ?_) (a' := ?_) #[true, true, true, true, true] rfl rfl z28 (fun _ _ _ h => h) (Or.inl ⟨by rfl, ?_⟩) ?_ ?_
          rotate_left
          ·intro w'
           go_simp
           with_reducible rfl
          rotate_left
          ·simp only [Act.put, List.setIfInBounds_toArray, List.set_cons_zero, List.set_cons_succ, i64_w, i32_w]
           rfl
          refine done_ z28 ?_
          try go_wp2_with (first | ((with_reducible refine gate_callee (f := 19) rfl ?_); refine goesL_ (some 81) rfl rfl Try.func19 z28 rfl #[.slice A1 l1.length c1] rfl z2 ?_; (with_reducible refine (laws_toIntS.calls kj20 _ _ l1 t287 _ ?side1 ?side2 A86.out).mono ?_); (case side1 => have zh := (Kd.C_below HR1.out HB.out); exact zC); (case side2 => exact HC1.out); rintro e w260 ⟨v288, rfl, ho0, hb⟩; refine ⟨_, rfl, ?_⟩; have n0_ := zA (Kd.R_elder' z11 (Kd.R_base ho0) hb); have n1_ := zA (Kd.R_elder' z16 (Kd.R_base ho0) hb); have n2_ := zA (Kd.R_elder' z15 (Kd.R_base ho0) hb); have n3_ := zA (Kd.Q_elder' z10 (Kd.R_base ho0) hb); have n4_ := zA (Kd.Q_elder' z9 (Kd.R_base ho0) hb); have n5_ := zA (Kd.Q_elder' z8 (Kd.R_base ho0) hb); have n6_ := zA (Kd.Q_elder' z7 (Kd.R_base ho0) hb); have n7_ := zA (Kd.R_elder' z17 (Kd.R_base ho0) hb); have n8_ := zA (Kd.R_lower (Kd.R_new' (Kd.R_new' (Kd.R_new' (Kd.R_new' (Kd.R_new' (Kd.R_new' (Kd.R_new' (Kd.R_new' ho0 (Kd.R_lt z11)) (Kd.R_lt z16)) (Kd.R_lt z15)) (Kd.Q_lt z10)) (Kd.Q_lt z9)) (Kd.Q_lt z8)) (Kd.Q_lt z7)) (Kd.R_lt z17)) (below_size z1)); have n9_ := zA (blk_below (g := gb239) (o := .cells #[.int .i64 a0_0, .slice A0_1 l0_1.length c0_1] 35 (0, 0)) z3 hb); have n10_ := zA (blk_below (g := gb259) (o := .cells #[.int .i64 t254, .slice Ao36 t255.length co36] 38 (0, 0)) z4 hb); have n11_ := zA (blk_below (g := gb264) (o := .cells #[.int .i64 t260, .slice Ao43 t261.length co43] 38 (0, 0)) z5 hb); have n12_ := zA (blk_below (g := gb279) (o := .cells #[.int .i64 t274, .slice Ao55 t275.length co55] 38 (0, 0)) z6 hb); have n13_ := zA (below_step z1 hb); clear HO_8 HO_12 HO_13 HO_14 HO_260001 HO_265001 HO_280001 HO285 BK239 BK259 BK264 BK279 HB; revert n0_ n1_ n2_ n3_ n4_ n5_ n6_ n7_ n8_ n9_ n10_ n11_ n12_ n13_; intro HO_8 HO_12 HO_13 HO_14 HO_260001 HO_265001 HO_280001 HO285 HO289 BK239 BK259 BK264 BK279 HB; (try clear hb); (try clear hb2); (try clear hk); (try clear hi); (try clear ho0); obtain ⟨Ao261, co261, eo261⟩ := Kd.R_slice HO289.out; subst eo261) | ((with_reducible refine gate_callee (f := 21) rfl ?_); refine goesL_ (some 82) rfl rfl Try.func21 z28 rfl #[.slice Ao47 t265.length co47, .slice Ao261 t287.length co261] rfl z2 ?_; (with_reducible refine (laws_eqIntS.calls kj20 _ _ t265 _ _ t287 true _ ?side1 ?side2 ?side3 ?side4 A87.out).mono ?_); (case side1 => have zh := (Kd.R_reads' HO_12.out).2.2; exact zC); (case side2 => exact (Kd.R_reads' HO_12.out).2.1); (case side3 => have zh := (Kd.R_reads' HO289.out).2.2; exact zC); (case side4 => exact (Kd.R_reads' HO289.out).2.1); rintro e w' ⟨rfl, ⟨nd, rfl⟩⟩; refine ⟨_, rfl, ?_⟩) | ((with_reducible refine gate_callee (f := 19) rfl ?_); refine goesL_ (some 86) rfl rfl Try.func19 z28 rfl #[.slice A2 l2.length c2] rfl z2 ?_; (with_reducible refine (laws_toIntS.calls kj20 _ _ l2 t291 _ ?side1 ?side2 A89.out).mono ?_); (case side1 => repeat (first | exact (Kd.C_below HR2.out z1) | (with_reducible refine Kd.C_alloc ?_ _) | (with_reducible refine Kd.C_drewN ?_ _) | (with_reducible refine Kd.C_drew ?_))); (case side2 => exact HC2.out); rintro e w262 ⟨v292, rfl, ho0, hb⟩; refine ⟨_, rfl, ?_⟩; have n0_ := zA (Kd.R_elder' z11 (Kd.R_base ho0) hb); have n1_ := zA (Kd.R_elder' z16 (Kd.R_base ho0) hb); have n2_ := zA (Kd.R_elder' z15 (Kd.R_base ho0) hb); have n3_ := zA (Kd.Q_elder' z10 (Kd.R_base ho0) hb); have n4_ := zA (Kd.Q_elder' z9 (Kd.R_base ho0) hb); have n5_ := zA (Kd.Q_elder' z8 (Kd.R_base ho0) hb); have n6_ := zA (Kd.Q_elder' z7 (Kd.R_base ho0) hb); have n7_ := zA (Kd.R_elder' z17 (Kd.R_base ho0) hb); have n8_ := zA (Kd.R_elder' z50 (Kd.R_base ho0) hb); have n9_ := zA (Kd.R_lower (Kd.R_new' (Kd.R_new' (Kd.R_new' (Kd.R_new' (Kd.R_new' (Kd.R_new' (Kd.R_new' (Kd.R_new' (Kd.R_new' ho0 (Kd.R_lt z11)) (Kd.R_lt z16)) (Kd.R_lt z15)) (Kd.Q_lt z10)) (Kd.Q_lt z9)) (Kd.Q_lt z8)) (Kd.Q_lt z7)) (Kd.R_lt z17)) (Kd.R_lt z50)) (below_size z1)); have n10_ := zA (blk_below (g := gb239) (o := .cells #[.int .i64 a0_0, .slice A0_1 l0_1.length c0_1] 35 (0, 0)) z3 hb); have n11_ := zA (blk_below (g := gb259) (o := .cells #[.int .i64 t254, .slice Ao36 t255.length co36] 38 (0, 0)) z4 hb); have n12_ := zA (blk_below (g := gb264) (o := .cells #[.int .i64 t260, .slice Ao43 t261.length co43] 38 (0, 0)) z5 hb); have n13_ := zA (blk_below (g := gb279) (o := .cells #[.int .i64 t274, .slice Ao55 t275.length co55] 38 (0, 0)) z6 hb); have n14_ := zA (below_step z1 hb); clear HO_8 HO_12 HO_13 HO_14 HO_260001 HO_265001 HO_280001 HO285 HO289 BK239 BK259 BK264 BK279 HB; revert n0_ n1_ n2_ n3_ n4_ n5_ n6_ n7_ n8_ n9_ n10_ n11_ n12_ n13_ n14_; intro HO_8 HO_12 HO_13 HO_14 HO_260001 HO_265001 HO_280001 HO285 HO289 HO293 BK239 BK259 BK264 BK279 HB; (try clear hb); (try clear hb2); (try clear hk); (try clear hi); (try clear ho0); obtain ⟨Ao263, co263, eo263⟩ := Kd.R_slice HO293.out; subst eo263) | ((with_reducible refine gate_callee (f := 21) rfl ?_); refine goesL_ (some 87) rfl rfl Try.func21 z28 rfl #[.slice Ao48 t268.length co48, .slice Ao263 t291.length co263] rfl z2 ?_; (with_reducible refine (laws_eqIntS.calls kj20 _ _ t268 _ _ t291 false _ ?side1 ?side2 ?side3 ?side4 A90.out).mono ?_); (case side1 => have zh := (Kd.R_reads' HO_13.out).2.2; exact zC); (case side2 => exact (Kd.R_reads' HO_13.out).2.1); (case side3 => have zh := (Kd.R_reads' HO293.out).2.2; exact zC); (case side4 => exact (Kd.R_reads' HO293.out).2.1); rintro e w' ⟨rfl, ⟨nd, rfl⟩⟩; refine ⟨_, rfl, ?_⟩))
          go_ret
          exact ⟨z20, z1⟩
        ·replace c88 := Bool.eq_false_iff.mpr c88
         subst c88
         have H1 : (some false) = some r := z42
         clear H
         have H := H1
         clear H1
         obtain rfl := Option.some.inj H
         try go_wp2
         have n0_ := zA (Kd.R_drew HO_8.out)
         have n1_ := zA (Kd.R_drew HO_12.out)
         have n2_ := zA (Kd.R_drew HO_13.out)
         have n3_ := zA (Kd.Q_drew HO_14.out)
         have n4_ := zA (Kd.Q_drew HO_260001.out)
         have n5_ := zA (Kd.Q_drew HO_265001.out)
         have n6_ := zA (Kd.Q_drew HO_280001.out)
         have n7_ := zA (blk_drew BK239.out)
         have n8_ := zA (blk_drew BK259.out)
         have n9_ := zA (blk_drew BK264.out)
         have n10_ := zA (blk_drew BK279.out)
         have n11_ := zA (below_drew1 HB.out)
         clear HO_8
         clear HO_12
         clear HO_13
         clear HO_14
         clear HO_260001
         clear HO_265001
         clear HO_280001
         clear BK239
         clear BK259
         clear BK264
         clear BK279
         clear HB
         have HO_8 := n0_
         have HO_12 := n1_
         have HO_13 := n2_
         have HO_14 := n3_
         have HO_260001 := n4_
         have HO_265001 := n5_
         have HO_280001 := n6_
         have BK239 := n7_
         have BK259 := n8_
         have BK264 := n9_
         have BK279 := n10_
         have HB := n11_
         clear n0_ n1_ n2_ n3_ n4_ n5_ n6_ n7_ n8_ n9_ n10_ n11_
         refine start_ (n := 5) (S := fun w' => w'.cell? ⟨gb264, 0, none⟩ = some (.int .i64 t260) ∧ w'.cell? ⟨gb264, 1, none⟩ = some (.slice Ao43 t261.length co43) ∧ w'.cell? ⟨gb239, 0, none⟩ = some (.int .i64 a0_0) ∧ w'.cell? ⟨gb239, 1, none⟩ = some (.slice A0_1 l0_1.length c0_1)) (ds := []) #[false, false, false, false, false] z28 rfl rfl ⟨(blk_cell BK264.out 0).trans rfl, (blk_cell BK264.out 1).trans rfl, (blk_cell BK239.out 0).trans rfl, (blk_cell BK239.out 1).trans rfl⟩ (fun hHeld => ?_)
         generalize wc.drew = w264 at HO_8 HO_12 HO_13 HO_14 HO_260001 HO_265001 HO_280001 BK239 BK259 BK264 BK279 HB hHeld ⊢
         refine take_ (i := 0) (N := some 74) (v := ?_) (a' := ?_) #[true, false, false, false, false] rfl rfl z28 (fun _ _ _ h => h) (Or.inl ⟨by rfl, ?_⟩) hHeld ?_ ?_
         rotate_left
         ·rintro w' ⟨s0, s1, s2, s3⟩
          go_simp
          with_reducible rfl
         rotate_left
         ·simp only [Act.put, List.setIfInBounds_toArray, List.set_cons_zero, List.set_cons_succ, i64_w, i32_w]
          rfl
         refine take_ (i := 1) (N := some 75) (v := ?_) (a' := ?_) #[true, true, false, false, false] rfl rfl z28 (fun _ _ _ h => h) (Or.inl ⟨by rfl, ?_⟩) hHeld ?_ ?_
         rotate_left
         ·rintro w' ⟨s0, s1, s2, s3⟩
          go_simp
          with_reducible rfl
         rotate_left
         ·simp only [Act.put, List.setIfInBounds_toArray, List.set_cons_zero, List.set_cons_succ, i64_w, i32_w]
          rfl
         refine one_ (i := 2) (N := some 76) #[true, true, true, false, false] rfl rfl z28 z37 (fun K hK => ?_)
         refine goes_ Try.func24 z28 rfl #[.agg #[.int .i64 a0_0, .slice A0_1 l0_1.length c0_1]] (by rfl) rfl rfl z2 ?_
         with_reducible refine (laws_toFlow.calls kj20 a0_0 _ _ l0_1 t282 t283 _ ?side1 ?side2 A83.out).mono ?_
         (case side1 => have zh := (Kd.C_below HR0_1.out HB.out); exact zC)
         (case side2 => exact HC0_1.out)
         rintro e w265 ⟨v284, rfl, ho0, hb⟩
         refine ⟨_, rfl, ?_⟩
         have n0_ := zA (Kd.R_elder' z11 (Kd.R_base ho0) hb)
         have n1_ := zA (Kd.R_elder' z16 (Kd.R_base ho0) hb)
         have n2_ := zA (Kd.R_elder' z15 (Kd.R_base ho0) hb)
         have n3_ := zA (Kd.Q_elder' z10 (Kd.R_base ho0) hb)
         have n4_ := zA (Kd.Q_elder' z9 (Kd.R_base ho0) hb)
         have n5_ := zA (Kd.Q_elder' z8 (Kd.R_base ho0) hb)
         have n6_ := zA (Kd.Q_elder' z7 (Kd.R_base ho0) hb)
         have n7_ := zA (Kd.R_lower (Kd.R_new' (Kd.R_new' (Kd.R_new' (Kd.R_new' (Kd.R_new' (Kd.R_new' (Kd.R_new' ho0 (Kd.R_lt z11)) (Kd.R_lt z16)) (Kd.R_lt z15)) (Kd.Q_lt z10)) (Kd.Q_lt z9)) (Kd.Q_lt z8)) (Kd.Q_lt z7)) (below_size z1))
         have n8_ := zA (blk_below (g := gb239) (o := .cells #[.int .i64 a0_0, .slice A0_1 l0_1.length c0_1] 35 (0, 0)) z3 hb)
         have n9_ := zA (blk_below (g := gb259) (o := .cells #[.int .i64 t254, .slice Ao36 t255.length co36] 38 (0, 0)) z4 hb)
         have n10_ := zA (blk_below (g := gb264) (o := .cells #[.int .i64 t260, .slice Ao43 t261.length co43] 38 (0, 0)) z5 hb)
         have n11_ := zA (blk_below (g := gb279) (o := .cells #[.int .i64 t274, .slice Ao55 t275.length co55] 38 (0, 0)) z6 hb)
         have n12_ := zA (below_step z1 hb)
         clear HO_8
         clear HO_12
         clear HO_13
         clear HO_14
         clear HO_260001
         clear HO_265001
         clear HO_280001
         clear BK239
         clear BK259
         clear BK264
         clear BK279
         clear HB
         have HO_8 := n0_
         have HO_12 := n1_
         have HO_13 := n2_
         have HO_14 := n3_
         have HO_260001 := n4_
         have HO_265001 := n5_
         have HO_280001 := n6_
         have HO285 := n7_
         have BK239 := n8_
         have BK259 := n9_
         have BK264 := n10_
         have BK279 := n11_
         have HB := n12_
         clear n0_ n1_ n2_ n3_ n4_ n5_ n6_ n7_ n8_ n9_ n10_ n11_ n12_
         (try clear hb)
         (try clear hb2)
         (try clear hk)
         (try clear hi)
         (try clear ho0)
         obtain ⟨Ao266, co266, eo266⟩ := Kd.R_slice HO285.out
         (first | subst eo266 | (injection eo266 with f1_ f2_ f3_; have f4_ := f1_.symm; have f5_ := f3_.symm; clear f1_ f2_ f3_; subst f4_; subst f5_))
         refine hK.out _ _ ⟨(blk_cell BK264.out 0).trans rfl, (blk_cell BK264.out 1).trans rfl, (blk_cell BK239.out 0).trans rfl, (blk_cell BK239.out 1).trans rfl⟩ (fun hHeld => ?_)
         clear hK K
         refine norm_ (a' := ?_) ?_ ?_
         rotate_left
         ·show Act.put _ (some 76) _ = _
          simp only [Act.put, List.setIfInBounds_toArray, List.set_cons_zero, List.set_cons_succ, i64_w, i32_w]
          rfl
         refine one_ (i := 3) (N := some 77) #[true, true, true, true, false] rfl rfl z28 z37 (fun K hK => ?_)
         refine goes_ Try.func26 z28 rfl #[.agg #[.int .i64 t260, .slice Ao43 t261.length co43], .agg #[.int .i64 t282, .slice Ao266 t283.length co266]] (by rfl) rfl rfl z2 ?_
         with_reducible refine (laws_eqFlow.calls kj20 t260 _ _ t261 t282 _ _ t283 true _ ?side1 ?side2 ?side3 ?side4 A84.out).mono ?_
         (case side1 => have zh := (Kd.Q_reads' HO_265001.out).2.2; exact zC)
         (case side2 => exact (Kd.Q_reads' HO_265001.out).2.1)
         (case side3 => have zh := (Kd.R_reads' HO285.out).2.2; exact zC)
         (case side4 => exact (Kd.R_reads' HO285.out).2.1)
         rintro e w267 ⟨rfl, hb⟩
         refine ⟨_, rfl, ?_⟩
         have n0_ := zA (Kd.R_below z11 hb)
         have n1_ := zA (Kd.R_below z16 hb)
         have n2_ := zA (Kd.R_below z15 hb)
         have n3_ := zA (Kd.Q_below z10 hb)
         have n4_ := zA (Kd.Q_below z9 hb)
         have n5_ := zA (Kd.Q_below z8 hb)
         have n6_ := zA (Kd.Q_below z7 hb)
         have n7_ := zA (Kd.R_below z17 hb)
         have n8_ := zA (blk_below (g := gb239) (o := .cells #[.int .i64 a0_0, .slice A0_1 l0_1.length c0_1] 35 (0, 0)) z3 hb)
         have n9_ := zA (blk_below (g := gb259) (o := .cells #[.int .i64 t254, .slice Ao36 t255.length co36] 38 (0, 0)) z4 hb)
         have n10_ := zA (blk_below (g := gb264) (o := .cells #[.int .i64 t260, .slice Ao43 t261.length co43] 38 (0, 0)) z5 hb)
         have n11_ := zA (blk_below (g := gb279) (o := .cells #[.int .i64 t274, .slice Ao55 t275.length co55] 38 (0, 0)) z6 hb)
         have n12_ := zA (below_step z1 hb)
         clear HO_8
         clear HO_12
         clear HO_13
         clear HO_14
         clear HO_260001
         clear HO_265001
         clear HO_280001
         clear HO285
         clear BK239
         clear BK259
         clear BK264
         clear BK279
         clear HB
         have HO_8 := n0_
         have HO_12 := n1_
         have HO_13 := n2_
         have HO_14 := n3_
         have HO_260001 := n4_
         have HO_265001 := n5_
         have HO_280001 := n6_
         have HO285 := n7_
         have BK239 := n8_
         have BK259 := n9_
         have BK264 := n10_
         have BK279 := n11_
         have HB := n12_
         clear n0_ n1_ n2_ n3_ n4_ n5_ n6_ n7_ n8_ n9_ n10_ n11_ n12_
         (try clear hb)
         (try clear hb2)
         (try clear hk)
         (try clear hi)
         refine hK.out _ _ ⟨(blk_cell BK264.out 0).trans rfl, (blk_cell BK264.out 1).trans rfl, (blk_cell BK239.out 0).trans rfl, (blk_cell BK239.out 1).trans rfl⟩ (fun hHeld => ?_)
         clear hK K
         refine norm_ (a' := ?_) ?_ ?_
         rotate_left
         ·show Act.put _ (some 77) _ = _
          simp only [Act.put, List.setIfInBounds_toArray, List.set_cons_zero, List.set_cons_succ, i64_w, i32_w]
          rfl
         refine pure_ (i := 4) (N := some 78) (v := ?_) (a' := ?_) #[true, true, true, true, true] rfl rfl z28 (fun _ _ _ h => h) (Or.inl ⟨by rfl, ?_⟩) ?_ ?_
         rotate_left
         ·intro w'
          go_simp
          with_reducible rfl
         rotate_left
         ·simp only [Act.put, List.setIfInBounds_toArray, List.set_cons_zero, List.set_cons_succ, i64_w, i32_w]
          rfl
         refine done_ z28 ?_
         try go_wp2_with (first | ((with_reducible refine gate_callee (f := 19) rfl ?_); refine goesL_ (some 81) rfl rfl Try.func19 z28 rfl #[.slice A1 l1.length c1] rfl z2 ?_; (with_reducible refine (laws_toIntS.calls kj20 _ _ l1 t287 _ ?side1 ?side2 A86.out).mono ?_); (case side1 => have zh := (Kd.C_below HR1.out HB.out); exact zC); (case side2 => exact HC1.out); rintro e w268 ⟨v288, rfl, ho0, hb⟩; refine ⟨_, rfl, ?_⟩; have n0_ := zA (Kd.R_elder' z11 (Kd.R_base ho0) hb); have n1_ := zA (Kd.R_elder' z16 (Kd.R_base ho0) hb); have n2_ := zA (Kd.R_elder' z15 (Kd.R_base ho0) hb); have n3_ := zA (Kd.Q_elder' z10 (Kd.R_base ho0) hb); have n4_ := zA (Kd.Q_elder' z9 (Kd.R_base ho0) hb); have n5_ := zA (Kd.Q_elder' z8 (Kd.R_base ho0) hb); have n6_ := zA (Kd.Q_elder' z7 (Kd.R_base ho0) hb); have n7_ := zA (Kd.R_elder' z17 (Kd.R_base ho0) hb); have n8_ := zA (Kd.R_lower (Kd.R_new' (Kd.R_new' (Kd.R_new' (Kd.R_new' (Kd.R_new' (Kd.R_new' (Kd.R_new' (Kd.R_new' ho0 (Kd.R_lt z11)) (Kd.R_lt z16)) (Kd.R_lt z15)) (Kd.Q_lt z10)) (Kd.Q_lt z9)) (Kd.Q_lt z8)) (Kd.Q_lt z7)) (Kd.R_lt z17)) (below_size z1)); have n9_ := zA (blk_below (g := gb239) (o := .cells #[.int .i64 a0_0, .slice A0_1 l0_1.length c0_1] 35 (0, 0)) z3 hb); have n10_ := zA (blk_below (g := gb259) (o := .cells #[.int .i64 t254, .slice Ao36 t255.length co36] 38 (0, 0)) z4 hb); have n11_ := zA (blk_below (g := gb264) (o := .cells #[.int .i64 t260, .slice Ao43 t261.length co43] 38 (0, 0)) z5 hb); have n12_ := zA (blk_below (g := gb279) (o := .cells #[.int .i64 t274, .slice Ao55 t275.length co55] 38 (0, 0)) z6 hb); have n13_ := zA (below_step z1 hb); clear HO_8 HO_12 HO_13 HO_14 HO_260001 HO_265001 HO_280001 HO285 BK239 BK259 BK264 BK279 HB; revert n0_ n1_ n2_ n3_ n4_ n5_ n6_ n7_ n8_ n9_ n10_ n11_ n12_ n13_; intro HO_8 HO_12 HO_13 HO_14 HO_260001 HO_265001 HO_280001 HO285 HO289 BK239 BK259 BK264 BK279 HB; (try clear hb); (try clear hb2); (try clear hk); (try clear hi); (try clear ho0); obtain ⟨Ao269, co269, eo269⟩ := Kd.R_slice HO289.out; subst eo269) | ((with_reducible refine gate_callee (f := 21) rfl ?_); refine goesL_ (some 82) rfl rfl Try.func21 z28 rfl #[.slice Ao47 t265.length co47, .slice Ao269 t287.length co269] rfl z2 ?_; (with_reducible refine (laws_eqIntS.calls kj20 _ _ t265 _ _ t287 false _ ?side1 ?side2 ?side3 ?side4 A87.out).mono ?_); (case side1 => have zh := (Kd.R_reads' HO_12.out).2.2; exact zC); (case side2 => exact (Kd.R_reads' HO_12.out).2.1); (case side3 => have zh := (Kd.R_reads' HO289.out).2.2; exact zC); (case side4 => exact (Kd.R_reads' HO289.out).2.1); rintro e w' ⟨rfl, ⟨nd, rfl⟩⟩; refine ⟨_, rfl, ?_⟩))
         go_ret
         exact ⟨z20, z1⟩
       ·replace c85 := Bool.eq_false_iff.mpr c85
        subst c85
        have H1 : (some false) = some r := z42
        clear H
        have H := H1
        clear H1
        obtain rfl := Option.some.inj H
        try go_wp2
        have n0_ := zA (Kd.R_drew HO_8.out)
        have n1_ := zA (Kd.R_drew HO_12.out)
        have n2_ := zA (Kd.R_drew HO_13.out)
        have n3_ := zA (Kd.Q_drew HO_14.out)
        have n4_ := zA (Kd.Q_drew HO_260001.out)
        have n5_ := zA (Kd.Q_drew HO_265001.out)
        have n6_ := zA (Kd.Q_drew HO_280001.out)
        have n7_ := zA (blk_drew BK239.out)
        have n8_ := zA (blk_drew BK259.out)
        have n9_ := zA (blk_drew BK264.out)
        have n10_ := zA (blk_drew BK279.out)
        have n11_ := zA (below_drew1 HB.out)
        clear HO_8
        clear HO_12
        clear HO_13
        clear HO_14
        clear HO_260001
        clear HO_265001
        clear HO_280001
        clear BK239
        clear BK259
        clear BK264
        clear BK279
        clear HB
        have HO_8 := n0_
        have HO_12 := n1_
        have HO_13 := n2_
        have HO_14 := n3_
        have HO_260001 := n4_
        have HO_265001 := n5_
        have HO_280001 := n6_
        have BK239 := n7_
        have BK259 := n8_
        have BK264 := n9_
        have BK279 := n10_
        have HB := n11_
        clear n0_ n1_ n2_ n3_ n4_ n5_ n6_ n7_ n8_ n9_ n10_ n11_
        refine start_ (n := 5) (S := fun w' => w'.cell? ⟨gb264, 0, none⟩ = some (.int .i64 t260) ∧ w'.cell? ⟨gb264, 1, none⟩ = some (.slice Ao43 t261.length co43) ∧ w'.cell? ⟨gb239, 0, none⟩ = some (.int .i64 a0_0) ∧ w'.cell? ⟨gb239, 1, none⟩ = some (.slice A0_1 l0_1.length c0_1)) (ds := []) #[false, false, false, false, false] z28 rfl rfl ⟨(blk_cell BK264.out 0).trans rfl, (blk_cell BK264.out 1).trans rfl, (blk_cell BK239.out 0).trans rfl, (blk_cell BK239.out 1).trans rfl⟩ (fun hHeld => ?_)
        generalize wc.drew = w270 at HO_8 HO_12 HO_13 HO_14 HO_260001 HO_265001 HO_280001 BK239 BK259 BK264 BK279 HB hHeld ⊢
        refine take_ (i := 0) (N := some 74) (v := ?_) (a' := ?_) #[true, false, false, false, false] rfl rfl z28 (fun _ _ _ h => h) (Or.inl ⟨by rfl, ?_⟩) hHeld ?_ ?_
        rotate_left
        ·rintro w' ⟨s0, s1, s2, s3⟩
         go_simp
         with_reducible rfl
        rotate_left
        ·simp only [Act.put, List.setIfInBounds_toArray, List.set_cons_zero, List.set_cons_succ, i64_w, i32_w]
         rfl
        refine take_ (i := 1) (N := some 75) (v := ?_) (a' := ?_) #[true, true, false, false, false] rfl rfl z28 (fun _ _ _ h => h) (Or.inl ⟨by rfl, ?_⟩) hHeld ?_ ?_
        rotate_left
        ·rintro w' ⟨s0, s1, s2, s3⟩
         go_simp
         with_reducible rfl
        rotate_left
        ·simp only [Act.put, List.setIfInBounds_toArray, List.set_cons_zero, List.set_cons_succ, i64_w, i32_w]
         rfl
        refine one_ (i := 2) (N := some 76) #[true, true, true, false, false] rfl rfl z28 z37 (fun K hK => ?_)
        refine goes_ Try.func24 z28 rfl #[.agg #[.int .i64 a0_0, .slice A0_1 l0_1.length c0_1]] (by rfl) rfl rfl z2 ?_
        with_reducible refine (laws_toFlow.calls kj20 a0_0 _ _ l0_1 t282 t283 _ ?side1 ?side2 A83.out).mono ?_
        (case side1 => have zh := (Kd.C_below HR0_1.out HB.out); exact zC)
        (case side2 => exact HC0_1.out)
        rintro e w271 ⟨v284, rfl, ho0, hb⟩
        refine ⟨_, rfl, ?_⟩
        have n0_ := zA (Kd.R_elder' z11 (Kd.R_base ho0) hb)
        have n1_ := zA (Kd.R_elder' z16 (Kd.R_base ho0) hb)
        have n2_ := zA (Kd.R_elder' z15 (Kd.R_base ho0) hb)
        have n3_ := zA (Kd.Q_elder' z10 (Kd.R_base ho0) hb)
        have n4_ := zA (Kd.Q_elder' z9 (Kd.R_base ho0) hb)
        have n5_ := zA (Kd.Q_elder' z8 (Kd.R_base ho0) hb)
        have n6_ := zA (Kd.Q_elder' z7 (Kd.R_base ho0) hb)
        have n7_ := zA (Kd.R_lower (Kd.R_new' (Kd.R_new' (Kd.R_new' (Kd.R_new' (Kd.R_new' (Kd.R_new' (Kd.R_new' ho0 (Kd.R_lt z11)) (Kd.R_lt z16)) (Kd.R_lt z15)) (Kd.Q_lt z10)) (Kd.Q_lt z9)) (Kd.Q_lt z8)) (Kd.Q_lt z7)) (below_size z1))
        have n8_ := zA (blk_below (g := gb239) (o := .cells #[.int .i64 a0_0, .slice A0_1 l0_1.length c0_1] 35 (0, 0)) z3 hb)
        have n9_ := zA (blk_below (g := gb259) (o := .cells #[.int .i64 t254, .slice Ao36 t255.length co36] 38 (0, 0)) z4 hb)
        have n10_ := zA (blk_below (g := gb264) (o := .cells #[.int .i64 t260, .slice Ao43 t261.length co43] 38 (0, 0)) z5 hb)
        have n11_ := zA (blk_below (g := gb279) (o := .cells #[.int .i64 t274, .slice Ao55 t275.length co55] 38 (0, 0)) z6 hb)
        have n12_ := zA (below_step z1 hb)
        clear HO_8
        clear HO_12
        clear HO_13
        clear HO_14
        clear HO_260001
        clear HO_265001
        clear HO_280001
        clear BK239
        clear BK259
        clear BK264
        clear BK279
        clear HB
        have HO_8 := n0_
        have HO_12 := n1_
        have HO_13 := n2_
        have HO_14 := n3_
        have HO_260001 := n4_
        have HO_265001 := n5_
        have HO_280001 := n6_
        have HO285 := n7_
        have BK239 := n8_
        have BK259 := n9_
        have BK264 := n10_
        have BK279 := n11_
        have HB := n12_
        clear n0_ n1_ n2_ n3_ n4_ n5_ n6_ n7_ n8_ n9_ n10_ n11_ n12_
        (try clear hb)
        (try clear hb2)
        (try clear hk)
        (try clear hi)
        (try clear ho0)
        obtain ⟨Ao272, co272, eo272⟩ := Kd.R_slice HO285.out
        (first | subst eo272 | (injection eo272 with f1_ f2_ f3_; have f4_ := f1_.symm; have f5_ := f3_.symm; clear f1_ f2_ f3_; subst f4_; subst f5_))
        refine hK.out _ _ ⟨(blk_cell BK264.out 0).trans rfl, (blk_cell BK264.out 1).trans rfl, (blk_cell BK239.out 0).trans rfl, (blk_cell BK239.out 1).trans rfl⟩ (fun hHeld => ?_)
        clear hK K
        refine norm_ (a' := ?_) ?_ ?_
        rotate_left
        ·show Act.put _ (some 76) _ = _
         simp only [Act.put, List.setIfInBounds_toArray, List.set_cons_zero, List.set_cons_succ, i64_w, i32_w]
         rfl
        refine one_ (i := 3) (N := some 77) #[true, true, true, true, false] rfl rfl z28 z37 (fun K hK => ?_)
        refine goes_ Try.func26 z28 rfl #[.agg #[.int .i64 t260, .slice Ao43 t261.length co43], .agg #[.int .i64 t282, .slice Ao272 t283.length co272]] (by rfl) rfl rfl z2 ?_
        with_reducible refine (laws_eqFlow.calls kj20 t260 _ _ t261 t282 _ _ t283 false _ ?side1 ?side2 ?side3 ?side4 A84.out).mono ?_
        (case side1 => have zh := (Kd.Q_reads' HO_265001.out).2.2; exact zC)
        (case side2 => exact (Kd.Q_reads' HO_265001.out).2.1)
        (case side3 => have zh := (Kd.R_reads' HO285.out).2.2; exact zC)
        (case side4 => exact (Kd.R_reads' HO285.out).2.1)
        rintro e w273 ⟨rfl, hb⟩
        refine ⟨_, rfl, ?_⟩
        have n0_ := zA (Kd.R_below z11 hb)
        have n1_ := zA (Kd.R_below z16 hb)
        have n2_ := zA (Kd.R_below z15 hb)
        have n3_ := zA (Kd.Q_below z10 hb)
        have n4_ := zA (Kd.Q_below z9 hb)
        have n5_ := zA (Kd.Q_below z8 hb)
        have n6_ := zA (Kd.Q_below z7 hb)
        have n7_ := zA (Kd.R_below z17 hb)
        have n8_ := zA (blk_below (g := gb239) (o := .cells #[.int .i64 a0_0, .slice A0_1 l0_1.length c0_1] 35 (0, 0)) z3 hb)
        have n9_ := zA (blk_below (g := gb259) (o := .cells #[.int .i64 t254, .slice Ao36 t255.length co36] 38 (0, 0)) z4 hb)
        have n10_ := zA (blk_below (g := gb264) (o := .cells #[.int .i64 t260, .slice Ao43 t261.length co43] 38 (0, 0)) z5 hb)
        have n11_ := zA (blk_below (g := gb279) (o := .cells #[.int .i64 t274, .slice Ao55 t275.length co55] 38 (0, 0)) z6 hb)
        have n12_ := zA (below_step z1 hb)
        clear HO_8
        clear HO_12
        clear HO_13
        clear HO_14
        clear HO_260001
        clear HO_265001
        clear HO_280001
        clear HO285
        clear BK239
        clear BK259
        clear BK264
        clear BK279
        clear HB
        have HO_8 := n0_
        have HO_12 := n1_
        have HO_13 := n2_
        have HO_14 := n3_
        have HO_260001 := n4_
        have HO_265001 := n5_
        have HO_280001 := n6_
        have HO285 := n7_
        have BK239 := n8_
        have BK259 := n9_
        have BK264 := n10_
        have BK279 := n11_
        have HB := n12_
        clear n0_ n1_ n2_ n3_ n4_ n5_ n6_ n7_ n8_ n9_ n10_ n11_ n12_
        (try clear hb)
        (try clear hb2)
        (try clear hk)
        (try clear hi)
        refine hK.out _ _ ⟨(blk_cell BK264.out 0).trans rfl, (blk_cell BK264.out 1).trans rfl, (blk_cell BK239.out 0).trans rfl, (blk_cell BK239.out 1).trans rfl⟩ (fun hHeld => ?_)
        clear hK K
        refine norm_ (a' := ?_) ?_ ?_
        rotate_left
        ·show Act.put _ (some 77) _ = _
         simp only [Act.put, List.setIfInBounds_toArray, List.set_cons_zero, List.set_cons_succ, i64_w, i32_w]
         rfl
        refine pure_ (i := 4) (N := some 78) (v := ?_) (a' := ?_) #[true, true, true, true, true] rfl rfl z28 (fun _ _ _ h => h) (Or.inl ⟨by rfl, ?_⟩) ?_ ?_
        rotate_left
        ·intro w'
         go_simp
         with_reducible rfl
        rotate_left
        ·simp only [Act.put, List.setIfInBounds_toArray, List.set_cons_zero, List.set_cons_succ, i64_w, i32_w]
         rfl
        refine done_ z28 ?_
        try go_wp2
        go_ret
        exact ⟨z20, z1⟩

end Go.Proofs.Ytjenbljkjmkbfaa.PFnExactRunOrders
