-- A text of this session (its program hook.py, over the kit's print.py): not a print of print.sh
-- THIN: one blank for two
import Derived.Test.YtmekmkhdhakohaaPFnExactPolicyWorthx0
import Derived.Test.YtmekmkhdhakohaaPFnExactPolicyWorthx1
import Derived.Test.YtmekmkhdhakohaaPFnExactPolicyWorthx2
import Derived.Test.YtmekmkhdhakohaaPFnExactPolicyWorthx3
import Derived.Test.YtmekmkhdhakohaaPFnExactPolicyWorthx7
import Derived.Test.YtmekmkhdhakohaaPFnExactPolicyWorthx12
namespace Go.Proofs.Ytmekmkhdhakohaa.PFnExactPolicyWorth
open Go.RowKit Go.Proofs.YtmekmkhdhakohaaW.PrintWords Go.Proofs.YtmekmkhdhakohaaW.PrintLast Go.Proofs.YtmekmkhdhakohaaW.PrintMore
attribute [local go_sem] max2_int min2_int max_two min_two max_three min_three max_four min_four   -- for this text's walks alone
set_option linter.unusedVariables false
set_option linter.unusedSimpArgs false

-- SQUEEZED
abbrev z13_S (k : Nat) (A : Option Addr) (n c : Nat) : Prop := some k ≠ (.slice A n c : Value).ownBlock
abbrev z13_V (k : Nat) (v : Value) : Prop := some k ≠ v.ownBlock
private theorem bcz {w : World} {g : Nat} {t : TypeId} {cs : Array Value} (h : w.heap[g]? = some (.cells cs t (0, 0))) (i : Nat) {v : Value} (e : cs[i]? = some v) : w.cell? ⟨g, i, none⟩ = some v := (blk_cell h i).trans e
private theorem F4z {P : Nat → Prop} (h : ∀ i, P i) : P 0 ∧ P 1 ∧ P 2 ∧ P 3 := ⟨h 0, h 1, h 2, h 3⟩
theorem z13_A {p : Prop} (h : p) : Aside0 p := Aside0.mk h
theorem z13_C {p : Prop} (h : p := by repeat (first | exact zh | (with_reducible refine Kd.C_alloc ?_ _) | (with_reducible refine Kd.C_drewN ?_ _) | (with_reducible refine Kd.C_drew ?_))) : p := h
theorem z13_1 {p : Prop} (h : p := by repeat (first | (with_reducible first | exact HB.out | apply below_alloc | apply pw_below_drewN | apply below_drew1 | refine below_set ?_ GE252.out | refine below_set ?_ GE278.out) | exact HB.out)) : p := h
theorem z13_2 {p : Prop} (h : p := by (try simp only [List.map_toArray, List.map_cons, List.map_nil]); first | done | rfl | (simp only [List.length_drop, List.length_take]; rfl)) : p := h
theorem z13_3 {p : Prop} (h : p := by (with_reducible repeat (first | refine blk_drewN ?_ _ | refine blk_drew ?_ | refine blk_alloc ?_ _)); exact BK252.out) : p := h
theorem z13_4 {p : Prop} (h : p := by (with_reducible repeat (first | refine blk_drewN ?_ _ | refine blk_drew ?_ | refine blk_alloc ?_ _)); exact BK278.out) : p := h
theorem z13_5 {p : Prop} (h : p := by repeat (first | (with_reducible first | exact HB.out | apply below_alloc | apply pw_below_drewN | apply below_drew1 | refine below_set ?_ GE252.out) | exact HB.out)) : p := h
theorem z13_6 {p : Prop} (h : p := by (with_reducible repeat (first | apply Kd.R_alloc | apply Kd.R_drewN | apply Kd.R_drew)); exact HO_279001.out) : p := h
theorem z13_7 {p : Prop} (h : p := by (with_reducible repeat (first | apply Kd.R_alloc | apply Kd.R_drewN | apply Kd.R_drew)); exact HO_10.out) : p := h
theorem z13_8 {p : Prop} (h : p := by (with_reducible repeat (first | apply Kd.R_alloc | apply Kd.R_drewN | apply Kd.R_drew)); exact HO_6.out) : p := h
theorem z13_9 {p : Prop} (h : p := by (with_reducible repeat (first | apply Kd.R_alloc | apply Kd.R_drewN | apply Kd.R_drew)); exact HO_9.out) : p := h
theorem z13_10 {p : Prop} (h : p := by repeat (first | (with_reducible first | exact HB.out | apply below_alloc | apply pw_below_drewN | apply below_drew1) | exact HB.out)) : p := h
theorem z13_11 {p : Prop} (h : p := by first | rfl | (simp [errW_none, errW_some] <;> rfl) | (simp [*, errW_none, errW_some] <;> rfl)) : p := h
theorem z13_12 {p : Prop} (h : p := by (with_reducible repeat (first | apply Kd.R_alloc | apply Kd.R_drewN | apply Kd.R_drew)); exact HO258.out) : p := h
theorem z13_13 {p : Prop} (h : p := by kernel_rfl) : p := h
theorem z13_14 {p : Prop} (h : p := by (with_reducible repeat (first | apply Kd.R_alloc | apply Kd.R_drewN | apply Kd.R_drew)); exact HO290.out) : p := h
theorem z13_15 {p : Prop} (h : p := by (with_reducible repeat (first | apply Kd.R_alloc | apply Kd.R_drewN | apply Kd.R_drew)); exact (Kd.R_mono (Kd.R_far (p := ⟨gb278, 5, none⟩) (Kd.R_far (p := ⟨gb278, 4, none⟩) (Kd.R_far (p := ⟨gb278, 3, none⟩) (Kd.R_far (p := ⟨gb278, 2, none⟩) (Kd.R_far (p := ⟨gb278, 1, none⟩) (Kd.R_far (p := ⟨gb278, 0, none⟩) (Kd.R_types HO265.out BK278.out (by decide)) (fun _ hk => hk.2) (.int .i64 t270)) (fun _ hk => hk.2) (.slice Ao34 t271.length co34)) (fun _ hk => hk.2) (.int .i64 t274)) (fun _ hk => hk.2) (.int .i64 t275)) (fun _ hk => hk.2) (.int .i64 t276)) (fun _ hk => hk.2) (.int .i64 t277)) (fun _ h_ => h_.1))) : p := h
theorem z13_16 {p : Prop} (h : p := by (try simp only [List.map_toArray, List.map_cons, List.map_nil]); first | done | (rw [show t306.length = t282.length from (Kd.R_reads' HO_10.out).1.symm] <;> rfl) | rfl | (simp only [List.length_drop, List.length_take]; rfl)) : p := h
theorem z13_17 {p : Prop} (h : p := by rw [if_neg (show ¬ (false = true) by decide)] at H; exact H) : p := h
theorem z13_18 {p : Prop} (h : p := by (with_reducible repeat (first | apply Kd.R_alloc | apply Kd.R_drewN | apply Kd.R_drew)); exact HO268.out) : p := h
theorem z13_19 {p : Prop} (h : p := by (with_reducible repeat (first | apply Kd.R_alloc | apply Kd.R_drewN | apply Kd.R_drew)); exact HO265.out) : p := h
theorem z13_20 {p : Prop} (h : p := by (with_reducible repeat (first | apply Kd.R_alloc | apply Kd.R_drewN | apply Kd.R_drew)); exact Kd.R_mono HO_279001.out (fun _ hk => ⟨hk.1, hk.2.1⟩)) : p := h
theorem z13_21 {p : Prop} (h : p := by (with_reducible repeat (first | apply Kd.R_alloc | apply Kd.R_drewN | apply Kd.R_drew)); exact Kd.R_mono HO_10.out (fun _ hk => ⟨hk.1, hk.2.1⟩)) : p := h
theorem z13_22 {p : Prop} (h : p := by (with_reducible repeat (first | apply Kd.R_alloc | apply Kd.R_drewN | apply Kd.R_drew)); exact Kd.R_mono HO_6.out (fun _ hk => ⟨hk.1, hk.2.1⟩)) : p := h
theorem z13_23 {p : Prop} (h : p := by first | rfl | (simp; done) | (simp [*]; done)) : p := h
theorem z13_24 {p : Prop} (h : p := by rw [if_pos rfl] at H; exact H) : p := h
theorem z13_25 {p : Prop} (h : p := by (with_reducible repeat (first | apply Kd.R_alloc | apply Kd.R_drewN | apply Kd.R_drew)); exact HO311.out) : p := h
theorem z13_26 {p : Prop} (h : p := by (with_reducible repeat (first | apply Kd.R_alloc | apply Kd.R_drewN | apply Kd.R_drew)); exact HO273.out) : p := h
theorem z13_27 {p : Prop} (h : p := by (try simp only [hl279001_53]); (with_reducible repeat (first | apply Kd.R_alloc | apply Kd.R_drewN | apply Kd.R_drew)); exact Kd.R_mono HO_279001.out (fun _ hk => hk.1.1.2)) : p := h
theorem z13_28 {p : Prop} (h : p := by (try simp only [hl279001_53]); (with_reducible repeat (first | apply Kd.R_alloc | apply Kd.R_drewN | apply Kd.R_drew)); exact Kd.R_mono HO_10.out (fun _ hk => hk.1.1.2)) : p := h
theorem z13_29 {p : Prop} (h : p := by decide) : p := h
theorem z13_30 {p : Prop} (h : p := by rw [hg]; exact (below_size z13_10)) : p := h
theorem z13_31 {p : Prop} (h : p := by (try simp only [hl279001_53]); (with_reducible repeat (first | refine blk_drewN ?_ _ | refine blk_drew ?_ | refine blk_alloc ?_ _)); exact BK278.out) : p := h
theorem z13_32 {p : Prop} (h : p := by (try simp only [hl279001_53]); (with_reducible repeat (first | refine blk_drewN ?_ _ | refine blk_drew ?_ | refine blk_alloc ?_ _)); exact BK252.out) : p := h
theorem z13_33 {p : Prop} (h : p := by (with_reducible repeat (first | apply Kd.R_alloc | apply Kd.R_drewN | apply Kd.R_drew)); exact Kd.R_mono HO284.out (fun _ hk => ⟨hk.1.2, hk.2⟩)) : p := h
theorem z13_34 {p : Prop} (h : p := by (with_reducible repeat (first | apply Kd.R_alloc | apply Kd.R_drewN | apply Kd.R_drew)); exact Kd.R_mono HO273.out (fun _ hk => ⟨hk.1.2, hk.2⟩)) : p := h
theorem z13_35 {p : Prop} (h : p := by (with_reducible repeat (first | apply Kd.R_alloc | apply Kd.R_drewN | apply Kd.R_drew)); exact Kd.R_mono HO268.out (fun _ hk => ⟨hk.2, hk.1.2⟩)) : p := h
theorem z13_36 {p : Prop} (h : p := by (with_reducible repeat (first | apply Kd.R_alloc | apply Kd.R_drewN | apply Kd.R_drew)); exact Kd.R_mono HO281.out (fun _ hk => trivial)) : p := h
theorem z13_37 {p : Prop} (h : p := by have := HJ18.out; first | omega | exact Nat.le_refl _) : p := h
theorem z13_38 {p : Prop} (h : p := by (with_reducible repeat (first | apply Kd.R_alloc | apply Kd.R_drewN | apply Kd.R_drew)); exact HO298.out) : p := h

/-! ### laws_FnExactPolicyWorth: function 9 -/
mutual
def laws_FnExactPolicyWorth.j0 : Nat → List (S72) → List Int → Bool → List (S72) → List Int → Bool → Bool → Int → List Int → Int → Int → Int → Int → Int → List Int → Int → Int → Int → Int → Option (Bool)
 | 0, _, _, _, _, _, _, _, _, _, _, _, _, _, _, _, _, _, _, _ => none
 | k + 1, x1, x6, x7, x9, x10, x11, x53, x253000, x253001, x253002, x253003, x253004, x253005, x279000, x279001, x279002, x279003, x279004, x279005 => if x53 = true then (some false) else ((laws_toProcess.f k x253000 x253001 x253002 x253003 x253004 x253005).bind fun bt287 => ((laws_eqProcess.f k x279000 x279001 x279002 x279003 x279004 x279005 bt287.1 bt287.2.1 bt287.2.2.1 bt287.2.2.2.1 bt287.2.2.2.2.1 bt287.2.2.2.2.2).bind fun t295 => (if t295 = true then ((laws_toIntA2S.f k x1).bind fun t296 => ((laws_eqIntA2S.f k x9 t296).bind fun t299 => (if t299 = true then ((laws_markProcess.f k x279000 x279001 x279002 x279003 x279004 x279005 1).bind fun bt300 => ((laws_markIntA2S.f k x9 bt300.1).bind fun bt302 => (if bt302.1 < 0 then (laws_FnExactPolicyWorth.j1 k x1 x6 x7 x10 true x253000 x253001 x253002 x253003 x253004 x253005) else ((laws_eqIntS.f k x10 x6).bind fun t304 => (if t304 = true then (laws_FnExactPolicyWorth.j1 k x1 x6 x7 x10 (x11 != x7) x253000 x253001 x253002 x253003 x253004 x253005) else (laws_FnExactPolicyWorth.j1 k x1 x6 x7 x10 true x253000 x253001 x253002 x253003 x253004 x253005)))))) else (some false)))) else (some false))))
def laws_FnExactPolicyWorth.j1 : Nat → List (S72) → List Int → Bool → List Int → Bool → Int → List Int → Int → Int → Int → Int → Option (Bool)
 | 0, _, _, _, _, _, _, _, _, _, _, _ => none
 | k + 1, x1, x6, x7, x10, x82, x253000, x253001, x253002, x253003, x253004, x253005 => if x82 = true then (some false) else ((laws_markIntS.f k x10 1).bind fun bt305 => ((laws_heldIntS.f k bt305.2 1).bind fun t307 => (if t307 < 0 then (some false) else (if t307 = bt305.1 then ((laws_toProcess.f k x253000 x253001 x253002 x253003 x253004 x253005).bind fun bt308 => ((laws_toIntA2S.f k x1).bind fun t316 => ((impl_PolicyWorth.f k bt308.1 bt308.2.1 bt308.2.2.1 bt308.2.2.2.1 bt308.2.2.2.2.1 bt308.2.2.2.2.2 t316).bind fun bt319 => ((laws_eqIntS.f k bt319.1 x6).bind fun t323 => (if t323 = true then (laws_FnExactPolicyWorth.j2 k bt305.2 bt305.1 (bt319.2 != x7)) else (laws_FnExactPolicyWorth.j2 k bt305.2 bt305.1 true)))))) else (some false)))))
def laws_FnExactPolicyWorth.j2 : Nat → List Int → Int → Bool → Option (Bool)
 | 0, _, _, _ => none
 | k + 1, x10, x13, x110 => if x110 = true then (some false) else ((laws_heldIntS.f k x10 1).bind fun t324 => (if t324 < 0 then (some false) else (if t324 = x13 then (some true) else (some false))))
end
def laws_FnExactPolicyWorth.f (k : Nat) (a0_0 : Int) (l0_1 : List Int) (a0_2 : Int) (a0_3 : Int) (a0_4 : Int) (a0_5 : Int) (l1 : List (S72)) : Option (Bool) := (laws_szProcess.f a0_0 l0_1 a0_2 a0_3 a0_4 a0_5 1048576).bind fun t253 => (if t253 < 0 then (some true) else ((laws_szIntA2S.f l1 t253).bind fun t254 => (if t254 < 0 then (some true) else ((laws_toProcess.f k a0_0 l0_1 a0_2 a0_3 a0_4 a0_5).bind fun bt255 => ((laws_toIntA2S.f k l1).bind fun t263 => ((spec_PolicyWorth.f k bt255.1 bt255.2.1 bt255.2.2.1 bt255.2.2.2.1 bt255.2.2.2.2.1 bt255.2.2.2.2.2 t263).bind fun bt266 => ((laws_toProcess.f k a0_0 l0_1 a0_2 a0_3 a0_4 a0_5).bind fun bt270 => ((laws_toIntA2S.f k l1).bind fun t279 => ((impl_PolicyWorth.f k bt270.1 bt270.2.1 bt270.2.2.1 bt270.2.2.2.1 bt270.2.2.2.2.1 bt270.2.2.2.2.2 t279).bind fun bt282 => ((laws_eqIntS.f k bt282.1 bt266.1).bind fun t286 => (if t286 = true then (laws_FnExactPolicyWorth.j0 k l1 bt266.1 bt266.2 t279 bt282.1 bt282.2 (bt282.2 != bt266.2) a0_0 l0_1 a0_2 a0_3 a0_4 a0_5 bt270.1 bt270.2.1 bt270.2.2.1 bt270.2.2.2.1 bt270.2.2.2.2.1 bt270.2.2.2.2.2) else (laws_FnExactPolicyWorth.j0 k l1 bt266.1 bt266.2 t279 bt282.1 bt282.2 true a0_0 l0_1 a0_2 a0_3 a0_4 a0_5 bt270.1 bt270.2.1 bt270.2.2.1 bt270.2.2.2.1 bt270.2.2.2.2.1 bt270.2.2.2.2.2))))))))))))
theorem laws_FnExactPolicyWorth.mono_l : ∀ k, (∀ y0 y1 y2 y3 y4 y5 y6 y7 y8 y9 y10 y11 y12 y13 y14 y15 y16 y17 y18, LeO (laws_FnExactPolicyWorth.j0 k y0 y1 y2 y3 y4 y5 y6 y7 y8 y9 y10 y11 y12 y13 y14 y15 y16 y17 y18) (laws_FnExactPolicyWorth.j0 (k + 1) y0 y1 y2 y3 y4 y5 y6 y7 y8 y9 y10 y11 y12 y13 y14 y15 y16 y17 y18)) ∧ (∀ y0 y1 y2 y3 y4 y5 y6 y7 y8 y9 y10, LeO (laws_FnExactPolicyWorth.j1 k y0 y1 y2 y3 y4 y5 y6 y7 y8 y9 y10) (laws_FnExactPolicyWorth.j1 (k + 1) y0 y1 y2 y3 y4 y5 y6 y7 y8 y9 y10)) ∧ (∀ y0 y1 y2, LeO (laws_FnExactPolicyWorth.j2 k y0 y1 y2) (laws_FnExactPolicyWorth.j2 (k + 1) y0 y1 y2))
 | 0 => ⟨fun _ _ _ _ _ _ _ _ _ _ _ _ _ _ _ _ _ _ _ r h => by simp [laws_FnExactPolicyWorth.j0] at h, fun _ _ _ _ _ _ _ _ _ _ _ r h => by simp [laws_FnExactPolicyWorth.j1] at h, fun _ _ _ r h => by simp [laws_FnExactPolicyWorth.j2] at h⟩
 | k + 1 => by
  obtain ⟨ih0, ih1, ih2⟩ := laws_FnExactPolicyWorth.mono_l k
  refine ⟨?_, ?_, ?_⟩ <;> intros <;> (first | unfold laws_FnExactPolicyWorth.j0 | unfold laws_FnExactPolicyWorth.j1 | unfold laws_FnExactPolicyWorth.j2) <;> repeat' first
    | (with_reducible exact ih0 _ _ _ _ _ _ _ _ _ _ _ _ _ _ _ _ _ _ _)
    | (with_reducible exact ih1 _ _ _ _ _ _ _ _ _ _ _)
    | (with_reducible exact ih2 _ _ _)
    | (with_reducible exact impl_PolicyWorth.mono _ _ _ _ _ _ _ _)
    | (with_reducible exact laws_eqIntA2S.mono _ _ _)
    | (with_reducible exact laws_eqIntS.mono _ _ _)
    | (with_reducible exact laws_eqProcess.mono _ _ _ _ _ _ _ _ _ _ _ _ _)
    | (with_reducible exact laws_heldIntS.mono _ _ _)
    | (with_reducible exact laws_markIntA2S.mono _ _ _)
    | (with_reducible exact laws_markIntS.mono _ _ _)
    | (with_reducible exact laws_markProcess.mono _ _ _ _ _ _ _ _)
    | (with_reducible exact laws_toIntA2S.mono _ _)
    | (with_reducible exact laws_toProcess.mono _ _ _ _ _ _ _)
    | (with_reducible exact spec_PolicyWorth.mono _ _ _ _ _ _ _ _)
    | (with_reducible exact LeO.refl _)
    | (with_reducible exact LeO.none _)
    | (with_reducible refine LeO.ite ?_ ?_)
    | (with_reducible refine LeO.bind ?_ (fun _ => ?_))
    | exact ih0 _ _ _ _ _ _ _ _ _ _ _ _ _ _ _ _ _ _ _
    | exact ih1 _ _ _ _ _ _ _ _ _ _ _
    | exact ih2 _ _ _
    | exact impl_PolicyWorth.mono _ _ _ _ _ _ _ _
    | exact laws_eqIntA2S.mono _ _ _
    | exact laws_eqIntS.mono _ _ _
    | exact laws_eqProcess.mono _ _ _ _ _ _ _ _ _ _ _ _ _
    | exact laws_heldIntS.mono _ _ _
    | exact laws_markIntA2S.mono _ _ _
    | exact laws_markIntS.mono _ _ _
    | exact laws_markProcess.mono _ _ _ _ _ _ _ _
    | exact laws_toIntA2S.mono _ _
    | exact laws_toProcess.mono _ _ _ _ _ _ _
    | exact spec_PolicyWorth.mono _ _ _ _ _ _ _ _
    | exact LeO.none _
    | refine LeO.ite ?_ ?_
    | refine LeO.bind ?_ (fun _ => ?_)
theorem laws_FnExactPolicyWorth.mono : ∀ a0 a1 a2 a3 a4 a5 a6 k, LeO (laws_FnExactPolicyWorth.f k a0 a1 a2 a3 a4 a5 a6) (laws_FnExactPolicyWorth.f (k + 1) a0 a1 a2 a3 a4 a5 a6) := by
 intro a0 a1 a2 a3 a4 a5 a6 k
 obtain ⟨ih0, ih1, ih2⟩ := laws_FnExactPolicyWorth.mono_l k
 unfold laws_FnExactPolicyWorth.f
 repeat' first
   | (with_reducible exact ih0 _ _ _ _ _ _ _ _ _ _ _ _ _ _ _ _ _ _ _)
   | (with_reducible exact ih1 _ _ _ _ _ _ _ _ _ _ _)
   | (with_reducible exact ih2 _ _ _)
   | (with_reducible exact impl_PolicyWorth.mono _ _ _ _ _ _ _ _)
   | (with_reducible exact laws_eqIntA2S.mono _ _ _)
   | (with_reducible exact laws_eqIntS.mono _ _ _)
   | (with_reducible exact laws_eqProcess.mono _ _ _ _ _ _ _ _ _ _ _ _ _)
   | (with_reducible exact laws_heldIntS.mono _ _ _)
   | (with_reducible exact laws_markIntA2S.mono _ _ _)
   | (with_reducible exact laws_markIntS.mono _ _ _)
   | (with_reducible exact laws_markProcess.mono _ _ _ _ _ _ _ _)
   | (with_reducible exact laws_toIntA2S.mono _ _)
   | (with_reducible exact laws_toProcess.mono _ _ _ _ _ _ _)
   | (with_reducible exact spec_PolicyWorth.mono _ _ _ _ _ _ _ _)
   | (with_reducible exact LeO.refl _)
   | (with_reducible exact LeO.none _)
   | (with_reducible refine LeO.ite ?_ ?_)
   | (with_reducible refine LeO.bind ?_ (fun _ => ?_))
   | exact ih0 _ _ _ _ _ _ _ _ _ _ _ _ _ _ _ _ _ _ _
   | exact ih1 _ _ _ _ _ _ _ _ _ _ _
   | exact ih2 _ _ _
   | exact impl_PolicyWorth.mono _ _ _ _ _ _ _ _
   | exact laws_eqIntA2S.mono _ _ _
   | exact laws_eqIntS.mono _ _ _
   | exact laws_eqProcess.mono _ _ _ _ _ _ _ _ _ _ _ _ _
   | exact laws_heldIntS.mono _ _ _
   | exact laws_markIntA2S.mono _ _ _
   | exact laws_markIntS.mono _ _ _
   | exact laws_markProcess.mono _ _ _ _ _ _ _ _
   | exact laws_toIntA2S.mono _ _
   | exact laws_toProcess.mono _ _ _ _ _ _ _
   | exact spec_PolicyWorth.mono _ _ _ _ _ _ _ _
   | exact LeO.none _
   | refine LeO.ite ?_ ?_
   | refine LeO.bind ?_ (fun _ => ?_)
set_option maxHeartbeats 8000000 in
set_option maxRecDepth 100000 in
theorem laws_FnExactPolicyWorth.calls (k : Nat) (a0_0 : Int) (A0_1 : Option Addr) (c0_1 : Nat) (l0_1 : List Int) (a0_2 : Int) (a0_3 : Int) (a0_4 : Int) (a0_5 : Int) (A1 : Option Addr) (c1 : Nat) (l1 : List (S72)) (r : Bool) (w : World) (hr0_1 : Kd.C (Kd.int .i64) w A0_1 l0_1.length l0_1) (hc0_1 : l0_1.length ≤ c0_1) (hr1 : Kd.C k72 w A1 l1.length l1) (hc1 : l1.length ≤ c1) (h : laws_FnExactPolicyWorth.f k a0_0 l0_1 a0_2 a0_3 a0_4 a0_5 l1 = some r) :
  Calls Try.prog 9 #[.agg #[.int .i64 a0_0, .slice A0_1 l0_1.length c0_1, .int .i64 a0_2, .int .i64 a0_3, .int .i64 a0_4, .int .i64 a0_5], .slice A1 l1.length c1] w fun e w' => e = .returned (.bool r) ∧ Below w.heap.size w w' := by
 have hu24 := Try.underlying24
 have hu30 := Try.underlying30
 have HR0_1 := z13_A hr0_1
 have HC0_1 := z13_A hc0_1
 clear hr0_1 hc0_1
 have HR1 := z13_A hr1
 have HC1 := z13_A hc1
 clear hr1 hc1
 have HB := z13_A (Below.refl w.heap.size w)
 have H : ((laws_szProcess.f a0_0 l0_1 a0_2 a0_3 a0_4 a0_5 1048576).bind fun t253 => (if t253 < 0 then (some true) else ((laws_szIntA2S.f l1 t253).bind fun t254 => (if t254 < 0 then (some true) else ((laws_toProcess.f k a0_0 l0_1 a0_2 a0_3 a0_4 a0_5).bind fun bt255 => ((laws_toIntA2S.f k l1).bind fun t263 => ((spec_PolicyWorth.f k bt255.1 bt255.2.1 bt255.2.2.1 bt255.2.2.2.1 bt255.2.2.2.2.1 bt255.2.2.2.2.2 t263).bind fun bt266 => ((laws_toProcess.f k a0_0 l0_1 a0_2 a0_3 a0_4 a0_5).bind fun bt270 => ((laws_toIntA2S.f k l1).bind fun t279 => ((impl_PolicyWorth.f k bt270.1 bt270.2.1 bt270.2.2.1 bt270.2.2.2.1 bt270.2.2.2.2.1 bt270.2.2.2.2.2 t279).bind fun bt282 => ((laws_eqIntS.f k bt282.1 bt266.1).bind fun t286 => (if t286 = true then (laws_FnExactPolicyWorth.j0 k l1 bt266.1 bt266.2 t279 bt282.1 bt282.2 (bt282.2 != bt266.2) a0_0 l0_1 a0_2 a0_3 a0_4 a0_5 bt270.1 bt270.2.1 bt270.2.2.1 bt270.2.2.2.1 bt270.2.2.2.2.1 bt270.2.2.2.2.2) else (laws_FnExactPolicyWorth.j0 k l1 bt266.1 bt266.2 t279 bt282.1 bt282.2 true a0_0 l0_1 a0_2 a0_3 a0_4 a0_5 bt270.1 bt270.2.1 bt270.2.2.1 bt270.2.2.2.1 bt270.2.2.2.2.1 bt270.2.2.2.2.2))))))))))))) = some r := h
 clear h
 replace H := Option.bind_eq_some_iff.mp H
 obtain ⟨t253, A30, H⟩ := H
 (try dsimp only at H)
 have A3 := z13_A A30
 clear A30
 by_cases c4 : t253 < 0
 ·rw [if_pos c4] at H
  have c4b0 : decide (t253 < 0) = true := decide_eq_true c4
  clear c4
  obtain rfl := Option.some.inj H
  go_enter Try.func9, Try.ntmps9
  go_wp2_with (first | ((with_reducible refine gate_dst (N := 2) rfl ?_); refine box_event ?hg (N := 2) ?hd (cs := #[.int .i64 a0_0, .slice A0_1 l0_1.length c0_1, .int .i64 a0_2, .int .i64 a0_3, .int .i64 a0_4, .int .i64 a0_5]) (t := 24) ?hr ?_; (case hd => rfl); (case hg => rfl); (case hr => first | (go_simp; done) | (go_simp; rfl)); intro gb252 hg w5 hbox hb; have n0_ := z13_A (below_step z13_10 hb); have n1_ := z13_A (hbox); have n2_ := z13_A ((z13_30 : w.heap.size ≤ gb252)); have n3_ := z13_A ((z13_30 : w.heap.size ≤ gb252)); clear HB; revert n0_ n1_ n2_ n3_; intro HB BK252 GW252 GE252; clear hb hbox hg; have hcz6_0 : w5.cell? ⟨gb252, 0, none⟩ = some (.int .i64 a0_0) := bcz BK252.out 0 rfl; have hcz6_1 : w5.cell? ⟨gb252, 1, none⟩ = some (.slice A0_1 l0_1.length c0_1) := bcz BK252.out 1 rfl; have hcz6_2 : w5.cell? ⟨gb252, 2, none⟩ = some (.int .i64 a0_2) := bcz BK252.out 2 rfl; have hcz6_3 : w5.cell? ⟨gb252, 3, none⟩ = some (.int .i64 a0_3) := bcz BK252.out 3 rfl; have hcz6_4 : w5.cell? ⟨gb252, 4, none⟩ = some (.int .i64 a0_4) := bcz BK252.out 4 rfl; have hcz6_5 : w5.cell? ⟨gb252, 5, none⟩ = some (.int .i64 a0_5) := bcz BK252.out 5 rfl; obtain ⟨hfz6_0, hfz6_1, hfz6_2, hfz6_3⟩ := F4z (blk_frozen BK252.out); have hfz6_4 := blk_frozen BK252.out 4; have hfz6_5 := blk_frozen BK252.out 5) | ((with_reducible refine gate_callee (f := 13) rfl ?_); refine goesL_ (some 19) rfl rfl Try.func13 z13_13 rfl #[.agg #[.int .i64 a0_0, .slice A0_1 l0_1.length c0_1, .int .i64 a0_2, .int .i64 a0_3, .int .i64 a0_4, .int .i64 a0_5], .int .i64 1048576] rfl z13_2 ?_; (with_reducible refine (laws_szProcess.calls a0_0 _ _ l0_1 a0_2 a0_3 a0_4 a0_5 1048576 t253 _ ?side1 ?side2 A3.out).mono ?_); (case side1 => have zh := (Kd.C_below HR0_1.out HB.out); exact z13_C); (case side2 => exact HC0_1.out); rintro e w7 ⟨rfl, hb⟩; refine ⟨_, rfl, ?_⟩; have n0_ := z13_A (blk_below (g := gb252) (o := .cells #[.int .i64 a0_0, .slice A0_1 l0_1.length c0_1, .int .i64 a0_2, .int .i64 a0_3, .int .i64 a0_4, .int .i64 a0_5] 24 (0, 0)) z13_3 hb); have n1_ := z13_A (below_step z13_5 hb); clear BK252 HB; revert n0_ n1_; intro BK252 HB; (try clear hb); (try clear hb2); (try clear hk); (try clear hi)))
  go_ret
  exact ⟨z13_11, z13_5⟩
 ·rw [if_neg c4] at H
  have c4b0 : decide (t253 < 0) = false := decide_eq_false c4
  clear c4
  replace H := Option.bind_eq_some_iff.mp H
  obtain ⟨t254, A80, H⟩ := H
  (try dsimp only at H)
  have A8 := z13_A A80
  clear A80
  by_cases c9 : t254 < 0
  ·rw [if_pos c9] at H
   have c9b0 : decide (t254 < 0) = true := decide_eq_true c9
   clear c9
   obtain rfl := Option.some.inj H
   go_enter Try.func9, Try.ntmps9
   go_wp2_with (first | ((with_reducible refine gate_dst (N := 2) rfl ?_); refine box_event ?hg (N := 2) ?hd (cs := #[.int .i64 a0_0, .slice A0_1 l0_1.length c0_1, .int .i64 a0_2, .int .i64 a0_3, .int .i64 a0_4, .int .i64 a0_5]) (t := 24) ?hr ?_; (case hd => rfl); (case hg => rfl); (case hr => first | (go_simp; done) | (go_simp; rfl)); intro gb252 hg w10 hbox hb; have n0_ := z13_A (below_step z13_10 hb); have n1_ := z13_A (hbox); have n2_ := z13_A ((z13_30 : w.heap.size ≤ gb252)); have n3_ := z13_A ((z13_30 : w.heap.size ≤ gb252)); clear HB; revert n0_ n1_ n2_ n3_; intro HB BK252 GW252 GE252; clear hb hbox hg; have hcz11_0 : w10.cell? ⟨gb252, 0, none⟩ = some (.int .i64 a0_0) := bcz BK252.out 0 rfl; have hcz11_1 : w10.cell? ⟨gb252, 1, none⟩ = some (.slice A0_1 l0_1.length c0_1) := bcz BK252.out 1 rfl; have hcz11_2 : w10.cell? ⟨gb252, 2, none⟩ = some (.int .i64 a0_2) := bcz BK252.out 2 rfl; have hcz11_3 : w10.cell? ⟨gb252, 3, none⟩ = some (.int .i64 a0_3) := bcz BK252.out 3 rfl; have hcz11_4 : w10.cell? ⟨gb252, 4, none⟩ = some (.int .i64 a0_4) := bcz BK252.out 4 rfl; have hcz11_5 : w10.cell? ⟨gb252, 5, none⟩ = some (.int .i64 a0_5) := bcz BK252.out 5 rfl; obtain ⟨hfz11_0, hfz11_1, hfz11_2, hfz11_3⟩ := F4z (blk_frozen BK252.out); have hfz11_4 := blk_frozen BK252.out 4; have hfz11_5 := blk_frozen BK252.out 5) | ((with_reducible refine gate_callee (f := 13) rfl ?_); refine goesL_ (some 19) rfl rfl Try.func13 z13_13 rfl #[.agg #[.int .i64 a0_0, .slice A0_1 l0_1.length c0_1, .int .i64 a0_2, .int .i64 a0_3, .int .i64 a0_4, .int .i64 a0_5], .int .i64 1048576] rfl z13_2 ?_; (with_reducible refine (laws_szProcess.calls a0_0 _ _ l0_1 a0_2 a0_3 a0_4 a0_5 1048576 t253 _ ?side1 ?side2 A3.out).mono ?_); (case side1 => have zh := (Kd.C_below HR0_1.out HB.out); exact z13_C); (case side2 => exact HC0_1.out); rintro e w12 ⟨rfl, hb⟩; refine ⟨_, rfl, ?_⟩; have n0_ := z13_A (blk_below (g := gb252) (o := .cells #[.int .i64 a0_0, .slice A0_1 l0_1.length c0_1, .int .i64 a0_2, .int .i64 a0_3, .int .i64 a0_4, .int .i64 a0_5] 24 (0, 0)) z13_3 hb); have n1_ := z13_A (below_step z13_5 hb); clear BK252 HB; revert n0_ n1_; intro BK252 HB; (try clear hb); (try clear hb2); (try clear hk); (try clear hi)) | ((with_reducible refine gate_callee (f := 14) rfl ?_); refine goesL_ (some 24) rfl rfl Try.func14 z13_13 rfl #[.slice A1 l1.length c1, .int .i64 t253] rfl z13_2 ?_; (with_reducible refine (laws_szIntA2S.calls _ _ l1 t253 t254 _ ?side1 ?side2 A8.out).mono ?_); (case side1 => have zh := (Kd.C_below HR1.out HB.out); exact z13_C); (case side2 => exact HC1.out); rintro e w' ⟨rfl, ⟨nd, rfl⟩⟩; refine ⟨_, rfl, ?_⟩))
   go_ret
   exact ⟨z13_11, z13_5⟩
  ·rw [if_neg c9] at H
   have c9b0 : decide (t254 < 0) = false := decide_eq_false c9
   clear c9
   replace H := Option.bind_eq_some_iff.mp H
   obtain ⟨⟨t255, t256, t259, t260, t261, t262⟩, A130, H⟩ := H
   (try dsimp only at H)
   have A13 := z13_A A130
   clear A130
   replace H := Option.bind_eq_some_iff.mp H
   obtain ⟨t263, A140, H⟩ := H
   (try dsimp only at H)
   have A14 := z13_A A140
   clear A140
   replace H := Option.bind_eq_some_iff.mp H
   obtain ⟨⟨t266, t269⟩, A150, H⟩ := H
   (try dsimp only at H)
   have A15 := z13_A A150
   clear A150
   replace H := Option.bind_eq_some_iff.mp H
   obtain ⟨⟨t270, t271, t274, t275, t276, t277⟩, A160, H⟩ := H
   (try dsimp only at H)
   have A16 := z13_A A160
   clear A160
   replace H := Option.bind_eq_some_iff.mp H
   obtain ⟨t279, A170, H⟩ := H
   (try dsimp only at H)
   have A17 := z13_A A170
   clear A170
   replace H := Option.bind_eq_some_iff.mp H
   obtain ⟨⟨t282, t285⟩, A180, H⟩ := H
   (try dsimp only at H)
   have A18 := z13_A A180
   clear A180
   have HC19 := z13_A H
   clear H
   go_enter Try.func9, Try.ntmps9
   go_upto_region 12 with (first | ((with_reducible refine gate_dst (N := 2) rfl ?_); refine box_event ?hg (N := 2) ?hd (cs := #[.int .i64 a0_0, .slice A0_1 l0_1.length c0_1, .int .i64 a0_2, .int .i64 a0_3, .int .i64 a0_4, .int .i64 a0_5]) (t := 24) ?hr ?_; (case hd => rfl); (case hg => rfl); (case hr => first | (go_simp; done) | (go_simp; rfl)); intro gb252 hg w20 hbox hb; have n0_ := z13_A (below_step z13_10 hb); have n1_ := z13_A (hbox); have n2_ := z13_A ((z13_30 : w.heap.size ≤ gb252)); have n3_ := z13_A ((z13_30 : w.heap.size ≤ gb252)); clear HB; revert n0_ n1_ n2_ n3_; intro HB BK252 GW252 GE252; clear hb hbox hg; have hcz21_0 : w20.cell? ⟨gb252, 0, none⟩ = some (.int .i64 a0_0) := bcz BK252.out 0 rfl; have hcz21_1 : w20.cell? ⟨gb252, 1, none⟩ = some (.slice A0_1 l0_1.length c0_1) := bcz BK252.out 1 rfl; have hcz21_2 : w20.cell? ⟨gb252, 2, none⟩ = some (.int .i64 a0_2) := bcz BK252.out 2 rfl; have hcz21_3 : w20.cell? ⟨gb252, 3, none⟩ = some (.int .i64 a0_3) := bcz BK252.out 3 rfl; have hcz21_4 : w20.cell? ⟨gb252, 4, none⟩ = some (.int .i64 a0_4) := bcz BK252.out 4 rfl; have hcz21_5 : w20.cell? ⟨gb252, 5, none⟩ = some (.int .i64 a0_5) := bcz BK252.out 5 rfl; obtain ⟨hfz21_0, hfz21_1, hfz21_2, hfz21_3⟩ := F4z (blk_frozen BK252.out); have hfz21_4 := blk_frozen BK252.out 4; have hfz21_5 := blk_frozen BK252.out 5) | ((with_reducible refine gate_callee (f := 13) rfl ?_); refine goesL_ (some 19) rfl rfl Try.func13 z13_13 rfl #[.agg #[.int .i64 a0_0, .slice A0_1 l0_1.length c0_1, .int .i64 a0_2, .int .i64 a0_3, .int .i64 a0_4, .int .i64 a0_5], .int .i64 1048576] rfl z13_2 ?_; (with_reducible refine (laws_szProcess.calls a0_0 _ _ l0_1 a0_2 a0_3 a0_4 a0_5 1048576 t253 _ ?side1 ?side2 A3.out).mono ?_); (case side1 => have zh := (Kd.C_below HR0_1.out HB.out); exact z13_C); (case side2 => exact HC0_1.out); rintro e w22 ⟨rfl, hb⟩; refine ⟨_, rfl, ?_⟩; have n0_ := z13_A (blk_below (g := gb252) (o := .cells #[.int .i64 a0_0, .slice A0_1 l0_1.length c0_1, .int .i64 a0_2, .int .i64 a0_3, .int .i64 a0_4, .int .i64 a0_5] 24 (0, 0)) z13_3 hb); have n1_ := z13_A (below_step z13_5 hb); clear BK252 HB; revert n0_ n1_; intro BK252 HB; (try clear hb); (try clear hb2); (try clear hk); (try clear hi)) | ((with_reducible refine gate_callee (f := 14) rfl ?_); refine goesL_ (some 24) rfl rfl Try.func14 z13_13 rfl #[.slice A1 l1.length c1, .int .i64 t253] rfl z13_2 ?_; (with_reducible refine (laws_szIntA2S.calls _ _ l1 t253 t254 _ ?side1 ?side2 A8.out).mono ?_); (case side1 => have zh := (Kd.C_below HR1.out HB.out); exact z13_C); (case side2 => exact HC1.out); rintro e w' ⟨rfl, ⟨nd, rfl⟩⟩; refine ⟨_, rfl, ?_⟩; (try (rw [drewN_self w22]; generalize hq_ : World.drewN w22 _ = w22; have n0_ : Aside0 (w22.heap[gb252]? = some (.cells #[.int .i64 a0_0, .slice A0_1 l0_1.length c0_1, .int .i64 a0_2, .int .i64 a0_3, .int .i64 a0_4, .int .i64 a0_5] 24 (0, 0))) := ⟨by rw [← hq_]; exact z13_3⟩; have n1_ : Aside0 (Below w.heap.size w w22) := ⟨by rw [← hq_]; exact z13_5⟩; clear BK252 HB hq_; revert n0_ n1_; intro BK252 HB)); have hcz23_0 : w22.cell? ⟨gb252, 0, none⟩ = some (.int .i64 a0_0) := bcz BK252.out 0 rfl; have hcz23_1 : w22.cell? ⟨gb252, 1, none⟩ = some (.slice A0_1 l0_1.length c0_1) := bcz BK252.out 1 rfl; have hcz23_2 : w22.cell? ⟨gb252, 2, none⟩ = some (.int .i64 a0_2) := bcz BK252.out 2 rfl; have hcz23_3 : w22.cell? ⟨gb252, 3, none⟩ = some (.int .i64 a0_3) := bcz BK252.out 3 rfl; have hcz23_4 : w22.cell? ⟨gb252, 4, none⟩ = some (.int .i64 a0_4) := bcz BK252.out 4 rfl; have hcz23_5 : w22.cell? ⟨gb252, 5, none⟩ = some (.int .i64 a0_5) := bcz BK252.out 5 rfl; obtain ⟨hfz23_0, hfz23_1, hfz23_2, hfz23_3⟩ := F4z (blk_frozen BK252.out); have hfz23_4 := blk_frozen BK252.out 4; have hfz23_5 := blk_frozen BK252.out 5) | ((with_reducible refine gate_callee (f := 16) rfl ?_); refine goesL_ (some 29) rfl rfl Try.func16 z13_13 rfl #[.agg #[.int .i64 a0_0, .slice A0_1 l0_1.length c0_1, .int .i64 a0_2, .int .i64 a0_3, .int .i64 a0_4, .int .i64 a0_5]] rfl z13_2 ?_; (with_reducible refine (laws_toProcess.calls k a0_0 _ _ l0_1 a0_2 a0_3 a0_4 a0_5 t255 t256 t259 t260 t261 t262 _ ?side1 ?side2 A13.out).mono ?_); (case side1 => have zh := (Kd.C_below HR0_1.out HB.out); exact z13_C); (case side2 => exact HC0_1.out); rintro e w24 ⟨v257, rfl, ho0, hb⟩; refine ⟨_, rfl, ?_⟩; have n0_ := z13_A (Kd.R_lower ho0 (below_size z13_5)); have n1_ := z13_A (blk_below (g := gb252) (o := .cells #[.int .i64 a0_0, .slice A0_1 l0_1.length c0_1, .int .i64 a0_2, .int .i64 a0_3, .int .i64 a0_4, .int .i64 a0_5] 24 (0, 0)) z13_3 hb); have n2_ := z13_A (below_step z13_5 hb); clear BK252 HB; revert n0_ n1_ n2_; intro HO258 BK252 HB; (try clear hb); (try clear hb2); (try clear hk); (try clear hi); (try clear ho0)) | ((with_reducible refine gate_callee (f := 17) rfl ?_); refine goesL_ (some 31) rfl rfl Try.func17 z13_13 rfl #[.slice A1 l1.length c1] rfl z13_2 ?_; (with_reducible refine (laws_toIntA2S.calls k _ _ l1 t263 _ ?side1 ?side2 A14.out).mono ?_); (case side1 => have zh := (Kd.C_below HR1.out HB.out); exact z13_C); (case side2 => exact HC1.out); rintro e w25 ⟨v264, rfl, ho0, hb⟩; refine ⟨_, rfl, ?_⟩; have n0_ := z13_A (Kd.R_below z13_12 hb); have n1_ := z13_A (Kd.R_lower ho0 (below_size z13_5)); have n2_ := z13_A (blk_below (g := gb252) (o := .cells #[.int .i64 a0_0, .slice A0_1 l0_1.length c0_1, .int .i64 a0_2, .int .i64 a0_3, .int .i64 a0_4, .int .i64 a0_5] 24 (0, 0)) z13_3 hb); have n3_ := z13_A (below_step z13_5 hb); clear HO258 BK252 HB; revert n0_ n1_ n2_ n3_; intro HO258 HO265 BK252 HB; (try clear hb); (try clear hb2); (try clear hk); (try clear hi); (try clear ho0); obtain ⟨Ao26, co26, eo26⟩ := Kd.R_slice HO258.out; subst eo26; obtain ⟨Ao27, co27, eo27⟩ := Kd.R_slice HO265.out; subst eo27) | ((with_reducible refine gate_callee (f := 42) rfl ?_); refine goesL_ (some 32) rfl rfl Try.func42 z13_13 rfl #[.agg #[.int .i64 t255, .slice Ao26 t256.length co26, .int .i64 t259, .int .i64 t260, .int .i64 t261, .int .i64 t262], .slice Ao27 t263.length co27] rfl z13_2 ?_; (with_reducible refine (spec_PolicyWorth.calls k t255 _ _ t256 t259 t260 t261 t262 _ _ t263 t266 t269 _ ?side1 ?side2 ?side3 ?side4 A15.out).mono ?_); (case side1 => have zh := (Kd.R_reads' HO258.out).2.2; exact z13_C); (case side2 => exact (Kd.R_reads' HO258.out).2.1); (case side3 => have zh := (Kd.R_reads' HO265.out).2.2; exact z13_C); (case side4 => exact (Kd.R_reads' HO265.out).2.1); rintro e w28 ⟨v267, rfl, ho0, hb⟩; refine ⟨_, rfl, ?_⟩; have n0_ := z13_A (Kd.R_elder' z13_12 (Kd.R_base ho0) hb); have n1_ := z13_A (Kd.R_below z13_19 hb); have n2_ := z13_A (Kd.R_lower (Kd.R_new' ho0 (Kd.R_lt z13_12)) (below_size z13_5)); have n3_ := z13_A (blk_below (g := gb252) (o := .cells #[.int .i64 a0_0, .slice A0_1 l0_1.length c0_1, .int .i64 a0_2, .int .i64 a0_3, .int .i64 a0_4, .int .i64 a0_5] 24 (0, 0)) z13_3 hb); have n4_ := z13_A (below_step z13_5 hb); clear HO258 HO265 BK252 HB; revert n0_ n1_ n2_ n3_ n4_; intro HO258 HO265 HO268 BK252 HB; (try clear hb); (try clear hb2); (try clear hk); (try clear hi); (try clear ho0); have hcz29_0 : w28.cell? ⟨gb252, 0, none⟩ = some (.int .i64 a0_0) := bcz BK252.out 0 rfl; have hcz29_1 : w28.cell? ⟨gb252, 1, none⟩ = some (.slice A0_1 l0_1.length c0_1) := bcz BK252.out 1 rfl; have hcz29_2 : w28.cell? ⟨gb252, 2, none⟩ = some (.int .i64 a0_2) := bcz BK252.out 2 rfl; have hcz29_3 : w28.cell? ⟨gb252, 3, none⟩ = some (.int .i64 a0_3) := bcz BK252.out 3 rfl; have hcz29_4 : w28.cell? ⟨gb252, 4, none⟩ = some (.int .i64 a0_4) := bcz BK252.out 4 rfl; have hcz29_5 : w28.cell? ⟨gb252, 5, none⟩ = some (.int .i64 a0_5) := bcz BK252.out 5 rfl; obtain ⟨hfz29_0, hfz29_1, hfz29_2, hfz29_3⟩ := F4z (blk_frozen BK252.out); have hfz29_4 := blk_frozen BK252.out 4; have hfz29_5 := blk_frozen BK252.out 5) | ((with_reducible refine gate_callee (f := 16) rfl ?_); refine goesL_ (some 36) rfl rfl Try.func16 z13_13 rfl #[.agg #[.int .i64 a0_0, .slice A0_1 l0_1.length c0_1, .int .i64 a0_2, .int .i64 a0_3, .int .i64 a0_4, .int .i64 a0_5]] rfl z13_2 ?_; (with_reducible refine (laws_toProcess.calls k a0_0 _ _ l0_1 a0_2 a0_3 a0_4 a0_5 t270 t271 t274 t275 t276 t277 _ ?side1 ?side2 A16.out).mono ?_); (case side1 => have zh := (Kd.C_below HR0_1.out HB.out); exact z13_C); (case side2 => exact HC0_1.out); rintro e w30 ⟨v272, rfl, ho0, hb⟩; refine ⟨_, rfl, ?_⟩; have n0_ := z13_A (Kd.R_elder' z13_12 (Kd.R_base ho0) hb); have n1_ := z13_A (Kd.R_below z13_19 hb); have n2_ := z13_A (Kd.R_elder' z13_18 (Kd.R_base ho0) hb); have n3_ := z13_A (Kd.R_lower (Kd.R_new' (Kd.R_new' ho0 (Kd.R_lt z13_12)) (Kd.R_lt z13_18)) (below_size z13_5)); have n4_ := z13_A (blk_below (g := gb252) (o := .cells #[.int .i64 a0_0, .slice A0_1 l0_1.length c0_1, .int .i64 a0_2, .int .i64 a0_3, .int .i64 a0_4, .int .i64 a0_5] 24 (0, 0)) z13_3 hb); have n5_ := z13_A (below_step z13_5 hb); clear HO258 HO265 HO268 BK252 HB; revert n0_ n1_ n2_ n3_ n4_ n5_; intro HO258 HO265 HO268 HO273 BK252 HB; (try clear hb); (try clear hb2); (try clear hk); (try clear hi); (try clear ho0)) | ((with_reducible refine gate_dst (N := 8) rfl ?_); refine box_event ?hg (N := 8) ?hd (cs := #[.int .i64 0, .slice none 0 0, .int .i64 0, .int .i64 0, .int .i64 0, .int .i64 0]) (t := 30) ?hr ?_; (case hd => rfl); (case hg => rfl); (case hr => first | (go_simp; done) | (go_simp; rfl)); intro gb278 hg w31 hbox hb; have n0_ := z13_A (Kd.R_below z13_12 hb); have n1_ := z13_A (Kd.R_below z13_19 hb); have n2_ := z13_A (Kd.R_below z13_18 hb); have n3_ := z13_A (Kd.R_below z13_26 hb); have n4_ := z13_A (blk_below (g := gb252) (o := .cells #[.int .i64 a0_0, .slice A0_1 l0_1.length c0_1, .int .i64 a0_2, .int .i64 a0_3, .int .i64 a0_4, .int .i64 a0_5] 24 (0, 0)) z13_3 hb); have n5_ := z13_A (below_step z13_5 hb); have n6_ := z13_A (hbox); have n7_ := z13_A ((by rw [hg]; exact (below_size z13_5) : w.heap.size ≤ gb278)); have n8_ := z13_A ((by rw [hg]; exact (below_size z13_5) : w.heap.size ≤ gb278)); have n9_ := z13_A ((by rw [hg]; exact Nat.ne_of_lt (blk_lt (g := gb252) (o := .cells #[.int .i64 a0_0, .slice A0_1 l0_1.length c0_1, .int .i64 a0_2, .int .i64 a0_3, .int .i64 a0_4, .int .i64 a0_5] 24 (0, 0)) z13_3) : gb252 ≠ gb278)); have n10_ := z13_A ((by rw [hg]; exact Nat.ne_of_gt (blk_lt (g := gb252) (o := .cells #[.int .i64 a0_0, .slice A0_1 l0_1.length c0_1, .int .i64 a0_2, .int .i64 a0_3, .int .i64 a0_4, .int .i64 a0_5] 24 (0, 0)) z13_3) : gb278 ≠ gb252)); clear HO258 HO265 HO268 HO273 BK252 HB; revert n0_ n1_ n2_ n3_ n4_ n5_ n6_ n7_ n8_ n9_ n10_; intro HO258 HO265 HO268 HO273 BK252 HB BK278 GW278 GE278 NB252_278 NB278_252; clear hb hbox hg; have hnb32 := NB278_252.out; have hnc32 := NB252_278.out; have hcz33_0 : w31.cell? ⟨gb278, 0, none⟩ = some (.int .i64 0) := bcz BK278.out 0 rfl; have hcz33_1 : w31.cell? ⟨gb278, 1, none⟩ = some (.slice none 0 0) := bcz BK278.out 1 rfl; have hcz33_2 : w31.cell? ⟨gb278, 2, none⟩ = some (.int .i64 0) := bcz BK278.out 2 rfl; have hcz33_3 : w31.cell? ⟨gb278, 3, none⟩ = some (.int .i64 0) := bcz BK278.out 3 rfl; have hcz33_4 : w31.cell? ⟨gb278, 4, none⟩ = some (.int .i64 0) := bcz BK278.out 4 rfl; have hcz33_5 : w31.cell? ⟨gb278, 5, none⟩ = some (.int .i64 0) := bcz BK278.out 5 rfl; obtain ⟨hfz33_0, hfz33_1, hfz33_2, hfz33_3⟩ := F4z (blk_frozen BK278.out); have hfz33_4 := blk_frozen BK278.out 4; have hfz33_5 := blk_frozen BK278.out 5; obtain ⟨Ao34, co34, eo34⟩ := Kd.R_slice HO273.out; subst eo34) | ((with_reducible refine gate_callee (f := 17) rfl ?_); refine goesL_ (some 38) rfl rfl Try.func17 z13_13 rfl #[.slice A1 l1.length c1] rfl z13_2 ?_; (with_reducible refine (laws_toIntA2S.calls k _ _ l1 t279 _ ?side1 ?side2 A17.out).mono ?_); (case side1 => exact Kd.C_below HR1.out z13_1); (case side2 => exact HC1.out); rintro e w35 ⟨v280, rfl, ho0, hb⟩; refine ⟨_, rfl, ?_⟩; have n0_ := z13_A (Kd.R_below (by (with_reducible repeat (first | apply Kd.R_alloc | apply Kd.R_drewN | apply Kd.R_drew)); exact (Kd.R_mono (Kd.R_far (p := ⟨gb278, 5, none⟩) (Kd.R_far (p := ⟨gb278, 4, none⟩) (Kd.R_far (p := ⟨gb278, 3, none⟩) (Kd.R_far (p := ⟨gb278, 2, none⟩) (Kd.R_far (p := ⟨gb278, 1, none⟩) (Kd.R_far (p := ⟨gb278, 0, none⟩) (Kd.R_types HO258.out BK278.out z13_29) (fun _ hk => hk.2) (.int .i64 t270)) (fun _ hk => hk.2) (.slice Ao34 t271.length co34)) (fun _ hk => hk.2) (.int .i64 t274)) (fun _ hk => hk.2) (.int .i64 t275)) (fun _ hk => hk.2) (.int .i64 t276)) (fun _ hk => hk.2) (.int .i64 t277)) (fun _ h_ => h_.1))) hb); have n1_ := z13_A (Kd.R_elder' z13_15 (Kd.R_base ho0) hb); have n2_ := z13_A (Kd.R_below (by (with_reducible repeat (first | apply Kd.R_alloc | apply Kd.R_drewN | apply Kd.R_drew)); exact (Kd.R_mono (Kd.R_far (p := ⟨gb278, 5, none⟩) (Kd.R_far (p := ⟨gb278, 4, none⟩) (Kd.R_far (p := ⟨gb278, 3, none⟩) (Kd.R_far (p := ⟨gb278, 2, none⟩) (Kd.R_far (p := ⟨gb278, 1, none⟩) (Kd.R_far (p := ⟨gb278, 0, none⟩) (Kd.R_types HO268.out BK278.out z13_29) (fun _ hk => hk.2) (.int .i64 t270)) (fun _ hk => hk.2) (.slice Ao34 t271.length co34)) (fun _ hk => hk.2) (.int .i64 t274)) (fun _ hk => hk.2) (.int .i64 t275)) (fun _ hk => hk.2) (.int .i64 t276)) (fun _ hk => hk.2) (.int .i64 t277)) (fun _ h_ => h_.1))) hb); have n3_ := z13_A (Kd.R_below (by (with_reducible repeat (first | apply Kd.R_alloc | apply Kd.R_drewN | apply Kd.R_drew)); exact (Kd.R_mono (Kd.R_far (p := ⟨gb278, 5, none⟩) (Kd.R_far (p := ⟨gb278, 4, none⟩) (Kd.R_far (p := ⟨gb278, 3, none⟩) (Kd.R_far (p := ⟨gb278, 2, none⟩) (Kd.R_far (p := ⟨gb278, 1, none⟩) (Kd.R_far (p := ⟨gb278, 0, none⟩) (Kd.R_types HO273.out BK278.out z13_29) (fun _ hk => hk.2) (.int .i64 t270)) (fun _ hk => hk.2) (.slice Ao34 t271.length co34)) (fun _ hk => hk.2) (.int .i64 t274)) (fun _ hk => hk.2) (.int .i64 t275)) (fun _ hk => hk.2) (.int .i64 t276)) (fun _ hk => hk.2) (.int .i64 t277)) (fun _ h_ => h_.1))) hb); have n4_ := z13_A (Kd.R_lower (Kd.R_new' ho0 (Kd.R_lt z13_15)) (below_size z13_1)); have n5_ := z13_A (blk_below (g := gb252) (o := .cells #[.int .i64 a0_0, .slice A0_1 l0_1.length c0_1, .int .i64 a0_2, .int .i64 a0_3, .int .i64 a0_4, .int .i64 a0_5] 24 (0, 0)) (by (with_reducible repeat (first | refine blk_drewN ?_ _ | refine blk_drew ?_ | refine blk_alloc ?_ _)); refine blk_far ?_ NB252_278.out _; (with_reducible repeat (first | refine blk_drewN ?_ _ | refine blk_drew ?_ | refine blk_alloc ?_ _)); refine blk_far ?_ NB252_278.out _; (with_reducible repeat (first | refine blk_drewN ?_ _ | refine blk_drew ?_ | refine blk_alloc ?_ _)); refine blk_far ?_ NB252_278.out _; (with_reducible repeat (first | refine blk_drewN ?_ _ | refine blk_drew ?_ | refine blk_alloc ?_ _)); refine blk_far ?_ NB252_278.out _; (with_reducible repeat (first | refine blk_drewN ?_ _ | refine blk_drew ?_ | refine blk_alloc ?_ _)); refine blk_far ?_ NB252_278.out _; (with_reducible repeat (first | refine blk_drewN ?_ _ | refine blk_drew ?_ | refine blk_alloc ?_ _)); refine blk_far ?_ NB252_278.out _; (with_reducible repeat (first | refine blk_drewN ?_ _ | refine blk_drew ?_ | refine blk_alloc ?_ _)); exact BK252.out) hb); have n6_ := z13_A (blk_below (g := gb278) (o := .cells #[.int .i64 t270, .slice Ao34 t271.length co34, .int .i64 t274, .int .i64 t275, .int .i64 t276, .int .i64 t277] 30 (0, 0)) (by (with_reducible repeat (first | refine blk_drewN ?_ _ | refine blk_drew ?_ | refine blk_alloc ?_ _)); refine blk_put (cs := #[.int .i64 t270, .slice Ao34 t271.length co34, .int .i64 t274, .int .i64 t275, .int .i64 t276, .int .i64 0]) ?_ 5 _ rfl; (with_reducible repeat (first | refine blk_drewN ?_ _ | refine blk_drew ?_ | refine blk_alloc ?_ _)); refine blk_put (cs := #[.int .i64 t270, .slice Ao34 t271.length co34, .int .i64 t274, .int .i64 t275, .int .i64 0, .int .i64 0]) ?_ 4 _ rfl; (with_reducible repeat (first | refine blk_drewN ?_ _ | refine blk_drew ?_ | refine blk_alloc ?_ _)); refine blk_put (cs := #[.int .i64 t270, .slice Ao34 t271.length co34, .int .i64 t274, .int .i64 0, .int .i64 0, .int .i64 0]) ?_ 3 _ rfl; (with_reducible repeat (first | refine blk_drewN ?_ _ | refine blk_drew ?_ | refine blk_alloc ?_ _)); refine blk_put (cs := #[.int .i64 t270, .slice Ao34 t271.length co34, .int .i64 0, .int .i64 0, .int .i64 0, .int .i64 0]) ?_ 2 _ rfl; (with_reducible repeat (first | refine blk_drewN ?_ _ | refine blk_drew ?_ | refine blk_alloc ?_ _)); refine blk_put (cs := #[.int .i64 t270, .slice none 0 0, .int .i64 0, .int .i64 0, .int .i64 0, .int .i64 0]) ?_ 1 _ rfl; (with_reducible repeat (first | refine blk_drewN ?_ _ | refine blk_drew ?_ | refine blk_alloc ?_ _)); refine blk_put (cs := #[.int .i64 0, .slice none 0 0, .int .i64 0, .int .i64 0, .int .i64 0, .int .i64 0]) ?_ 0 _ rfl; (with_reducible repeat (first | refine blk_drewN ?_ _ | refine blk_drew ?_ | refine blk_alloc ?_ _)); exact BK278.out) hb); have n7_ := z13_A (below_step z13_1 hb); clear HO258 HO265 HO268 HO273 BK252 BK278 HB; revert n0_ n1_ n2_ n3_ n4_ n5_ n6_ n7_; intro HO258 HO265 HO268 HO273 HO281 BK252 BK278 HB; (try clear hb); (try clear hb2); (try clear hk); (try clear hi); (try clear ho0); have hcz36_0 : w35.cell? ⟨gb278, 0, none⟩ = some (.int .i64 t270) := bcz BK278.out 0 rfl; have hcz36_1 : w35.cell? ⟨gb278, 1, none⟩ = some (.slice Ao34 t271.length co34) := bcz BK278.out 1 rfl; have hcz36_2 : w35.cell? ⟨gb278, 2, none⟩ = some (.int .i64 t274) := bcz BK278.out 2 rfl; have hcz36_3 : w35.cell? ⟨gb278, 3, none⟩ = some (.int .i64 t275) := bcz BK278.out 3 rfl; have hcz36_4 : w35.cell? ⟨gb278, 4, none⟩ = some (.int .i64 t276) := bcz BK278.out 4 rfl; have hcz36_5 : w35.cell? ⟨gb278, 5, none⟩ = some (.int .i64 t277) := bcz BK278.out 5 rfl; obtain ⟨hfz36_0, hfz36_1, hfz36_2, hfz36_3⟩ := F4z (blk_frozen BK278.out); have hfz36_4 := blk_frozen BK278.out 4; have hfz36_5 := blk_frozen BK278.out 5; obtain ⟨Ao37, co37, eo37⟩ := Kd.R_slice HO281.out; subst eo37) | ((with_reducible refine gate_callee (f := 43) rfl ?_); refine goesL_ (some 42) rfl rfl Try.func43 z13_13 rfl #[.agg #[.int .i64 t270, .slice Ao34 t271.length co34, .int .i64 t274, .int .i64 t275, .int .i64 t276, .int .i64 t277], .slice Ao37 t279.length co37] rfl z13_2 ?_; (with_reducible refine (impl_PolicyWorth.calls k t270 _ _ t271 t274 t275 t276 t277 _ _ t279 t282 t285 _ ?side1 ?side2 ?side3 ?side4 A18.out).mono ?_); (case side1 => have zh := (Kd.R_reads' HO273.out).2.2; exact z13_C); (case side2 => exact (Kd.R_reads' HO273.out).2.1); (case side3 => have zh := (Kd.R_reads' HO281.out).2.2; exact z13_C); (case side4 => exact (Kd.R_reads' HO281.out).2.1); rintro e w38 ⟨v283, rfl, ho0, hb⟩; refine ⟨_, rfl, ?_⟩; have n0_ := z13_A (Kd.R_elder' z13_12 (Kd.R_base ho0) hb); have n1_ := z13_A (Kd.R_below z13_19 hb); have n2_ := z13_A (Kd.R_elder' z13_18 (Kd.R_base ho0) hb); have n3_ := z13_A (Kd.R_elder' z13_26 (Kd.R_base ho0) hb); have n4_ := z13_A (Kd.R_below (by (with_reducible repeat (first | apply Kd.R_alloc | apply Kd.R_drewN | apply Kd.R_drew)); exact HO281.out) hb); have n5_ := z13_A (Kd.R_lower (Kd.R_new' (Kd.R_new' (Kd.R_new' ho0 (Kd.R_lt z13_12)) (Kd.R_lt z13_18)) (Kd.R_lt z13_26)) (below_size z13_1)); have n6_ := z13_A (blk_below (g := gb252) (o := .cells #[.int .i64 a0_0, .slice A0_1 l0_1.length c0_1, .int .i64 a0_2, .int .i64 a0_3, .int .i64 a0_4, .int .i64 a0_5] 24 (0, 0)) z13_3 hb); have n7_ := z13_A (blk_below (g := gb278) (o := .cells #[.int .i64 t270, .slice Ao34 t271.length co34, .int .i64 t274, .int .i64 t275, .int .i64 t276, .int .i64 t277] 30 (0, 0)) z13_4 hb); have n8_ := z13_A (below_step z13_1 hb); clear HO258 HO265 HO268 HO273 HO281 BK252 BK278 HB; revert n0_ n1_ n2_ n3_ n4_ n5_ n6_ n7_ n8_; intro HO258 HO265 HO268 HO273 HO281 HO284 BK252 BK278 HB; (try clear hb); (try clear hb2); (try clear hk); (try clear hi); (try clear ho0)))
   (try simp only [Act.put, List.setIfInBounds_toArray, List.set_cons_zero, List.set_cons_succ])
   go_cut [53] (fun v53 wc => ∃ (kq : Nat) (x53_18 : Bool), v53 = .bool x53_18 ∧ Aside0 (laws_FnExactPolicyWorth.j0 kq l1 t266 t269 t279 t282 t285 x53_18 a0_0 l0_1 a0_2 a0_3 a0_4 a0_5 t270 t271 t274 t275 t276 t277 = some r) ∧ Aside0 (kq ≤ k) ∧ Aside0 (Kd.R (Kd.int .i64) 3 wc w.heap.size (fun k_ => z13_V k_ v283 ∧ some k_ ≠ ((.slice Ao34 t271.length co34) : Value).ownBlock) v267 t266) ∧ Aside0 (Kd.R k72 72 wc w.heap.size (fun _ => True) (.slice Ao37 t279.length co37) t279) ∧ Aside0 (Kd.R (Kd.int .i64) 3 wc w.heap.size (fun k_ => z13_V k_ v267 ∧ some k_ ≠ ((.slice Ao34 t271.length co34) : Value).ownBlock) v283 t282) ∧ Aside0 (Kd.R (Kd.int .i64) 3 wc w.heap.size (fun k_ => z13_V k_ v267 ∧ z13_V k_ v283) (.slice Ao34 t271.length co34) t271) ∧ Aside0 (wc.heap[gb252]? = some (.cells #[.int .i64 a0_0, (.slice A0_1 l0_1.length c0_1), .int .i64 a0_2, .int .i64 a0_3, .int .i64 a0_4, .int .i64 a0_5] 24 (0, 0))) ∧ Aside0 (wc.heap[gb278]? = some (.cells #[.int .i64 t270, (.slice Ao34 t271.length co34), .int .i64 t274, .int .i64 t275, .int .i64 t276, .int .i64 t277] 30 (0, 0))) ∧ Aside0 (Below w.heap.size w wc))
   case first =>
    have H := HC19.out
    clear HC19
    replace H := Option.bind_eq_some_iff.mp H
    obtain ⟨t286, A390, H⟩ := H
    (try dsimp only at H)
    have A39 := z13_A A390
    clear A390
    by_cases c40 : t286 = true
    ·subst c40
     have H1 : (laws_FnExactPolicyWorth.j0 k l1 t266 t269 t279 t282 t285 (t285 != t269) a0_0 l0_1 a0_2 a0_3 a0_4 a0_5 t270 t271 t274 t275 t276 t277) = some r := z13_24
     clear H
     have H := H1
     clear H1
     have H' := z13_A H
     clear H
     obtain ⟨Ao41, co41, eo41⟩ := Kd.R_slice HO284.out
     subst eo41
     obtain ⟨Ao42, co42, eo42⟩ := Kd.R_slice HO268.out
     subst eo42
     go_wp2_with (first | ((with_reducible refine gate_callee (f := 25) rfl ?_); refine goesL_ (some 47) rfl rfl Try.func25 z13_13 rfl #[.slice Ao41 t282.length co41, .slice Ao42 t266.length co42] rfl z13_2 ?_; (with_reducible refine (laws_eqIntS.calls k _ _ t282 _ _ t266 true _ ?side1 ?side2 ?side3 ?side4 A39.out).mono ?_); (case side1 => have zh := (Kd.R_reads' HO284.out).2.2; exact z13_C); (case side2 => exact (Kd.R_reads' HO284.out).2.1); (case side3 => have zh := (Kd.R_reads' HO268.out).2.2; exact z13_C); (case side4 => exact (Kd.R_reads' HO268.out).2.1); rintro e w' ⟨rfl, ⟨nd, rfl⟩⟩; refine ⟨_, rfl, ?_⟩))
     go_meet
     case rel => exact ⟨_, ((t285 != t269)), z13_23, H', ⟨by first | omega | exact Nat.le_refl _⟩, ⟨z13_35⟩, ⟨z13_36⟩, ⟨z13_33⟩, ⟨z13_34⟩, ⟨z13_3⟩, ⟨z13_4⟩, ⟨z13_1⟩⟩
    ·replace c40 := Bool.eq_false_iff.mpr c40
     subst c40
     have H1 : (laws_FnExactPolicyWorth.j0 k l1 t266 t269 t279 t282 t285 true a0_0 l0_1 a0_2 a0_3 a0_4 a0_5 t270 t271 t274 t275 t276 t277) = some r := z13_17
     clear H
     have H := H1
     clear H1
     have H' := z13_A H
     clear H
     obtain ⟨Ao43, co43, eo43⟩ := Kd.R_slice HO284.out
     subst eo43
     obtain ⟨Ao44, co44, eo44⟩ := Kd.R_slice HO268.out
     subst eo44
     go_wp2_with (first | ((with_reducible refine gate_callee (f := 25) rfl ?_); refine goesL_ (some 47) rfl rfl Try.func25 z13_13 rfl #[.slice Ao43 t282.length co43, .slice Ao44 t266.length co44] rfl z13_2 ?_; (with_reducible refine (laws_eqIntS.calls k _ _ t282 _ _ t266 false _ ?side1 ?side2 ?side3 ?side4 A39.out).mono ?_); (case side1 => have zh := (Kd.R_reads' HO284.out).2.2; exact z13_C); (case side2 => exact (Kd.R_reads' HO284.out).2.1); (case side3 => have zh := (Kd.R_reads' HO268.out).2.2; exact z13_C); (case side4 => exact (Kd.R_reads' HO268.out).2.1); rintro e w' ⟨rfl, ⟨nd, rfl⟩⟩; refine ⟨_, rfl, ?_⟩))
     go_meet
     case rel => exact ⟨_, (true), z13_23, H', ⟨by first | omega | exact Nat.le_refl _⟩, ⟨z13_35⟩, ⟨z13_36⟩, ⟨z13_33⟩, ⟨z13_34⟩, ⟨z13_3⟩, ⟨z13_4⟩, ⟨z13_1⟩⟩
   case rest =>
    clear HC19
    (try clear c1); (try clear c4); (try clear c4b0); (try clear c9); (try clear c9b0); (try clear hcz21_0); (try clear hcz21_1); (try clear hcz21_2); (try clear hcz21_3); (try clear hcz21_4); (try clear hcz21_5); (try clear hcz23_0); (try clear hcz23_1); (try clear hcz23_2); (try clear hcz23_3); (try clear hcz23_4); (try clear hcz23_5); (try clear hcz29_0); (try clear hcz29_1); (try clear hcz29_2); (try clear hcz29_3); (try clear hcz29_4); (try clear hcz29_5); (try clear hcz33_0); (try clear hcz33_1); (try clear hcz33_2); (try clear hcz33_3); (try clear hcz33_4); (try clear hcz33_5); (try clear hcz36_0); (try clear hcz36_1); (try clear hcz36_2); (try clear hcz36_3); (try clear hcz36_4); (try clear hcz36_5); (try clear hfz21_0); (try clear hfz21_1); (try clear hfz21_2); (try clear hfz21_3); (try clear hfz21_4); (try clear hfz21_5); (try clear hfz23_0); (try clear hfz23_1); (try clear hfz23_2); (try clear hfz23_3); (try clear hfz23_4); (try clear hfz23_5); (try clear hfz29_0); (try clear hfz29_1); (try clear hfz29_2); (try clear hfz29_3); (try clear hfz29_4); (try clear hfz29_5); (try clear hfz33_0); (try clear hfz33_1); (try clear hfz33_2); (try clear hfz33_3); (try clear hfz33_4); (try clear hfz33_5); (try clear hfz36_0); (try clear hfz36_1); (try clear hfz36_2); (try clear hfz36_3); (try clear hfz36_4); (try clear hfz36_5)
    obtain ⟨kq, x53_18, rfl, HA, HJ18, HO_6, HO_9, HO_10, HO_279001, BK252, BK278, HB⟩ := hcut
    cases kq with
    | zero => exact absurd HA.out (by simp [laws_FnExactPolicyWorth.j0])
    | succ kj18 =>
     have H := HA.out
     clear HA
     simp only [laws_FnExactPolicyWorth.j0] at H
     by_cases c45 : x53_18 = true
     ·subst c45
      have H1 : (some false) = some r := z13_24
      clear H
      have H := H1
      clear H1
      obtain rfl := Option.some.inj H
      go_wp2
      go_ret
      exact ⟨z13_11, z13_1⟩
     ·replace c45 := Bool.eq_false_iff.mpr c45
      subst c45
      have H1 : ((laws_toProcess.f kj18 a0_0 l0_1 a0_2 a0_3 a0_4 a0_5).bind fun bt287 => ((laws_eqProcess.f kj18 t270 t271 t274 t275 t276 t277 bt287.1 bt287.2.1 bt287.2.2.1 bt287.2.2.2.1 bt287.2.2.2.2.1 bt287.2.2.2.2.2).bind fun t295 => (if t295 = true then ((laws_toIntA2S.f kj18 l1).bind fun t296 => ((laws_eqIntA2S.f kj18 t279 t296).bind fun t299 => (if t299 = true then ((laws_markProcess.f kj18 t270 t271 t274 t275 t276 t277 1).bind fun bt300 => ((laws_markIntA2S.f kj18 t279 bt300.1).bind fun bt302 => (if bt302.1 < 0 then (laws_FnExactPolicyWorth.j1 kj18 l1 t266 t269 t282 true a0_0 l0_1 a0_2 a0_3 a0_4 a0_5) else ((laws_eqIntS.f kj18 t282 t266).bind fun t304 => (if t304 = true then (laws_FnExactPolicyWorth.j1 kj18 l1 t266 t269 t282 (t285 != t269) a0_0 l0_1 a0_2 a0_3 a0_4 a0_5) else (laws_FnExactPolicyWorth.j1 kj18 l1 t266 t269 t282 true a0_0 l0_1 a0_2 a0_3 a0_4 a0_5)))))) else (some false)))) else (some false)))) = some r := z13_17
      clear H
      have H := H1
      clear H1
      replace H := Option.bind_eq_some_iff.mp H
      obtain ⟨⟨t287, t288, t291, t292, t293, t294⟩, A460, H⟩ := H
      (try dsimp only at H)
      have A46 := z13_A A460
      clear A460
      replace H := Option.bind_eq_some_iff.mp H
      obtain ⟨t295, A470, H⟩ := H
      (try dsimp only at H)
      have A47 := z13_A A470
      clear A470
      by_cases c48 : t295 = true
      ·subst c48
       have H1 : ((laws_toIntA2S.f kj18 l1).bind fun t296 => ((laws_eqIntA2S.f kj18 t279 t296).bind fun t299 => (if t299 = true then ((laws_markProcess.f kj18 t270 t271 t274 t275 t276 t277 1).bind fun bt300 => ((laws_markIntA2S.f kj18 t279 bt300.1).bind fun bt302 => (if bt302.1 < 0 then (laws_FnExactPolicyWorth.j1 kj18 l1 t266 t269 t282 true a0_0 l0_1 a0_2 a0_3 a0_4 a0_5) else ((laws_eqIntS.f kj18 t282 t266).bind fun t304 => (if t304 = true then (laws_FnExactPolicyWorth.j1 kj18 l1 t266 t269 t282 (t285 != t269) a0_0 l0_1 a0_2 a0_3 a0_4 a0_5) else (laws_FnExactPolicyWorth.j1 kj18 l1 t266 t269 t282 true a0_0 l0_1 a0_2 a0_3 a0_4 a0_5)))))) else (some false)))) = some r := z13_24
       clear H
       have H := H1
       clear H1
       replace H := Option.bind_eq_some_iff.mp H
       obtain ⟨t296, A490, H⟩ := H
       (try dsimp only at H)
       have A49 := z13_A A490
       clear A490
       replace H := Option.bind_eq_some_iff.mp H
       obtain ⟨t299, A500, H⟩ := H
       (try dsimp only at H)
       have A50 := z13_A A500
       clear A500
       by_cases c51 : t299 = true
       ·subst c51
        have H1 : ((laws_markProcess.f kj18 t270 t271 t274 t275 t276 t277 1).bind fun bt300 => ((laws_markIntA2S.f kj18 t279 bt300.1).bind fun bt302 => (if bt302.1 < 0 then (laws_FnExactPolicyWorth.j1 kj18 l1 t266 t269 t282 true a0_0 l0_1 a0_2 a0_3 a0_4 a0_5) else ((laws_eqIntS.f kj18 t282 t266).bind fun t304 => (if t304 = true then (laws_FnExactPolicyWorth.j1 kj18 l1 t266 t269 t282 (t285 != t269) a0_0 l0_1 a0_2 a0_3 a0_4 a0_5) else (laws_FnExactPolicyWorth.j1 kj18 l1 t266 t269 t282 true a0_0 l0_1 a0_2 a0_3 a0_4 a0_5)))))) = some r := z13_24
        clear H
        have H := H1
        clear H1
        replace H := Option.bind_eq_some_iff.mp H
        obtain ⟨⟨t300, t301⟩, A520, H⟩ := H
        (try dsimp only at H)
        have A52 := z13_A A520
        clear A520
        replace H := Option.bind_eq_some_iff.mp H
        obtain ⟨⟨t302, t303⟩, A530, H⟩ := H
        (try dsimp only at H)
        have A53 := z13_A A530
        clear A530
        have HC54 := z13_A H
        clear H
        try go_wp2
        have n0_ := z13_A (Kd.R_drew HO_6.out)
        have n1_ := z13_A (Kd.R_drew HO_9.out)
        have n2_ := z13_A (Kd.R_drew HO_10.out)
        have n3_ := z13_A (Kd.R_drew HO_279001.out)
        have n4_ := z13_A (blk_drew BK252.out)
        have n5_ := z13_A (blk_drew BK278.out)
        have n6_ := z13_A (below_drew1 HB.out)
        clear HO_6
        clear HO_9
        clear HO_10
        clear HO_279001
        clear BK252
        clear BK278
        clear HB
        have HO_6 := n0_
        have HO_9 := n1_
        have HO_10 := n2_
        have HO_279001 := n3_
        have BK252 := n4_
        have BK278 := n5_
        have HB := n6_
        clear n0_ n1_ n2_ n3_ n4_ n5_ n6_
        refine start_ (n := 5) (S := fun w' => w'.cell? ⟨gb278, 0, none⟩ = some (.int .i64 t270) ∧ w'.cell? ⟨gb278, 1, none⟩ = some (.slice Ao34 t271.length co34) ∧ w'.cell? ⟨gb278, 2, none⟩ = some (.int .i64 t274) ∧ w'.cell? ⟨gb278, 3, none⟩ = some (.int .i64 t275) ∧ w'.cell? ⟨gb278, 4, none⟩ = some (.int .i64 t276) ∧ w'.cell? ⟨gb278, 5, none⟩ = some (.int .i64 t277) ∧ w'.cell? ⟨gb252, 0, none⟩ = some (.int .i64 a0_0) ∧ w'.cell? ⟨gb252, 1, none⟩ = some (.slice A0_1 l0_1.length c0_1) ∧ w'.cell? ⟨gb252, 2, none⟩ = some (.int .i64 a0_2) ∧ w'.cell? ⟨gb252, 3, none⟩ = some (.int .i64 a0_3) ∧ w'.cell? ⟨gb252, 4, none⟩ = some (.int .i64 a0_4) ∧ w'.cell? ⟨gb252, 5, none⟩ = some (.int .i64 a0_5)) (ds := []) #[false, false, false, false, false] z13_13 rfl rfl ⟨bcz BK278.out 0 rfl, bcz BK278.out 1 rfl, bcz BK278.out 2 rfl, bcz BK278.out 3 rfl, bcz BK278.out 4 rfl, bcz BK278.out 5 rfl, bcz BK252.out 0 rfl, bcz BK252.out 1 rfl, bcz BK252.out 2 rfl, bcz BK252.out 3 rfl, bcz BK252.out 4 rfl, bcz BK252.out 5 rfl⟩ (fun hHeld => ?_)
        generalize wc.drew = w55 at HO_6 HO_9 HO_10 HO_279001 BK252 BK278 HB hHeld ⊢
        refine take_ (i := 0) (N := some 54) (v := ?_) (a' := ?_) #[true, false, false, false, false] rfl rfl z13_13 (fun _ _ _ h => h) (Or.inl ⟨by rfl, ?_⟩) hHeld ?_ ?_
        rotate_left
        ·rintro w' ⟨s0, s1, s2, s3, s4, s5, s6, s7, s8, s9, s10, s11⟩
         go_simp
         with_reducible rfl
        rotate_left
        ·simp only [Act.put, List.setIfInBounds_toArray, List.set_cons_zero, List.set_cons_succ, i64_w, i32_w]
         rfl
        refine take_ (i := 1) (N := some 55) (v := ?_) (a' := ?_) #[true, true, false, false, false] rfl rfl z13_13 (fun _ _ _ h => h) (Or.inl ⟨by rfl, ?_⟩) hHeld ?_ ?_
        rotate_left
        ·rintro w' ⟨s0, s1, s2, s3, s4, s5, s6, s7, s8, s9, s10, s11⟩
         go_simp
         with_reducible rfl
        rotate_left
        ·simp only [Act.put, List.setIfInBounds_toArray, List.set_cons_zero, List.set_cons_succ, i64_w, i32_w]
         rfl
        refine one_ (i := 2) (N := some 56) #[true, true, true, false, false] rfl rfl z13_13 z13_29 (fun K hK => ?_)
        refine goes_ Try.func16 z13_13 rfl #[.agg #[.int .i64 a0_0, .slice A0_1 l0_1.length c0_1, .int .i64 a0_2, .int .i64 a0_3, .int .i64 a0_4, .int .i64 a0_5]] (by rfl) rfl rfl z13_2 ?_
        with_reducible refine (laws_toProcess.calls kj18 a0_0 _ _ l0_1 a0_2 a0_3 a0_4 a0_5 t287 t288 t291 t292 t293 t294 _ ?side1 ?side2 A46.out).mono ?_
        (case side1 => have zh := (Kd.C_below HR0_1.out HB.out); exact z13_C)
        (case side2 => exact HC0_1.out)
        rintro e w56 ⟨v289, rfl, ho0, hb⟩
        refine ⟨_, rfl, ?_⟩
        have n0_ := z13_A (Kd.R_elder' z13_8 (Kd.R_base ho0) hb)
        have n1_ := z13_A (Kd.R_below z13_9 hb)
        have n2_ := z13_A (Kd.R_elder' z13_7 (Kd.R_base ho0) hb)
        have n3_ := z13_A (Kd.R_elder' z13_6 (Kd.R_base ho0) hb)
        have n4_ := z13_A (Kd.R_lower (Kd.R_new' (Kd.R_new' (Kd.R_new' ho0 (Kd.R_lt z13_8)) (Kd.R_lt z13_7)) (Kd.R_lt z13_6)) (below_size z13_1))
        have n5_ := z13_A (blk_below (g := gb252) (o := .cells #[.int .i64 a0_0, .slice A0_1 l0_1.length c0_1, .int .i64 a0_2, .int .i64 a0_3, .int .i64 a0_4, .int .i64 a0_5] 24 (0, 0)) z13_3 hb)
        have n6_ := z13_A (blk_below (g := gb278) (o := .cells #[.int .i64 t270, .slice Ao34 t271.length co34, .int .i64 t274, .int .i64 t275, .int .i64 t276, .int .i64 t277] 30 (0, 0)) z13_4 hb)
        have n7_ := z13_A (below_step z13_1 hb)
        clear HO_6
        clear HO_9
        clear HO_10
        clear HO_279001
        clear BK252
        clear BK278
        clear HB
        have HO_6 := n0_
        have HO_9 := n1_
        have HO_10 := n2_
        have HO_279001 := n3_
        have HO290 := n4_
        have BK252 := n5_
        have BK278 := n6_
        have HB := n7_
        clear n0_ n1_ n2_ n3_ n4_ n5_ n6_ n7_
        (try clear hb)
        (try clear hb2)
        (try clear hk)
        (try clear hi)
        (try clear ho0)
        obtain ⟨Ao57, co57, eo57⟩ := Kd.R_slice HO290.out
        (first | subst eo57 | (injection eo57 with f1_ f2_ f3_; have f4_ := f1_.symm; have f5_ := f3_.symm; clear f1_ f2_ f3_; subst f4_; subst f5_))
        refine hK.out _ _ ⟨bcz BK278.out 0 rfl, bcz BK278.out 1 rfl, bcz BK278.out 2 rfl, bcz BK278.out 3 rfl, bcz BK278.out 4 rfl, bcz BK278.out 5 rfl, bcz BK252.out 0 rfl, bcz BK252.out 1 rfl, bcz BK252.out 2 rfl, bcz BK252.out 3 rfl, bcz BK252.out 4 rfl, bcz BK252.out 5 rfl⟩ (fun hHeld => ?_)
        clear hK K
        refine norm_ (a' := ?_) ?_ ?_
        rotate_left
        ·show Act.put _ (some 56) _ = _
         simp only [Act.put, List.setIfInBounds_toArray, List.set_cons_zero, List.set_cons_succ, i64_w, i32_w]
         rfl
        refine one_ (i := 3) (N := some 57) #[true, true, true, true, false] rfl rfl z13_13 z13_29 (fun K hK => ?_)
        refine goes_ Try.func19 z13_13 rfl #[.agg #[.int .i64 t270, .slice Ao34 t271.length co34, .int .i64 t274, .int .i64 t275, .int .i64 t276, .int .i64 t277], .agg #[.int .i64 t287, .slice Ao57 t288.length co57, .int .i64 t291, .int .i64 t292, .int .i64 t293, .int .i64 t294]] (by rfl) rfl rfl z13_2 ?_
        with_reducible refine (laws_eqProcess.calls kj18 t270 _ _ t271 t274 t275 t276 t277 t287 _ _ t288 t291 t292 t293 t294 true _ ?side1 ?side2 ?side3 ?side4 A47.out).mono ?_
        (case side1 => have zh := (Kd.R_reads' HO_279001.out).2.2; exact z13_C)
        (case side2 => exact (Kd.R_reads' HO_279001.out).2.1)
        (case side3 => have zh := (Kd.R_reads' HO290.out).2.2; exact z13_C)
        (case side4 => exact (Kd.R_reads' HO290.out).2.1)
        rintro e w58 ⟨rfl, hb⟩
        refine ⟨_, rfl, ?_⟩
        have n0_ := z13_A (Kd.R_below z13_8 hb)
        have n1_ := z13_A (Kd.R_below z13_9 hb)
        have n2_ := z13_A (Kd.R_below z13_7 hb)
        have n3_ := z13_A (Kd.R_below z13_6 hb)
        have n4_ := z13_A (Kd.R_below z13_14 hb)
        have n5_ := z13_A (blk_below (g := gb252) (o := .cells #[.int .i64 a0_0, .slice A0_1 l0_1.length c0_1, .int .i64 a0_2, .int .i64 a0_3, .int .i64 a0_4, .int .i64 a0_5] 24 (0, 0)) z13_3 hb)
        have n6_ := z13_A (blk_below (g := gb278) (o := .cells #[.int .i64 t270, .slice Ao34 t271.length co34, .int .i64 t274, .int .i64 t275, .int .i64 t276, .int .i64 t277] 30 (0, 0)) z13_4 hb)
        have n7_ := z13_A (below_step z13_1 hb)
        clear HO_6
        clear HO_9
        clear HO_10
        clear HO_279001
        clear HO290
        clear BK252
        clear BK278
        clear HB
        have HO_6 := n0_
        have HO_9 := n1_
        have HO_10 := n2_
        have HO_279001 := n3_
        have HO290 := n4_
        have BK252 := n5_
        have BK278 := n6_
        have HB := n7_
        clear n0_ n1_ n2_ n3_ n4_ n5_ n6_ n7_
        (try clear hb)
        (try clear hb2)
        (try clear hk)
        (try clear hi)
        refine hK.out _ _ ⟨bcz BK278.out 0 rfl, bcz BK278.out 1 rfl, bcz BK278.out 2 rfl, bcz BK278.out 3 rfl, bcz BK278.out 4 rfl, bcz BK278.out 5 rfl, bcz BK252.out 0 rfl, bcz BK252.out 1 rfl, bcz BK252.out 2 rfl, bcz BK252.out 3 rfl, bcz BK252.out 4 rfl, bcz BK252.out 5 rfl⟩ (fun hHeld => ?_)
        clear hK K
        refine norm_ (a' := ?_) ?_ ?_
        rotate_left
        ·show Act.put _ (some 57) _ = _
         simp only [Act.put, List.setIfInBounds_toArray, List.set_cons_zero, List.set_cons_succ, i64_w, i32_w]
         rfl
        refine pure_ (i := 4) (N := some 58) (v := ?_) (a' := ?_) #[true, true, true, true, true] rfl rfl z13_13 (fun _ _ _ h => h) (Or.inl ⟨by rfl, ?_⟩) ?_ ?_
        rotate_left
        ·intro w'
         go_simp
         with_reducible rfl
        rotate_left
        ·simp only [Act.put, List.setIfInBounds_toArray, List.set_cons_zero, List.set_cons_succ, i64_w, i32_w]
         rfl
        refine done_ z13_13 ?_
        go_upto_region 21 with (first | ((with_reducible refine gate_callee (f := 17) rfl ?_); refine goesL_ (some 61) rfl rfl Try.func17 z13_13 rfl #[.slice A1 l1.length c1] rfl z13_2 ?_; (with_reducible refine (laws_toIntA2S.calls kj18 _ _ l1 t296 _ ?side1 ?side2 A49.out).mono ?_); (case side1 => have zh := (Kd.C_below HR1.out HB.out); exact z13_C); (case side2 => exact HC1.out); rintro e w59 ⟨v297, rfl, ho0, hb⟩; refine ⟨_, rfl, ?_⟩; have n0_ := z13_A (Kd.R_below z13_8 hb); have n1_ := z13_A (Kd.R_elder' z13_9 (Kd.R_base ho0) hb); have n2_ := z13_A (Kd.R_below z13_7 hb); have n3_ := z13_A (Kd.R_below z13_6 hb); have n4_ := z13_A (Kd.R_below z13_14 hb); have n5_ := z13_A (Kd.R_lower (Kd.R_new' ho0 (Kd.R_lt z13_9)) (below_size z13_1)); have n6_ := z13_A (blk_below (g := gb252) (o := .cells #[.int .i64 a0_0, .slice A0_1 l0_1.length c0_1, .int .i64 a0_2, .int .i64 a0_3, .int .i64 a0_4, .int .i64 a0_5] 24 (0, 0)) z13_3 hb); have n7_ := z13_A (blk_below (g := gb278) (o := .cells #[.int .i64 t270, .slice Ao34 t271.length co34, .int .i64 t274, .int .i64 t275, .int .i64 t276, .int .i64 t277] 30 (0, 0)) z13_4 hb); have n8_ := z13_A (below_step z13_1 hb); clear HO_6 HO_9 HO_10 HO_279001 HO290 BK252 BK278 HB; revert n0_ n1_ n2_ n3_ n4_ n5_ n6_ n7_ n8_; intro HO_6 HO_9 HO_10 HO_279001 HO290 HO298 BK252 BK278 HB; (try clear hb); (try clear hb2); (try clear hk); (try clear hi); (try clear ho0); obtain ⟨Ao60, co60, eo60⟩ := Kd.R_slice HO298.out; subst eo60) | ((with_reducible refine gate_callee (f := 20) rfl ?_); refine goesL_ (some 62) rfl rfl Try.func20 z13_13 rfl #[.slice Ao37 t279.length co37, .slice Ao60 t296.length co60] rfl z13_2 ?_; (with_reducible refine (laws_eqIntA2S.calls kj18 _ _ t279 _ _ t296 true _ ?side1 ?side2 ?side3 ?side4 A50.out).mono ?_); (case side1 => have zh := (Kd.R_reads' HO_9.out).2.2; exact z13_C); (case side2 => exact (Kd.R_reads' HO_9.out).2.1); (case side3 => have zh := (Kd.R_reads' HO298.out).2.2; exact z13_C); (case side4 => exact (Kd.R_reads' HO298.out).2.1); rintro e w61 ⟨rfl, hb⟩; refine ⟨_, rfl, ?_⟩; have n0_ := z13_A (Kd.R_below z13_8 hb); have n1_ := z13_A (Kd.R_below z13_9 hb); have n2_ := z13_A (Kd.R_below z13_7 hb); have n3_ := z13_A (Kd.R_below z13_6 hb); have n4_ := z13_A (Kd.R_below z13_14 hb); have n5_ := z13_A (Kd.R_below z13_38 hb); have n6_ := z13_A (blk_below (g := gb252) (o := .cells #[.int .i64 a0_0, .slice A0_1 l0_1.length c0_1, .int .i64 a0_2, .int .i64 a0_3, .int .i64 a0_4, .int .i64 a0_5] 24 (0, 0)) z13_3 hb); have n7_ := z13_A (blk_below (g := gb278) (o := .cells #[.int .i64 t270, .slice Ao34 t271.length co34, .int .i64 t274, .int .i64 t275, .int .i64 t276, .int .i64 t277] 30 (0, 0)) z13_4 hb); have n8_ := z13_A (below_step z13_1 hb); clear HO_6 HO_9 HO_10 HO_279001 HO290 HO298 BK252 BK278 HB; revert n0_ n1_ n2_ n3_ n4_ n5_ n6_ n7_ n8_; intro HO_6 HO_9 HO_10 HO_279001 HO290 HO298 BK252 BK278 HB; (try clear hb); (try clear hb2); (try clear hk); (try clear hi); have hnb62 := NB278_252.out; have hnc62 := NB252_278.out; have hcz63_0 : w61.cell? ⟨gb278, 0, none⟩ = some (.int .i64 t270) := bcz BK278.out 0 rfl; have hcz63_1 : w61.cell? ⟨gb278, 1, none⟩ = some (.slice Ao34 t271.length co34) := bcz BK278.out 1 rfl; have hcz63_2 : w61.cell? ⟨gb278, 2, none⟩ = some (.int .i64 t274) := bcz BK278.out 2 rfl; have hcz63_3 : w61.cell? ⟨gb278, 3, none⟩ = some (.int .i64 t275) := bcz BK278.out 3 rfl; have hcz63_4 : w61.cell? ⟨gb278, 4, none⟩ = some (.int .i64 t276) := bcz BK278.out 4 rfl; have hcz63_5 : w61.cell? ⟨gb278, 5, none⟩ = some (.int .i64 t277) := bcz BK278.out 5 rfl; obtain ⟨hfz63_0, hfz63_1, hfz63_2, hfz63_3⟩ := F4z (blk_frozen BK278.out); have hfz63_4 := blk_frozen BK278.out 4; have hfz63_5 := blk_frozen BK278.out 5) | ((with_reducible refine gate_callee (f := 26) rfl ?_); refine goesL_ (some 66) rfl rfl Try.func26 z13_13 rfl #[.agg #[.int .i64 t270, .slice Ao34 t271.length co34, .int .i64 t274, .int .i64 t275, .int .i64 t276, .int .i64 t277], .int .i64 1] rfl z13_2 ?_; (with_reducible refine (laws_markProcess.calls kj18 t270 (fun k_ => some k_ = (.slice Ao34 t271.length co34 : Value).ownBlock) (.slice Ao34 t271.length co34) t271 t274 t275 t276 t277 1 t300 t301 w _ ?side1 ?side2 A52.out).mono ?_); (case side1 => repeat (first | (with_reducible first | exact HB.out | apply below_alloc | apply pw_below_drewN | apply below_drew1 | refine below_set ?_ GE252.out | refine below_set ?_ GE278.out) | exact HB.out)); (case side2 => exact Kd.R_tight rfl HO_279001.out); rintro e w64 ⟨rfl, hy0, hb, hkp⟩; refine ⟨_, rfl, ?_⟩; have n0_ := z13_A (Kd.R_mono (ok' := fun k_ => z13_V k_ v283 ∧ z13_S k_ Ao34 t271.length co34 ∧ z13_S k_ Ao57 t288.length co57) (Kd.R_keptB (HO_6.out) hkp (fun k_ hk_ hs_ => (hk_.1.2) hs_)) (fun k_ hk_ => ⟨hk_.1.1.1, hk_.1.1.2, hk_.1.2⟩)); have n1_ := z13_A (Kd.R_mono (ok' := fun k_ => z13_S k_ Ao60 t296.length co60) (Kd.R_keptB ((Kd.R_apart' HO_9.out (Kd.R_typed HO_279001.out) z13_29)) hkp (fun k_ hk_ hs_ => (hk_.2) hs_)) (fun k_ hk_ => hk_.1.1.2)); have n2_ := z13_A (Kd.R_mono (ok' := fun k_ => z13_V k_ v267 ∧ z13_S k_ Ao34 t271.length co34 ∧ z13_S k_ Ao57 t288.length co57) (Kd.R_keptB (HO_10.out) hkp (fun k_ hk_ hs_ => (hk_.1.2) hs_)) (fun k_ hk_ => ⟨hk_.1.1.1, hk_.1.1.2, hk_.1.2⟩)); have n3_ := z13_A (Kd.R_reok rfl hy0 (fun k_ e_ => HO_279001.out.1 k_ e_)); have n4_ := z13_A (blk_kept (g := gb252) (o := .cells #[.int .i64 a0_0, .slice A0_1 l0_1.length c0_1, .int .i64 a0_2, .int .i64 a0_3, .int .i64 a0_4, .int .i64 a0_5] 24 (0, 0)) z13_3 hkp (fun hs_ => (fun e_ => (Kd.R_ne HO_279001.out BK252.out z13_29) e_) hs_)); have n5_ := z13_A (blk_kept (g := gb278) (o := .cells #[.int .i64 t270, .slice Ao34 t271.length co34, .int .i64 t274, .int .i64 t275, .int .i64 t276, .int .i64 t277] 30 (0, 0)) z13_4 hkp (fun hs_ => (fun e_ => (Kd.R_ne HO_279001.out BK278.out z13_29) e_) hs_)); have n6_ := z13_A (Kd.R_mono (ok' := fun k_ => z13_V k_ v267 ∧ z13_V k_ v283 ∧ z13_S k_ Ao34 t271.length co34) (Kd.R_keptB (HO290.out) hkp (fun k_ hk_ hs_ => (hk_.2) hs_)) (fun k_ hk_ => ⟨hk_.1.1.1.2, hk_.1.1.2, hk_.1.2⟩)); have n7_ := z13_A (Kd.R_mono (ok' := fun k_ => z13_S k_ Ao37 t279.length co37) (Kd.R_keptB ((Kd.R_apart' HO298.out (Kd.R_typed HO_279001.out) z13_29)) hkp (fun k_ hk_ hs_ => (hk_.2) hs_)) (fun k_ hk_ => hk_.1.1.2)); have n8_ := z13_A (hb); clear HO_6 HO_9 HO_10 HO_279001 BK252 BK278 HO290 HO298 HB; revert n0_ n1_ n2_ n3_ n4_ n5_ n6_ n7_ n8_; intro HO_6 HO_9 HO_10 HO_279001 BK252 BK278 HO290 HO298 HB; (try clear hb); (try clear hkp); (try clear hy0)) | ((with_reducible refine gate_callee (f := 37) rfl ?_); refine goesL_ (some 69) rfl rfl Try.func37 z13_13 rfl #[.slice Ao37 t279.length co37, .int .i64 t300] rfl z13_2 ?_; (with_reducible refine (laws_markIntA2S.calls kj18 (fun k_ => some k_ = (.slice Ao37 t279.length co37 : Value).ownBlock) (.slice Ao37 t279.length co37) t279 t300 t302 t303 w _ ?side1 ?side2 A53.out).mono ?_); (case side1 => repeat (first | (with_reducible first | exact HB.out | apply below_alloc | apply pw_below_drewN | apply below_drew1 | refine below_set ?_ GE252.out | refine below_set ?_ GE278.out) | exact HB.out)); (case side2 => exact Kd.R_tight rfl HO_9.out); rintro e w65 ⟨rfl, hy0, hb, hkp⟩; refine ⟨_, rfl, ?_⟩; have n0_ := z13_A (Kd.R_mono (ok' := fun k_ => z13_V k_ v283 ∧ z13_S k_ Ao34 t271.length co34 ∧ z13_S k_ Ao57 t288.length co57) (Kd.R_keptB ((Kd.R_apart' HO_6.out (Kd.R_typed HO_9.out) z13_29)) hkp (fun k_ hk_ hs_ => (hk_.2) hs_)) (fun k_ hk_ => ⟨hk_.1.1.1, hk_.1.1.2.1, hk_.1.1.2.2⟩)); have n1_ := z13_A (Kd.R_reok rfl hy0 (fun k_ e_ => HO_9.out.1 k_ e_)); have n2_ := z13_A (Kd.R_mono (ok' := fun k_ => z13_V k_ v267 ∧ z13_S k_ Ao34 t271.length co34 ∧ z13_S k_ Ao57 t288.length co57) (Kd.R_keptB ((Kd.R_apart' HO_10.out (Kd.R_typed HO_9.out) z13_29)) hkp (fun k_ hk_ hs_ => (hk_.2) hs_)) (fun k_ hk_ => ⟨hk_.1.1.1, hk_.1.1.2.1, hk_.1.1.2.2⟩)); have n3_ := z13_A (Kd.R_mono (ok' := fun k_ => z13_V k_ v267 ∧ z13_V k_ v283 ∧ z13_S k_ Ao57 t288.length co57) (Kd.R_keptB ((Kd.R_apart' HO_279001.out (Kd.R_typed HO_9.out) z13_29)) hkp (fun k_ hk_ hs_ => (hk_.2) hs_)) (fun k_ hk_ => ⟨hk_.1.1.1.1, hk_.1.1.1.2, hk_.1.1.2⟩)); have n4_ := z13_A (blk_kept (g := gb252) (o := .cells #[.int .i64 a0_0, .slice A0_1 l0_1.length c0_1, .int .i64 a0_2, .int .i64 a0_3, .int .i64 a0_4, .int .i64 a0_5] 24 (0, 0)) z13_3 hkp (fun hs_ => (fun e_ => (Kd.R_ne HO_9.out BK252.out z13_29) e_) hs_)); have n5_ := z13_A (blk_kept (g := gb278) (o := .cells #[.int .i64 t270, .slice Ao34 t271.length co34, .int .i64 t274, .int .i64 t275, .int .i64 t276, .int .i64 t277] 30 (0, 0)) z13_4 hkp (fun hs_ => (fun e_ => (Kd.R_ne HO_9.out BK278.out z13_29) e_) hs_)); have n6_ := z13_A (Kd.R_mono (ok' := fun k_ => z13_V k_ v267 ∧ z13_V k_ v283 ∧ z13_S k_ Ao34 t271.length co34) (Kd.R_keptB ((Kd.R_apart' HO290.out (Kd.R_typed HO_9.out) z13_29)) hkp (fun k_ hk_ hs_ => (hk_.2) hs_)) (fun k_ hk_ => ⟨hk_.1.1.1, hk_.1.1.2.1, hk_.1.1.2.2⟩)); have n7_ := z13_A (Kd.R_mono (ok' := fun k_ => z13_S k_ Ao37 t279.length co37) (Kd.R_keptB (HO298.out) hkp (fun k_ hk_ hs_ => (hk_) hs_)) (fun k_ hk_ => hk_.1)); have n8_ := z13_A (hb); clear HO_6 HO_9 HO_10 HO_279001 BK252 BK278 HO290 HO298 HB; revert n0_ n1_ n2_ n3_ n4_ n5_ n6_ n7_ n8_; intro HO_6 HO_9 HO_10 HO_279001 BK252 BK278 HO290 HO298 HB; (try clear hb); (try clear hkp); (try clear hy0)))
        (try simp only [Act.put, List.setIfInBounds_toArray, List.set_cons_zero, List.set_cons_succ])
        go_cut [82] (fun v82 wc => ∃ (kq : Nat) (x82_53 : Bool), v82 = .bool x82_53 ∧ Aside0 (laws_FnExactPolicyWorth.j1 kq l1 t266 t269 t282 x82_53 a0_0 l0_1 a0_2 a0_3 a0_4 a0_5 = some r) ∧ Aside0 (kq ≤ kj18) ∧ Aside0 (Kd.R (Kd.int .i64) 3 wc w.heap.size (fun k_ => z13_V k_ v283 ∧ some k_ ≠ ((.slice Ao34 t271.length co34) : Value).ownBlock) v267 t266) ∧ Aside0 (Kd.R (Kd.int .i64) 3 wc w.heap.size (fun k_ => z13_V k_ v267 ∧ some k_ ≠ ((.slice Ao34 t271.length co34) : Value).ownBlock) v283 t282) ∧ Aside0 (Kd.R (Kd.int .i64) 3 wc w.heap.size (fun k_ => z13_V k_ v267 ∧ z13_V k_ v283) (.slice Ao34 t271.length co34) t301) ∧ Aside0 (wc.heap[gb252]? = some (.cells #[.int .i64 a0_0, (.slice A0_1 l0_1.length c0_1), .int .i64 a0_2, .int .i64 a0_3, .int .i64 a0_4, .int .i64 a0_5] 24 (0, 0))) ∧ Aside0 (wc.heap[gb278]? = some (.cells #[.int .i64 t270, (.slice Ao34 t271.length co34), .int .i64 t274, .int .i64 t275, .int .i64 t276, .int .i64 t277] 30 (0, 0))) ∧ Aside0 (Below w.heap.size w wc))
        case first =>
         have H := HC54.out
         clear HC54
         by_cases c66 : t302 < 0
         ·rw [if_pos c66] at H
          have c66b0 : decide (t302 < 0) = true := decide_eq_true c66
          clear c66
          (first | rw [c66b0] | (simp only [i64_w, i32_w]; rw [c66b0]) | skip)
          have H' := z13_A H
          clear H
          go_wp2
          go_meet
          case rel => exact ⟨_, (true), z13_23, H', ⟨z13_37⟩, ⟨z13_22⟩, ⟨z13_21⟩, ⟨z13_20⟩, ⟨z13_3⟩, ⟨z13_4⟩, ⟨z13_1⟩⟩
         ·rw [if_neg c66] at H
          have c66b0 : decide (t302 < 0) = false := decide_eq_false c66
          clear c66
          (first | rw [c66b0] | (simp only [i64_w, i32_w]; rw [c66b0]) | skip)
          replace H := Option.bind_eq_some_iff.mp H
          obtain ⟨t304, A670, H⟩ := H
          (try dsimp only at H)
          have A67 := z13_A A670
          clear A670
          by_cases c68 : t304 = true
          ·subst c68
           have H1 : (laws_FnExactPolicyWorth.j1 kj18 l1 t266 t269 t282 (t285 != t269) a0_0 l0_1 a0_2 a0_3 a0_4 a0_5) = some r := z13_24
           clear H
           have H := H1
           clear H1
           have H' := z13_A H
           clear H
           obtain ⟨Ao69, co69, eo69⟩ := Kd.R_slice HO_10.out
           subst eo69
           obtain ⟨Ao70, co70, eo70⟩ := Kd.R_slice HO_6.out
           subst eo70
           go_wp2_with (first | (go_at_call 25; (with_reducible refine (laws_eqIntS.calls kj18 _ _ t282 _ _ t266 true _ ?side1 ?side2 ?side3 ?side4 A67.out).mono ?_); (case side1 => have zh := (Kd.R_reads' HO_10.out).2.2; exact z13_C); (case side2 => exact (Kd.R_reads' HO_10.out).2.1); (case side3 => have zh := (Kd.R_reads' HO_6.out).2.2; exact z13_C); (case side4 => exact (Kd.R_reads' HO_6.out).2.1); rintro e w' ⟨rfl, ⟨nd, rfl⟩⟩))
           go_meet
           case rel => exact ⟨_, ((t285 != t269)), z13_23, H', ⟨z13_37⟩, ⟨z13_22⟩, ⟨z13_21⟩, ⟨z13_20⟩, ⟨z13_3⟩, ⟨z13_4⟩, ⟨z13_1⟩⟩
          ·replace c68 := Bool.eq_false_iff.mpr c68
           subst c68
           have H1 : (laws_FnExactPolicyWorth.j1 kj18 l1 t266 t269 t282 true a0_0 l0_1 a0_2 a0_3 a0_4 a0_5) = some r := z13_17
           clear H
           have H := H1
           clear H1
           have H' := z13_A H
           clear H
           obtain ⟨Ao71, co71, eo71⟩ := Kd.R_slice HO_10.out
           subst eo71
           obtain ⟨Ao72, co72, eo72⟩ := Kd.R_slice HO_6.out
           subst eo72
           go_wp2_with (first | (go_at_call 25; (with_reducible refine (laws_eqIntS.calls kj18 _ _ t282 _ _ t266 false _ ?side1 ?side2 ?side3 ?side4 A67.out).mono ?_); (case side1 => have zh := (Kd.R_reads' HO_10.out).2.2; exact z13_C); (case side2 => exact (Kd.R_reads' HO_10.out).2.1); (case side3 => have zh := (Kd.R_reads' HO_6.out).2.2; exact z13_C); (case side4 => exact (Kd.R_reads' HO_6.out).2.1); rintro e w' ⟨rfl, ⟨nd, rfl⟩⟩))
           go_meet
           case rel => exact ⟨_, (true), z13_23, H', ⟨z13_37⟩, ⟨z13_22⟩, ⟨z13_21⟩, ⟨z13_20⟩, ⟨z13_3⟩, ⟨z13_4⟩, ⟨z13_1⟩⟩
        case rest =>
         clear HC54
         (try clear c1); (try clear c2); (try clear p2); (try clear c3); (try clear c4); (try clear c4b0); (try clear c5); (try clear c6); (try clear c9); (try clear c9b0); (try clear c13); (try clear c14); (try clear c16); (try clear c17); (try clear c19); (try clear c20); (try clear c25); (try clear c26); (try clear c32); (try clear c37); (try clear c40); (try clear c42); (try clear c43); (try clear c45); (try clear c48); (try clear c51); (try clear c62); (try clear c66); (try clear c66b0); (try clear c68); (try clear hcz11_0); (try clear hcz11_1); (try clear hcz11_2); (try clear hcz11_3); (try clear hcz11_4); (try clear hcz11_5); (try clear hcz21_0); (try clear hcz21_1); (try clear hcz21_2); (try clear hcz21_3); (try clear hcz21_4); (try clear hcz21_5); (try clear hcz23_0); (try clear hcz23_1); (try clear hcz23_2); (try clear hcz23_3); (try clear hcz23_4); (try clear hcz23_5); (try clear hcz29_0); (try clear hcz29_1); (try clear hcz29_2); (try clear hcz29_3); (try clear hcz29_4); (try clear hcz29_5); (try clear hcz33_0); (try clear hcz33_1); (try clear hcz33_2); (try clear hcz33_3); (try clear hcz33_4); (try clear hcz33_5); (try clear hcz36_0); (try clear hcz36_1); (try clear hcz36_2); (try clear hcz36_3); (try clear hcz36_4); (try clear hcz36_5); (try clear hcz63_0); (try clear hcz63_1); (try clear hcz63_2); (try clear hcz63_3); (try clear hcz63_4); (try clear hcz63_5); (try clear hcz6_0); (try clear hcz6_1); (try clear hcz6_2); (try clear hcz6_3); (try clear hcz6_4); (try clear hcz6_5); (try clear hfz11_0); (try clear hfz11_1); (try clear hfz11_2); (try clear hfz11_3); (try clear hfz11_4); (try clear hfz11_5); (try clear hfz21_0); (try clear hfz21_1); (try clear hfz21_2); (try clear hfz21_3); (try clear hfz21_4); (try clear hfz21_5); (try clear hfz23_0); (try clear hfz23_1); (try clear hfz23_2); (try clear hfz23_3); (try clear hfz23_4); (try clear hfz23_5); (try clear hfz29_0); (try clear hfz29_1); (try clear hfz29_2); (try clear hfz29_3); (try clear hfz29_4); (try clear hfz29_5); (try clear hfz33_0); (try clear hfz33_1); (try clear hfz33_2); (try clear hfz33_3); (try clear hfz33_4); (try clear hfz33_5); (try clear hfz36_0); (try clear hfz36_1); (try clear hfz36_2); (try clear hfz36_3); (try clear hfz36_4); (try clear hfz36_5); (try clear hfz63_0); (try clear hfz63_1); (try clear hfz63_2); (try clear hfz63_3); (try clear hfz63_4); (try clear hfz63_5); (try clear hfz6_0); (try clear hfz6_1); (try clear hfz6_2); (try clear hfz6_3); (try clear hfz6_4); (try clear hfz6_5); (try clear p2)
         obtain ⟨kq, x82_53, rfl, HA, HJ53, HO_6, HO_10, HO_279001, BK252, BK278, HB⟩ := hcut
         have hl279001_53 := (Kd.R_reads' HO_279001.out).1
         rw [hl279001_53] at HO_279001
         (try simp only [hl279001_53])
         (try simp only [hl279001_53] at BK252)
         (try simp only [hl279001_53] at BK278)
         (try simp only [hl279001_53] at HO_6)
         (try simp only [hl279001_53] at HO_10)
         cases kq with
         | zero => exact absurd HA.out (by simp [laws_FnExactPolicyWorth.j1])
         | succ kj53 =>
          have H := HA.out
          clear HA
          simp only [laws_FnExactPolicyWorth.j1] at H
          by_cases c73 : x82_53 = true
          ·subst c73
           have H1 : (some false) = some r := z13_24
           clear H
           have H := H1
           clear H1
           obtain rfl := Option.some.inj H
           go_wp2
           go_ret
           exact ⟨z13_11, z13_1⟩
          ·replace c73 := Bool.eq_false_iff.mpr c73
           subst c73
           have H1 : ((laws_markIntS.f kj53 t282 1).bind fun bt305 => ((laws_heldIntS.f kj53 bt305.2 1).bind fun t307 => (if t307 < 0 then (some false) else (if t307 = bt305.1 then ((laws_toProcess.f kj53 a0_0 l0_1 a0_2 a0_3 a0_4 a0_5).bind fun bt308 => ((laws_toIntA2S.f kj53 l1).bind fun t316 => ((impl_PolicyWorth.f kj53 bt308.1 bt308.2.1 bt308.2.2.1 bt308.2.2.2.1 bt308.2.2.2.2.1 bt308.2.2.2.2.2 t316).bind fun bt319 => ((laws_eqIntS.f kj53 bt319.1 t266).bind fun t323 => (if t323 = true then (laws_FnExactPolicyWorth.j2 kj53 bt305.2 bt305.1 (bt319.2 != t269)) else (laws_FnExactPolicyWorth.j2 kj53 bt305.2 bt305.1 true)))))) else (some false))))) = some r := z13_17
           clear H
           have H := H1
           clear H1
           replace H := Option.bind_eq_some_iff.mp H
           obtain ⟨⟨t305, t306⟩, A740, H⟩ := H
           (try dsimp only at H)
           have A74 := z13_A A740
           clear A740
           replace H := Option.bind_eq_some_iff.mp H
           obtain ⟨t307, A750, H⟩ := H
           (try dsimp only at H)
           have A75 := z13_A A750
           clear A750
           by_cases c76 : t307 < 0
           ·rw [if_pos c76] at H
            have c76b0 : decide (t307 < 0) = true := decide_eq_true c76
            clear c76
            obtain rfl := Option.some.inj H
            obtain ⟨Ao77, co77, eo77⟩ := Kd.R_slice HO_10.out
            subst eo77
            go_wp2_with (first | ((with_reducible refine gate_callee (f := 27) rfl ?_); refine goesL_ (some 85) rfl rfl Try.func27 z13_13 rfl #[.slice Ao77 t282.length co77, .int .i64 1] rfl z13_2 ?_; (with_reducible refine (laws_markIntS.calls kj53 (fun k_ => some k_ = (.slice Ao77 t282.length co77 : Value).ownBlock) (.slice Ao77 t282.length co77) t282 1 t305 t306 w _ ?side1 ?side2 A74.out).mono ?_); (case side1 => repeat (first | (with_reducible first | exact HB.out | apply below_alloc | apply pw_below_drewN | apply below_drew1 | refine below_set ?_ GE252.out | refine below_set ?_ GE278.out) | exact HB.out)); (case side2 => exact Kd.R_tight rfl HO_10.out); rintro e w78 ⟨rfl, hy0, hb, hkp⟩; refine ⟨_, rfl, ?_⟩; have n0_ := z13_A (Kd.R_mono (ok' := fun k_ => z13_S k_ Ao77 t282.length co77 ∧ z13_S k_ Ao34 t301.length co34) (Kd.R_keptB (HO_6.out) hkp (fun k_ hk_ hs_ => (hk_.1) hs_)) (fun k_ hk_ => ⟨hk_.1.1, hk_.1.2⟩)); have n1_ := z13_A (Kd.R_reok rfl hy0 (fun k_ e_ => HO_10.out.1 k_ e_)); have n2_ := z13_A (Kd.R_mono (ok' := fun k_ => z13_V k_ v267 ∧ z13_S k_ Ao77 t282.length co77) (Kd.R_keptB (HO_279001.out) hkp (fun k_ hk_ hs_ => (hk_.2) hs_)) (fun k_ hk_ => ⟨hk_.1.1, hk_.1.2⟩)); have n3_ := z13_A (blk_kept (g := gb252) (o := .cells #[.int .i64 a0_0, .slice A0_1 l0_1.length c0_1, .int .i64 a0_2, .int .i64 a0_3, .int .i64 a0_4, .int .i64 a0_5] 24 (0, 0)) z13_3 hkp (fun hs_ => (fun e_ => (Kd.R_ne HO_10.out BK252.out z13_29) e_) hs_)); have n4_ := z13_A (blk_kept (g := gb278) (o := .cells #[.int .i64 t270, .slice Ao34 t301.length co34, .int .i64 t274, .int .i64 t275, .int .i64 t276, .int .i64 t277] 30 (0, 0)) z13_4 hkp (fun hs_ => (fun e_ => (Kd.R_ne HO_10.out BK278.out z13_29) e_) hs_)); have n5_ := z13_A (hb); clear HO_6 HO_10 HO_279001 BK252 BK278 HB; revert n0_ n1_ n2_ n3_ n4_ n5_; intro HO_6 HO_10 HO_279001 BK252 BK278 HB; (try clear hb); (try clear hkp); (try clear hy0)) | ((with_reducible refine gate_callee (f := 28) rfl ?_); refine goesL_ (some 88) rfl rfl Try.func28 z13_13 rfl #[.slice Ao77 t306.length co77, .int .i64 1] rfl z13_16 ?_; (with_reducible refine (laws_heldIntS.calls kj53 _ _ t306 1 t307 _ ?side1 ?side2 A75.out).mono ?_); (case side1 => have zh := (Kd.R_reads' HO_10.out).2.2; exact z13_C); (case side2 => rw [show t306.length = t282.length from (Kd.R_reads' HO_10.out).1.symm]; exact (Kd.R_reads' HO_10.out).2.1); rintro e w' ⟨rfl, ⟨nd, rfl⟩⟩; refine ⟨_, rfl, ?_⟩))
            go_ret
            exact ⟨z13_11, z13_1⟩
           ·rw [if_neg c76] at H
            have c76b0 : decide (t307 < 0) = false := decide_eq_false c76
            clear c76
            by_cases c79 : t307 = t305
            ·rw [if_pos c79] at H
             have c79b0 : (t307 == t305) = true := beq_iff_eq.mpr c79
             have c79b1 : (t307 != t305) = false := bne_eq_false_iff_eq.mpr c79
             clear c79
             replace H := Option.bind_eq_some_iff.mp H
             obtain ⟨⟨t308, t309, t312, t313, t314, t315⟩, A800, H⟩ := H
             (try dsimp only at H)
             have A80 := z13_A A800
             clear A800
             replace H := Option.bind_eq_some_iff.mp H
             obtain ⟨t316, A810, H⟩ := H
             (try dsimp only at H)
             have A81 := z13_A A810
             clear A810
             replace H := Option.bind_eq_some_iff.mp H
             obtain ⟨⟨t319, t322⟩, A820, H⟩ := H
             (try dsimp only at H)
             have A82 := z13_A A820
             clear A820
             have HC83 := z13_A H
             clear H
             obtain ⟨Ao84, co84, eo84⟩ := Kd.R_slice HO_10.out
             subst eo84
             go_upto_region 32 with (first | ((with_reducible refine gate_callee (f := 27) rfl ?_); refine goesL_ (some 85) rfl rfl Try.func27 z13_13 rfl #[.slice Ao84 t282.length co84, .int .i64 1] rfl z13_2 ?_; (with_reducible refine (laws_markIntS.calls kj53 (fun k_ => some k_ = (.slice Ao84 t282.length co84 : Value).ownBlock) (.slice Ao84 t282.length co84) t282 1 t305 t306 w _ ?side1 ?side2 A74.out).mono ?_); (case side1 => repeat (first | (with_reducible first | exact HB.out | apply below_alloc | apply pw_below_drewN | apply below_drew1 | refine below_set ?_ GE252.out | refine below_set ?_ GE278.out) | exact HB.out)); (case side2 => exact Kd.R_tight rfl HO_10.out); rintro e w85 ⟨rfl, hy0, hb, hkp⟩; refine ⟨_, rfl, ?_⟩; have n0_ := z13_A (Kd.R_mono (ok' := fun k_ => z13_S k_ Ao84 t282.length co84 ∧ z13_S k_ Ao34 t301.length co34) (Kd.R_keptB (HO_6.out) hkp (fun k_ hk_ hs_ => (hk_.1) hs_)) (fun k_ hk_ => ⟨hk_.1.1, hk_.1.2⟩)); have n1_ := z13_A (Kd.R_reok rfl hy0 (fun k_ e_ => HO_10.out.1 k_ e_)); have n2_ := z13_A (Kd.R_mono (ok' := fun k_ => z13_V k_ v267 ∧ z13_S k_ Ao84 t282.length co84) (Kd.R_keptB (HO_279001.out) hkp (fun k_ hk_ hs_ => (hk_.2) hs_)) (fun k_ hk_ => ⟨hk_.1.1, hk_.1.2⟩)); have n3_ := z13_A (blk_kept (g := gb252) (o := .cells #[.int .i64 a0_0, .slice A0_1 l0_1.length c0_1, .int .i64 a0_2, .int .i64 a0_3, .int .i64 a0_4, .int .i64 a0_5] 24 (0, 0)) z13_3 hkp (fun hs_ => (fun e_ => (Kd.R_ne HO_10.out BK252.out z13_29) e_) hs_)); have n4_ := z13_A (blk_kept (g := gb278) (o := .cells #[.int .i64 t270, .slice Ao34 t301.length co34, .int .i64 t274, .int .i64 t275, .int .i64 t276, .int .i64 t277] 30 (0, 0)) z13_4 hkp (fun hs_ => (fun e_ => (Kd.R_ne HO_10.out BK278.out z13_29) e_) hs_)); have n5_ := z13_A (hb); clear HO_6 HO_10 HO_279001 BK252 BK278 HB; revert n0_ n1_ n2_ n3_ n4_ n5_; intro HO_6 HO_10 HO_279001 BK252 BK278 HB; (try clear hb); (try clear hkp); (try clear hy0)) | ((with_reducible refine gate_callee (f := 28) rfl ?_); refine goesL_ (some 88) rfl rfl Try.func28 z13_13 rfl #[.slice Ao84 t306.length co84, .int .i64 1] rfl z13_16 ?_; (with_reducible refine (laws_heldIntS.calls kj53 _ _ t306 1 t307 _ ?side1 ?side2 A75.out).mono ?_); (case side1 => have zh := (Kd.R_reads' HO_10.out).2.2; exact z13_C); (case side2 => rw [show t306.length = t282.length from (Kd.R_reads' HO_10.out).1.symm]; exact (Kd.R_reads' HO_10.out).2.1); rintro e w' ⟨rfl, ⟨nd, rfl⟩⟩; refine ⟨_, rfl, ?_⟩; have hnb86 := NB252_278.out; have hnc86 := NB278_252.out; have hcz87_0 : w85.cell? ⟨gb252, 0, none⟩ = some (.int .i64 a0_0) := bcz BK252.out 0 rfl; have hcz87_1 : w85.cell? ⟨gb252, 1, none⟩ = some (.slice A0_1 l0_1.length c0_1) := bcz BK252.out 1 rfl; have hcz87_2 : w85.cell? ⟨gb252, 2, none⟩ = some (.int .i64 a0_2) := bcz BK252.out 2 rfl; have hcz87_3 : w85.cell? ⟨gb252, 3, none⟩ = some (.int .i64 a0_3) := bcz BK252.out 3 rfl; have hcz87_4 : w85.cell? ⟨gb252, 4, none⟩ = some (.int .i64 a0_4) := bcz BK252.out 4 rfl; have hcz87_5 : w85.cell? ⟨gb252, 5, none⟩ = some (.int .i64 a0_5) := bcz BK252.out 5 rfl; obtain ⟨hfz87_0, hfz87_1, hfz87_2, hfz87_3⟩ := F4z (blk_frozen BK252.out); have hfz87_4 := blk_frozen BK252.out 4; have hfz87_5 := blk_frozen BK252.out 5) | ((with_reducible refine gate_callee (f := 16) rfl ?_); refine goesL_ (some 96) rfl rfl Try.func16 z13_13 rfl #[.agg #[.int .i64 a0_0, .slice A0_1 l0_1.length c0_1, .int .i64 a0_2, .int .i64 a0_3, .int .i64 a0_4, .int .i64 a0_5]] rfl z13_2 ?_; (with_reducible refine (laws_toProcess.calls kj53 a0_0 _ _ l0_1 a0_2 a0_3 a0_4 a0_5 t308 t309 t312 t313 t314 t315 _ ?side1 ?side2 A80.out).mono ?_); (case side1 => repeat (first | exact (Kd.C_below HR0_1.out z13_1) | (with_reducible refine Kd.C_alloc ?_ _) | (with_reducible refine Kd.C_drewN ?_ _) | (with_reducible refine Kd.C_drew ?_))); (case side2 => exact HC0_1.out); rintro e w88 ⟨v310, rfl, ho0, hb⟩; refine ⟨_, rfl, ?_⟩; have n0_ := z13_A (Kd.R_elder' z13_8 (Kd.R_base ho0) hb); have n1_ := z13_A (Kd.R_elder' z13_7 (Kd.R_base ho0) hb); have n2_ := z13_A (Kd.R_elder' z13_6 (Kd.R_base ho0) hb); have n3_ := z13_A (Kd.R_lower (Kd.R_new' (Kd.R_new' (Kd.R_new' ho0 (Kd.R_lt z13_8)) (Kd.R_lt z13_7)) (Kd.R_lt z13_6)) (below_size z13_1)); have n4_ := z13_A (blk_below (g := gb252) (o := .cells #[.int .i64 a0_0, .slice A0_1 l0_1.length c0_1, .int .i64 a0_2, .int .i64 a0_3, .int .i64 a0_4, .int .i64 a0_5] 24 (0, 0)) z13_3 hb); have n5_ := z13_A (blk_below (g := gb278) (o := .cells #[.int .i64 t270, .slice Ao34 t301.length co34, .int .i64 t274, .int .i64 t275, .int .i64 t276, .int .i64 t277] 30 (0, 0)) z13_4 hb); have n6_ := z13_A (below_step z13_1 hb); clear HO_6 HO_10 HO_279001 BK252 BK278 HB; revert n0_ n1_ n2_ n3_ n4_ n5_ n6_; intro HO_6 HO_10 HO_279001 HO311 BK252 BK278 HB; (try clear hb); (try clear hb2); (try clear hk); (try clear hi); (try clear ho0)) | ((with_reducible refine gate_callee (f := 17) rfl ?_); refine goesL_ (some 98) rfl rfl Try.func17 z13_13 rfl #[.slice A1 l1.length c1] rfl z13_2 ?_; (with_reducible refine (laws_toIntA2S.calls kj53 _ _ l1 t316 _ ?side1 ?side2 A81.out).mono ?_); (case side1 => have zh := (Kd.C_below HR1.out HB.out); exact z13_C); (case side2 => exact HC1.out); rintro e w89 ⟨v317, rfl, ho0, hb⟩; refine ⟨_, rfl, ?_⟩; have n0_ := z13_A (Kd.R_below z13_8 hb); have n1_ := z13_A (Kd.R_below z13_7 hb); have n2_ := z13_A (Kd.R_below z13_6 hb); have n3_ := z13_A (Kd.R_below z13_25 hb); have n4_ := z13_A (Kd.R_lower ho0 (below_size z13_1)); have n5_ := z13_A (blk_below (g := gb252) (o := .cells #[.int .i64 a0_0, .slice A0_1 l0_1.length c0_1, .int .i64 a0_2, .int .i64 a0_3, .int .i64 a0_4, .int .i64 a0_5] 24 (0, 0)) z13_3 hb); have n6_ := z13_A (blk_below (g := gb278) (o := .cells #[.int .i64 t270, .slice Ao34 t301.length co34, .int .i64 t274, .int .i64 t275, .int .i64 t276, .int .i64 t277] 30 (0, 0)) z13_4 hb); have n7_ := z13_A (below_step z13_1 hb); clear HO_6 HO_10 HO_279001 HO311 BK252 BK278 HB; revert n0_ n1_ n2_ n3_ n4_ n5_ n6_ n7_; intro HO_6 HO_10 HO_279001 HO311 HO318 BK252 BK278 HB; (try clear hb); (try clear hb2); (try clear hk); (try clear hi); (try clear ho0); obtain ⟨Ao90, co90, eo90⟩ := Kd.R_slice HO311.out; subst eo90; obtain ⟨Ao91, co91, eo91⟩ := Kd.R_slice HO318.out; subst eo91) | ((with_reducible refine gate_callee (f := 43) rfl ?_); refine goesL_ (some 99) rfl rfl Try.func43 z13_13 rfl #[.agg #[.int .i64 t308, .slice Ao90 t309.length co90, .int .i64 t312, .int .i64 t313, .int .i64 t314, .int .i64 t315], .slice Ao91 t316.length co91] rfl z13_2 ?_; (with_reducible refine (impl_PolicyWorth.calls kj53 t308 _ _ t309 t312 t313 t314 t315 _ _ t316 t319 t322 _ ?side1 ?side2 ?side3 ?side4 A82.out).mono ?_); (case side1 => have zh := (Kd.R_reads' HO311.out).2.2; exact z13_C); (case side2 => exact (Kd.R_reads' HO311.out).2.1); (case side3 => have zh := (Kd.R_reads' HO318.out).2.2; exact z13_C); (case side4 => exact (Kd.R_reads' HO318.out).2.1); rintro e w92 ⟨v320, rfl, ho0, hb⟩; refine ⟨_, rfl, ?_⟩; have n0_ := z13_A (Kd.R_elder' z13_8 (Kd.R_base ho0) hb); have n1_ := z13_A (Kd.R_elder' z13_7 (Kd.R_base ho0) hb); have n2_ := z13_A (Kd.R_elder' z13_6 (Kd.R_base ho0) hb); have n3_ := z13_A (Kd.R_elder' z13_25 (Kd.R_base ho0) hb); have n4_ := z13_A (Kd.R_below (by (with_reducible repeat (first | apply Kd.R_alloc | apply Kd.R_drewN | apply Kd.R_drew)); exact HO318.out) hb); have n5_ := z13_A (Kd.R_lower (Kd.R_new' (Kd.R_new' (Kd.R_new' (Kd.R_new' ho0 (Kd.R_lt z13_8)) (Kd.R_lt z13_7)) (Kd.R_lt z13_6)) (Kd.R_lt z13_25)) (below_size z13_1)); have n6_ := z13_A (blk_below (g := gb252) (o := .cells #[.int .i64 a0_0, .slice A0_1 l0_1.length c0_1, .int .i64 a0_2, .int .i64 a0_3, .int .i64 a0_4, .int .i64 a0_5] 24 (0, 0)) z13_3 hb); have n7_ := z13_A (blk_below (g := gb278) (o := .cells #[.int .i64 t270, .slice Ao34 t301.length co34, .int .i64 t274, .int .i64 t275, .int .i64 t276, .int .i64 t277] 30 (0, 0)) z13_4 hb); have n8_ := z13_A (below_step z13_1 hb); clear HO_6 HO_10 HO_279001 HO311 HO318 BK252 BK278 HB; revert n0_ n1_ n2_ n3_ n4_ n5_ n6_ n7_ n8_; intro HO_6 HO_10 HO_279001 HO311 HO318 HO321 BK252 BK278 HB; (try clear hb); (try clear hb2); (try clear hk); (try clear hi); (try clear ho0)))
             (try simp only [Act.put, List.setIfInBounds_toArray, List.set_cons_zero, List.set_cons_succ])
             go_cut [110] (fun v110 wc => ∃ (kq : Nat) (x110_82 : Bool), v110 = .bool x110_82 ∧ Aside0 (laws_FnExactPolicyWorth.j2 kq t306 t305 x110_82 = some r) ∧ Aside0 (kq ≤ kj53) ∧ Aside0 (Kd.R (Kd.int .i64) 3 wc w.heap.size (fun k_ => some k_ ≠ ((.slice Ao34 t301.length co34) : Value).ownBlock) (.slice Ao84 t282.length co84) t306) ∧ Aside0 (Kd.R (Kd.int .i64) 3 wc w.heap.size (fun k_ => some k_ ≠ ((.slice Ao84 t282.length co84) : Value).ownBlock) (.slice Ao34 t301.length co34) t301) ∧ Aside0 (wc.heap[gb252]? = some (.cells #[.int .i64 a0_0, (.slice A0_1 l0_1.length c0_1), .int .i64 a0_2, .int .i64 a0_3, .int .i64 a0_4, .int .i64 a0_5] 24 (0, 0))) ∧ Aside0 (wc.heap[gb278]? = some (.cells #[.int .i64 t270, (.slice Ao34 t301.length co34), .int .i64 t274, .int .i64 t275, .int .i64 t276, .int .i64 t277] 30 (0, 0))) ∧ Aside0 (Below w.heap.size w wc))
             case first =>
              have H := HC83.out
              clear HC83
              replace H := Option.bind_eq_some_iff.mp H
              obtain ⟨t323, A930, H⟩ := H
              (try dsimp only at H)
              have A93 := z13_A A930
              clear A930
              by_cases c94 : t323 = true
              ·subst c94
               have H1 : (laws_FnExactPolicyWorth.j2 kj53 t306 t305 (t322 != t269)) = some r := z13_24
               clear H
               have H := H1
               clear H1
               have H' := z13_A H
               clear H
               obtain ⟨Ao95, co95, eo95⟩ := Kd.R_slice HO321.out
               subst eo95
               obtain ⟨Ao96, co96, eo96⟩ := Kd.R_slice HO_6.out
               subst eo96
               go_wp2_with (first | ((with_reducible refine gate_callee (f := 25) rfl ?_); refine goesL_ (some 104) rfl rfl Try.func25 z13_13 rfl #[.slice Ao95 t319.length co95, .slice Ao96 t266.length co96] rfl z13_2 ?_; (with_reducible refine (laws_eqIntS.calls kj53 _ _ t319 _ _ t266 true _ ?side1 ?side2 ?side3 ?side4 A93.out).mono ?_); (case side1 => have zh := (Kd.R_reads' HO321.out).2.2; exact z13_C); (case side2 => exact (Kd.R_reads' HO321.out).2.1); (case side3 => have zh := (Kd.R_reads' HO_6.out).2.2; exact z13_C); (case side4 => exact (Kd.R_reads' HO_6.out).2.1); rintro e w' ⟨rfl, ⟨nd, rfl⟩⟩; refine ⟨_, rfl, ?_⟩))
               go_meet
               case rel => exact ⟨_, ((t322 != t269)), z13_23, H', ⟨by have := HJ18.out; have := HJ53.out; first | omega | exact Nat.le_refl _⟩, ⟨z13_28⟩, ⟨z13_27⟩, ⟨z13_32⟩, ⟨z13_31⟩, ⟨z13_1⟩⟩
              ·replace c94 := Bool.eq_false_iff.mpr c94
               subst c94
               have H1 : (laws_FnExactPolicyWorth.j2 kj53 t306 t305 true) = some r := z13_17
               clear H
               have H := H1
               clear H1
               have H' := z13_A H
               clear H
               obtain ⟨Ao97, co97, eo97⟩ := Kd.R_slice HO321.out
               subst eo97
               obtain ⟨Ao98, co98, eo98⟩ := Kd.R_slice HO_6.out
               subst eo98
               go_wp2_with (first | ((with_reducible refine gate_callee (f := 25) rfl ?_); refine goesL_ (some 104) rfl rfl Try.func25 z13_13 rfl #[.slice Ao97 t319.length co97, .slice Ao98 t266.length co98] rfl z13_2 ?_; (with_reducible refine (laws_eqIntS.calls kj53 _ _ t319 _ _ t266 false _ ?side1 ?side2 ?side3 ?side4 A93.out).mono ?_); (case side1 => have zh := (Kd.R_reads' HO321.out).2.2; exact z13_C); (case side2 => exact (Kd.R_reads' HO321.out).2.1); (case side3 => have zh := (Kd.R_reads' HO_6.out).2.2; exact z13_C); (case side4 => exact (Kd.R_reads' HO_6.out).2.1); rintro e w' ⟨rfl, ⟨nd, rfl⟩⟩; refine ⟨_, rfl, ?_⟩))
               go_meet
               case rel => exact ⟨_, (true), z13_23, H', ⟨by have := HJ18.out; have := HJ53.out; first | omega | exact Nat.le_refl _⟩, ⟨z13_28⟩, ⟨z13_27⟩, ⟨z13_32⟩, ⟨z13_31⟩, ⟨z13_1⟩⟩
             case rest =>
              clear HC83
              (try clear c1); (try clear c7); (try clear c8); (try clear c27); (try clear c28); (try clear c73); (try clear c76); (try clear c76b0); (try clear c79); (try clear c79b0); (try clear c79b1); (try clear c86); (try clear c94); (try clear hcz87_0); (try clear hcz87_1); (try clear hcz87_2); (try clear hcz87_3); (try clear hcz87_4); (try clear hcz87_5); (try clear hfz87_0); (try clear hfz87_1); (try clear hfz87_2); (try clear hfz87_3); (try clear hfz87_4); (try clear hfz87_5)
              obtain ⟨kq, x110_82, rfl, HA, HJ82, HO_10, HO_279001, BK252, BK278, HB⟩ := hcut
              have hl10_82 := (Kd.R_reads' HO_10.out).1
              rw [hl10_82] at HO_10
              (try simp only [hl10_82])
              (try simp only [hl10_82] at BK252)
              (try simp only [hl10_82] at BK278)
              (try simp only [hl10_82] at HO_279001)
              cases kq with
              | zero => exact absurd HA.out (by simp [laws_FnExactPolicyWorth.j2])
              | succ kj82 =>
               have H := HA.out
               clear HA
               simp only [laws_FnExactPolicyWorth.j2] at H
               by_cases c99 : x110_82 = true
               ·subst c99
                have H1 : (some false) = some r := z13_24
                clear H
                have H := H1
                clear H1
                obtain rfl := Option.some.inj H
                go_wp2
                go_ret
                exact ⟨z13_11, z13_1⟩
               ·replace c99 := Bool.eq_false_iff.mpr c99
                subst c99
                have H1 : ((laws_heldIntS.f kj82 t306 1).bind fun t324 => (if t324 < 0 then (some false) else (if t324 = t305 then (some true) else (some false)))) = some r := z13_17
                clear H
                have H := H1
                clear H1
                replace H := Option.bind_eq_some_iff.mp H
                obtain ⟨t324, A1000, H⟩ := H
                (try dsimp only at H)
                have A100 := z13_A A1000
                clear A1000
                by_cases c101 : t324 < 0
                ·rw [if_pos c101] at H
                 have c101b0 : decide (t324 < 0) = true := decide_eq_true c101
                 clear c101
                 obtain rfl := Option.some.inj H
                 go_wp2_with (first | ((with_reducible refine gate_callee (f := 28) rfl ?_); refine goesL_ (some 113) rfl rfl Try.func28 z13_13 rfl #[.slice Ao84 t306.length co84, .int .i64 1] rfl z13_2 ?_; (with_reducible refine (laws_heldIntS.calls kj82 _ _ t306 1 t324 _ ?side1 ?side2 A100.out).mono ?_); (case side1 => have zh := (Kd.R_reads' HO_10.out).2.2; exact z13_C); (case side2 => exact (Kd.R_reads' HO_10.out).2.1); rintro e w' ⟨rfl, ⟨nd, rfl⟩⟩; refine ⟨_, rfl, ?_⟩))
                 go_ret
                 exact ⟨z13_11, z13_1⟩
                ·rw [if_neg c101] at H
                 have c101b0 : decide (t324 < 0) = false := decide_eq_false c101
                 clear c101
                 by_cases c102 : t324 = t305
                 ·rw [if_pos c102] at H
                  have c102b0 : (t324 == t305) = true := beq_iff_eq.mpr c102
                  have c102b1 : (t324 != t305) = false := bne_eq_false_iff_eq.mpr c102
                  clear c102
                  obtain rfl := Option.some.inj H
                  go_wp2_with (first | ((with_reducible refine gate_callee (f := 28) rfl ?_); refine goesL_ (some 113) rfl rfl Try.func28 z13_13 rfl #[.slice Ao84 t306.length co84, .int .i64 1] rfl z13_2 ?_; (with_reducible refine (laws_heldIntS.calls kj82 _ _ t306 1 t324 _ ?side1 ?side2 A100.out).mono ?_); (case side1 => have zh := (Kd.R_reads' HO_10.out).2.2; exact z13_C); (case side2 => exact (Kd.R_reads' HO_10.out).2.1); rintro e w' ⟨rfl, ⟨nd, rfl⟩⟩; refine ⟨_, rfl, ?_⟩))
                  go_ret
                  exact ⟨z13_11, z13_1⟩
                 ·rw [if_neg c102] at H
                  have c102b0 : (t324 == t305) = false := beq_eq_false_iff_ne.mpr c102
                  have c102b1 : (t324 != t305) = true := bne_iff_ne.mpr c102
                  obtain rfl := Option.some.inj H
                  go_wp2_with (first | ((with_reducible refine gate_callee (f := 28) rfl ?_); refine goesL_ (some 113) rfl rfl Try.func28 z13_13 rfl #[.slice Ao84 t306.length co84, .int .i64 1] rfl z13_2 ?_; (with_reducible refine (laws_heldIntS.calls kj82 _ _ t306 1 t324 _ ?side1 ?side2 A100.out).mono ?_); (case side1 => have zh := (Kd.R_reads' HO_10.out).2.2; exact z13_C); (case side2 => exact (Kd.R_reads' HO_10.out).2.1); rintro e w' ⟨rfl, ⟨nd, rfl⟩⟩; refine ⟨_, rfl, ?_⟩))
                  go_ret
                  exact ⟨z13_11, z13_1⟩
            ·rw [if_neg c79] at H
             have c79b0 : (t307 == t305) = false := beq_eq_false_iff_ne.mpr c79
             have c79b1 : (t307 != t305) = true := bne_iff_ne.mpr c79
             obtain rfl := Option.some.inj H
             obtain ⟨Ao103, co103, eo103⟩ := Kd.R_slice HO_10.out
             subst eo103
             go_wp2_with (first | ((with_reducible refine gate_callee (f := 27) rfl ?_); refine goesL_ (some 85) rfl rfl Try.func27 z13_13 rfl #[.slice Ao103 t282.length co103, .int .i64 1] rfl z13_2 ?_; (with_reducible refine (laws_markIntS.calls kj53 (fun k_ => some k_ = (.slice Ao103 t282.length co103 : Value).ownBlock) (.slice Ao103 t282.length co103) t282 1 t305 t306 w _ ?side1 ?side2 A74.out).mono ?_); (case side1 => repeat (first | (with_reducible first | exact HB.out | apply below_alloc | apply pw_below_drewN | apply below_drew1 | refine below_set ?_ GE252.out | refine below_set ?_ GE278.out) | exact HB.out)); (case side2 => exact Kd.R_tight rfl HO_10.out); rintro e w104 ⟨rfl, hy0, hb, hkp⟩; refine ⟨_, rfl, ?_⟩; have n0_ := z13_A (Kd.R_mono (ok' := fun k_ => z13_S k_ Ao103 t282.length co103 ∧ z13_S k_ Ao34 t301.length co34) (Kd.R_keptB (HO_6.out) hkp (fun k_ hk_ hs_ => (hk_.1) hs_)) (fun k_ hk_ => ⟨hk_.1.1, hk_.1.2⟩)); have n1_ := z13_A (Kd.R_reok rfl hy0 (fun k_ e_ => HO_10.out.1 k_ e_)); have n2_ := z13_A (Kd.R_mono (ok' := fun k_ => z13_V k_ v267 ∧ z13_S k_ Ao103 t282.length co103) (Kd.R_keptB (HO_279001.out) hkp (fun k_ hk_ hs_ => (hk_.2) hs_)) (fun k_ hk_ => ⟨hk_.1.1, hk_.1.2⟩)); have n3_ := z13_A (blk_kept (g := gb252) (o := .cells #[.int .i64 a0_0, .slice A0_1 l0_1.length c0_1, .int .i64 a0_2, .int .i64 a0_3, .int .i64 a0_4, .int .i64 a0_5] 24 (0, 0)) z13_3 hkp (fun hs_ => (fun e_ => (Kd.R_ne HO_10.out BK252.out z13_29) e_) hs_)); have n4_ := z13_A (blk_kept (g := gb278) (o := .cells #[.int .i64 t270, .slice Ao34 t301.length co34, .int .i64 t274, .int .i64 t275, .int .i64 t276, .int .i64 t277] 30 (0, 0)) z13_4 hkp (fun hs_ => (fun e_ => (Kd.R_ne HO_10.out BK278.out z13_29) e_) hs_)); have n5_ := z13_A (hb); clear HO_6 HO_10 HO_279001 BK252 BK278 HB; revert n0_ n1_ n2_ n3_ n4_ n5_; intro HO_6 HO_10 HO_279001 BK252 BK278 HB; (try clear hb); (try clear hkp); (try clear hy0)) | ((with_reducible refine gate_callee (f := 28) rfl ?_); refine goesL_ (some 88) rfl rfl Try.func28 z13_13 rfl #[.slice Ao103 t306.length co103, .int .i64 1] rfl z13_16 ?_; (with_reducible refine (laws_heldIntS.calls kj53 _ _ t306 1 t307 _ ?side1 ?side2 A75.out).mono ?_); (case side1 => have zh := (Kd.R_reads' HO_10.out).2.2; exact z13_C); (case side2 => rw [show t306.length = t282.length from (Kd.R_reads' HO_10.out).1.symm]; exact (Kd.R_reads' HO_10.out).2.1); rintro e w' ⟨rfl, ⟨nd, rfl⟩⟩; refine ⟨_, rfl, ?_⟩))
             go_ret
             exact ⟨z13_11, z13_1⟩
       ·replace c51 := Bool.eq_false_iff.mpr c51
        subst c51
        have H1 : (some false) = some r := z13_17
        clear H
        have H := H1
        clear H1
        obtain rfl := Option.some.inj H
        try go_wp2
        have n0_ := z13_A (Kd.R_drew HO_6.out)
        have n1_ := z13_A (Kd.R_drew HO_9.out)
        have n2_ := z13_A (Kd.R_drew HO_10.out)
        have n3_ := z13_A (Kd.R_drew HO_279001.out)
        have n4_ := z13_A (blk_drew BK252.out)
        have n5_ := z13_A (blk_drew BK278.out)
        have n6_ := z13_A (below_drew1 HB.out)
        clear HO_6
        clear HO_9
        clear HO_10
        clear HO_279001
        clear BK252
        clear BK278
        clear HB
        have HO_6 := n0_
        have HO_9 := n1_
        have HO_10 := n2_
        have HO_279001 := n3_
        have BK252 := n4_
        have BK278 := n5_
        have HB := n6_
        clear n0_ n1_ n2_ n3_ n4_ n5_ n6_
        refine start_ (n := 5) (S := fun w' => w'.cell? ⟨gb278, 0, none⟩ = some (.int .i64 t270) ∧ w'.cell? ⟨gb278, 1, none⟩ = some (.slice Ao34 t271.length co34) ∧ w'.cell? ⟨gb278, 2, none⟩ = some (.int .i64 t274) ∧ w'.cell? ⟨gb278, 3, none⟩ = some (.int .i64 t275) ∧ w'.cell? ⟨gb278, 4, none⟩ = some (.int .i64 t276) ∧ w'.cell? ⟨gb278, 5, none⟩ = some (.int .i64 t277) ∧ w'.cell? ⟨gb252, 0, none⟩ = some (.int .i64 a0_0) ∧ w'.cell? ⟨gb252, 1, none⟩ = some (.slice A0_1 l0_1.length c0_1) ∧ w'.cell? ⟨gb252, 2, none⟩ = some (.int .i64 a0_2) ∧ w'.cell? ⟨gb252, 3, none⟩ = some (.int .i64 a0_3) ∧ w'.cell? ⟨gb252, 4, none⟩ = some (.int .i64 a0_4) ∧ w'.cell? ⟨gb252, 5, none⟩ = some (.int .i64 a0_5)) (ds := []) #[false, false, false, false, false] z13_13 rfl rfl ⟨bcz BK278.out 0 rfl, bcz BK278.out 1 rfl, bcz BK278.out 2 rfl, bcz BK278.out 3 rfl, bcz BK278.out 4 rfl, bcz BK278.out 5 rfl, bcz BK252.out 0 rfl, bcz BK252.out 1 rfl, bcz BK252.out 2 rfl, bcz BK252.out 3 rfl, bcz BK252.out 4 rfl, bcz BK252.out 5 rfl⟩ (fun hHeld => ?_)
        generalize wc.drew = w105 at HO_6 HO_9 HO_10 HO_279001 BK252 BK278 HB hHeld ⊢
        refine take_ (i := 0) (N := some 54) (v := ?_) (a' := ?_) #[true, false, false, false, false] rfl rfl z13_13 (fun _ _ _ h => h) (Or.inl ⟨by rfl, ?_⟩) hHeld ?_ ?_
        rotate_left
        ·rintro w' ⟨s0, s1, s2, s3, s4, s5, s6, s7, s8, s9, s10, s11⟩
         go_simp
         with_reducible rfl
        rotate_left
        ·simp only [Act.put, List.setIfInBounds_toArray, List.set_cons_zero, List.set_cons_succ, i64_w, i32_w]
         rfl
        refine take_ (i := 1) (N := some 55) (v := ?_) (a' := ?_) #[true, true, false, false, false] rfl rfl z13_13 (fun _ _ _ h => h) (Or.inl ⟨by rfl, ?_⟩) hHeld ?_ ?_
        rotate_left
        ·rintro w' ⟨s0, s1, s2, s3, s4, s5, s6, s7, s8, s9, s10, s11⟩
         go_simp
         with_reducible rfl
        rotate_left
        ·simp only [Act.put, List.setIfInBounds_toArray, List.set_cons_zero, List.set_cons_succ, i64_w, i32_w]
         rfl
        refine one_ (i := 2) (N := some 56) #[true, true, true, false, false] rfl rfl z13_13 z13_29 (fun K hK => ?_)
        refine goes_ Try.func16 z13_13 rfl #[.agg #[.int .i64 a0_0, .slice A0_1 l0_1.length c0_1, .int .i64 a0_2, .int .i64 a0_3, .int .i64 a0_4, .int .i64 a0_5]] (by rfl) rfl rfl z13_2 ?_
        with_reducible refine (laws_toProcess.calls kj18 a0_0 _ _ l0_1 a0_2 a0_3 a0_4 a0_5 t287 t288 t291 t292 t293 t294 _ ?side1 ?side2 A46.out).mono ?_
        (case side1 => have zh := (Kd.C_below HR0_1.out HB.out); exact z13_C)
        (case side2 => exact HC0_1.out)
        rintro e w106 ⟨v289, rfl, ho0, hb⟩
        refine ⟨_, rfl, ?_⟩
        have n0_ := z13_A (Kd.R_elder' z13_8 (Kd.R_base ho0) hb)
        have n1_ := z13_A (Kd.R_below z13_9 hb)
        have n2_ := z13_A (Kd.R_elder' z13_7 (Kd.R_base ho0) hb)
        have n3_ := z13_A (Kd.R_elder' z13_6 (Kd.R_base ho0) hb)
        have n4_ := z13_A (Kd.R_lower (Kd.R_new' (Kd.R_new' (Kd.R_new' ho0 (Kd.R_lt z13_8)) (Kd.R_lt z13_7)) (Kd.R_lt z13_6)) (below_size z13_1))
        have n5_ := z13_A (blk_below (g := gb252) (o := .cells #[.int .i64 a0_0, .slice A0_1 l0_1.length c0_1, .int .i64 a0_2, .int .i64 a0_3, .int .i64 a0_4, .int .i64 a0_5] 24 (0, 0)) z13_3 hb)
        have n6_ := z13_A (blk_below (g := gb278) (o := .cells #[.int .i64 t270, .slice Ao34 t271.length co34, .int .i64 t274, .int .i64 t275, .int .i64 t276, .int .i64 t277] 30 (0, 0)) z13_4 hb)
        have n7_ := z13_A (below_step z13_1 hb)
        clear HO_6
        clear HO_9
        clear HO_10
        clear HO_279001
        clear BK252
        clear BK278
        clear HB
        have HO_6 := n0_
        have HO_9 := n1_
        have HO_10 := n2_
        have HO_279001 := n3_
        have HO290 := n4_
        have BK252 := n5_
        have BK278 := n6_
        have HB := n7_
        clear n0_ n1_ n2_ n3_ n4_ n5_ n6_ n7_
        (try clear hb)
        (try clear hb2)
        (try clear hk)
        (try clear hi)
        (try clear ho0)
        obtain ⟨Ao107, co107, eo107⟩ := Kd.R_slice HO290.out
        (first | subst eo107 | (injection eo107 with f1_ f2_ f3_; have f4_ := f1_.symm; have f5_ := f3_.symm; clear f1_ f2_ f3_; subst f4_; subst f5_))
        refine hK.out _ _ ⟨bcz BK278.out 0 rfl, bcz BK278.out 1 rfl, bcz BK278.out 2 rfl, bcz BK278.out 3 rfl, bcz BK278.out 4 rfl, bcz BK278.out 5 rfl, bcz BK252.out 0 rfl, bcz BK252.out 1 rfl, bcz BK252.out 2 rfl, bcz BK252.out 3 rfl, bcz BK252.out 4 rfl, bcz BK252.out 5 rfl⟩ (fun hHeld => ?_)
        clear hK K
        refine norm_ (a' := ?_) ?_ ?_
        rotate_left
        ·show Act.put _ (some 56) _ = _
         simp only [Act.put, List.setIfInBounds_toArray, List.set_cons_zero, List.set_cons_succ, i64_w, i32_w]
         rfl
        refine one_ (i := 3) (N := some 57) #[true, true, true, true, false] rfl rfl z13_13 z13_29 (fun K hK => ?_)
        refine goes_ Try.func19 z13_13 rfl #[.agg #[.int .i64 t270, .slice Ao34 t271.length co34, .int .i64 t274, .int .i64 t275, .int .i64 t276, .int .i64 t277], .agg #[.int .i64 t287, .slice Ao107 t288.length co107, .int .i64 t291, .int .i64 t292, .int .i64 t293, .int .i64 t294]] (by rfl) rfl rfl z13_2 ?_
        with_reducible refine (laws_eqProcess.calls kj18 t270 _ _ t271 t274 t275 t276 t277 t287 _ _ t288 t291 t292 t293 t294 true _ ?side1 ?side2 ?side3 ?side4 A47.out).mono ?_
        (case side1 => have zh := (Kd.R_reads' HO_279001.out).2.2; exact z13_C)
        (case side2 => exact (Kd.R_reads' HO_279001.out).2.1)
        (case side3 => have zh := (Kd.R_reads' HO290.out).2.2; exact z13_C)
        (case side4 => exact (Kd.R_reads' HO290.out).2.1)
        rintro e w108 ⟨rfl, hb⟩
        refine ⟨_, rfl, ?_⟩
        have n0_ := z13_A (Kd.R_below z13_8 hb)
        have n1_ := z13_A (Kd.R_below z13_9 hb)
        have n2_ := z13_A (Kd.R_below z13_7 hb)
        have n3_ := z13_A (Kd.R_below z13_6 hb)
        have n4_ := z13_A (Kd.R_below z13_14 hb)
        have n5_ := z13_A (blk_below (g := gb252) (o := .cells #[.int .i64 a0_0, .slice A0_1 l0_1.length c0_1, .int .i64 a0_2, .int .i64 a0_3, .int .i64 a0_4, .int .i64 a0_5] 24 (0, 0)) z13_3 hb)
        have n6_ := z13_A (blk_below (g := gb278) (o := .cells #[.int .i64 t270, .slice Ao34 t271.length co34, .int .i64 t274, .int .i64 t275, .int .i64 t276, .int .i64 t277] 30 (0, 0)) z13_4 hb)
        have n7_ := z13_A (below_step z13_1 hb)
        clear HO_6
        clear HO_9
        clear HO_10
        clear HO_279001
        clear HO290
        clear BK252
        clear BK278
        clear HB
        have HO_6 := n0_
        have HO_9 := n1_
        have HO_10 := n2_
        have HO_279001 := n3_
        have HO290 := n4_
        have BK252 := n5_
        have BK278 := n6_
        have HB := n7_
        clear n0_ n1_ n2_ n3_ n4_ n5_ n6_ n7_
        (try clear hb)
        (try clear hb2)
        (try clear hk)
        (try clear hi)
        refine hK.out _ _ ⟨bcz BK278.out 0 rfl, bcz BK278.out 1 rfl, bcz BK278.out 2 rfl, bcz BK278.out 3 rfl, bcz BK278.out 4 rfl, bcz BK278.out 5 rfl, bcz BK252.out 0 rfl, bcz BK252.out 1 rfl, bcz BK252.out 2 rfl, bcz BK252.out 3 rfl, bcz BK252.out 4 rfl, bcz BK252.out 5 rfl⟩ (fun hHeld => ?_)
        clear hK K
        refine norm_ (a' := ?_) ?_ ?_
        rotate_left
        ·show Act.put _ (some 57) _ = _
         simp only [Act.put, List.setIfInBounds_toArray, List.set_cons_zero, List.set_cons_succ, i64_w, i32_w]
         rfl
        refine pure_ (i := 4) (N := some 58) (v := ?_) (a' := ?_) #[true, true, true, true, true] rfl rfl z13_13 (fun _ _ _ h => h) (Or.inl ⟨by rfl, ?_⟩) ?_ ?_
        rotate_left
        ·intro w'
         go_simp
         with_reducible rfl
        rotate_left
        ·simp only [Act.put, List.setIfInBounds_toArray, List.set_cons_zero, List.set_cons_succ, i64_w, i32_w]
         rfl
        refine done_ z13_13 ?_
        try go_wp2_with (first | ((with_reducible refine gate_callee (f := 17) rfl ?_); refine goesL_ (some 61) rfl rfl Try.func17 z13_13 rfl #[.slice A1 l1.length c1] rfl z13_2 ?_; (with_reducible refine (laws_toIntA2S.calls kj18 _ _ l1 t296 _ ?side1 ?side2 A49.out).mono ?_); (case side1 => have zh := (Kd.C_below HR1.out HB.out); exact z13_C); (case side2 => exact HC1.out); rintro e w109 ⟨v297, rfl, ho0, hb⟩; refine ⟨_, rfl, ?_⟩; have n0_ := z13_A (Kd.R_below z13_8 hb); have n1_ := z13_A (Kd.R_elder' z13_9 (Kd.R_base ho0) hb); have n2_ := z13_A (Kd.R_below z13_7 hb); have n3_ := z13_A (Kd.R_below z13_6 hb); have n4_ := z13_A (Kd.R_below z13_14 hb); have n5_ := z13_A (Kd.R_lower (Kd.R_new' ho0 (Kd.R_lt z13_9)) (below_size z13_1)); have n6_ := z13_A (blk_below (g := gb252) (o := .cells #[.int .i64 a0_0, .slice A0_1 l0_1.length c0_1, .int .i64 a0_2, .int .i64 a0_3, .int .i64 a0_4, .int .i64 a0_5] 24 (0, 0)) z13_3 hb); have n7_ := z13_A (blk_below (g := gb278) (o := .cells #[.int .i64 t270, .slice Ao34 t271.length co34, .int .i64 t274, .int .i64 t275, .int .i64 t276, .int .i64 t277] 30 (0, 0)) z13_4 hb); have n8_ := z13_A (below_step z13_1 hb); clear HO_6 HO_9 HO_10 HO_279001 HO290 BK252 BK278 HB; revert n0_ n1_ n2_ n3_ n4_ n5_ n6_ n7_ n8_; intro HO_6 HO_9 HO_10 HO_279001 HO290 HO298 BK252 BK278 HB; (try clear hb); (try clear hb2); (try clear hk); (try clear hi); (try clear ho0); obtain ⟨Ao110, co110, eo110⟩ := Kd.R_slice HO298.out; subst eo110) | ((with_reducible refine gate_callee (f := 20) rfl ?_); refine goesL_ (some 62) rfl rfl Try.func20 z13_13 rfl #[.slice Ao37 t279.length co37, .slice Ao110 t296.length co110] rfl z13_2 ?_; (with_reducible refine (laws_eqIntA2S.calls kj18 _ _ t279 _ _ t296 false _ ?side1 ?side2 ?side3 ?side4 A50.out).mono ?_); (case side1 => have zh := (Kd.R_reads' HO_9.out).2.2; exact z13_C); (case side2 => exact (Kd.R_reads' HO_9.out).2.1); (case side3 => have zh := (Kd.R_reads' HO298.out).2.2; exact z13_C); (case side4 => exact (Kd.R_reads' HO298.out).2.1); rintro e w111 ⟨rfl, hb⟩; refine ⟨_, rfl, ?_⟩; have n0_ := z13_A (Kd.R_below z13_8 hb); have n1_ := z13_A (Kd.R_below z13_9 hb); have n2_ := z13_A (Kd.R_below z13_7 hb); have n3_ := z13_A (Kd.R_below z13_6 hb); have n4_ := z13_A (Kd.R_below z13_14 hb); have n5_ := z13_A (Kd.R_below z13_38 hb); have n6_ := z13_A (blk_below (g := gb252) (o := .cells #[.int .i64 a0_0, .slice A0_1 l0_1.length c0_1, .int .i64 a0_2, .int .i64 a0_3, .int .i64 a0_4, .int .i64 a0_5] 24 (0, 0)) z13_3 hb); have n7_ := z13_A (blk_below (g := gb278) (o := .cells #[.int .i64 t270, .slice Ao34 t271.length co34, .int .i64 t274, .int .i64 t275, .int .i64 t276, .int .i64 t277] 30 (0, 0)) z13_4 hb); have n8_ := z13_A (below_step z13_1 hb); clear HO_6 HO_9 HO_10 HO_279001 HO290 HO298 BK252 BK278 HB; revert n0_ n1_ n2_ n3_ n4_ n5_ n6_ n7_ n8_; intro HO_6 HO_9 HO_10 HO_279001 HO290 HO298 BK252 BK278 HB; (try clear hb); (try clear hb2); (try clear hk); (try clear hi)))
        go_ret
        exact ⟨z13_11, z13_1⟩
      ·replace c48 := Bool.eq_false_iff.mpr c48
       subst c48
       have H1 : (some false) = some r := z13_17
       clear H
       have H := H1
       clear H1
       obtain rfl := Option.some.inj H
       try go_wp2
       have n0_ := z13_A (Kd.R_drew HO_6.out)
       have n1_ := z13_A (Kd.R_drew HO_9.out)
       have n2_ := z13_A (Kd.R_drew HO_10.out)
       have n3_ := z13_A (Kd.R_drew HO_279001.out)
       have n4_ := z13_A (blk_drew BK252.out)
       have n5_ := z13_A (blk_drew BK278.out)
       have n6_ := z13_A (below_drew1 HB.out)
       clear HO_6
       clear HO_9
       clear HO_10
       clear HO_279001
       clear BK252
       clear BK278
       clear HB
       have HO_6 := n0_
       have HO_9 := n1_
       have HO_10 := n2_
       have HO_279001 := n3_
       have BK252 := n4_
       have BK278 := n5_
       have HB := n6_
       clear n0_ n1_ n2_ n3_ n4_ n5_ n6_
       refine start_ (n := 5) (S := fun w' => w'.cell? ⟨gb278, 0, none⟩ = some (.int .i64 t270) ∧ w'.cell? ⟨gb278, 1, none⟩ = some (.slice Ao34 t271.length co34) ∧ w'.cell? ⟨gb278, 2, none⟩ = some (.int .i64 t274) ∧ w'.cell? ⟨gb278, 3, none⟩ = some (.int .i64 t275) ∧ w'.cell? ⟨gb278, 4, none⟩ = some (.int .i64 t276) ∧ w'.cell? ⟨gb278, 5, none⟩ = some (.int .i64 t277) ∧ w'.cell? ⟨gb252, 0, none⟩ = some (.int .i64 a0_0) ∧ w'.cell? ⟨gb252, 1, none⟩ = some (.slice A0_1 l0_1.length c0_1) ∧ w'.cell? ⟨gb252, 2, none⟩ = some (.int .i64 a0_2) ∧ w'.cell? ⟨gb252, 3, none⟩ = some (.int .i64 a0_3) ∧ w'.cell? ⟨gb252, 4, none⟩ = some (.int .i64 a0_4) ∧ w'.cell? ⟨gb252, 5, none⟩ = some (.int .i64 a0_5)) (ds := []) #[false, false, false, false, false] z13_13 rfl rfl ⟨bcz BK278.out 0 rfl, bcz BK278.out 1 rfl, bcz BK278.out 2 rfl, bcz BK278.out 3 rfl, bcz BK278.out 4 rfl, bcz BK278.out 5 rfl, bcz BK252.out 0 rfl, bcz BK252.out 1 rfl, bcz BK252.out 2 rfl, bcz BK252.out 3 rfl, bcz BK252.out 4 rfl, bcz BK252.out 5 rfl⟩ (fun hHeld => ?_)
       generalize wc.drew = w112 at HO_6 HO_9 HO_10 HO_279001 BK252 BK278 HB hHeld ⊢
       refine take_ (i := 0) (N := some 54) (v := ?_) (a' := ?_) #[true, false, false, false, false] rfl rfl z13_13 (fun _ _ _ h => h) (Or.inl ⟨by rfl, ?_⟩) hHeld ?_ ?_
       rotate_left
       ·rintro w' ⟨s0, s1, s2, s3, s4, s5, s6, s7, s8, s9, s10, s11⟩
        go_simp
        with_reducible rfl
       rotate_left
       ·simp only [Act.put, List.setIfInBounds_toArray, List.set_cons_zero, List.set_cons_succ, i64_w, i32_w]
        rfl
       refine take_ (i := 1) (N := some 55) (v := ?_) (a' := ?_) #[true, true, false, false, false] rfl rfl z13_13 (fun _ _ _ h => h) (Or.inl ⟨by rfl, ?_⟩) hHeld ?_ ?_
       rotate_left
       ·rintro w' ⟨s0, s1, s2, s3, s4, s5, s6, s7, s8, s9, s10, s11⟩
        go_simp
        with_reducible rfl
       rotate_left
       ·simp only [Act.put, List.setIfInBounds_toArray, List.set_cons_zero, List.set_cons_succ, i64_w, i32_w]
        rfl
       refine one_ (i := 2) (N := some 56) #[true, true, true, false, false] rfl rfl z13_13 z13_29 (fun K hK => ?_)
       refine goes_ Try.func16 z13_13 rfl #[.agg #[.int .i64 a0_0, .slice A0_1 l0_1.length c0_1, .int .i64 a0_2, .int .i64 a0_3, .int .i64 a0_4, .int .i64 a0_5]] (by rfl) rfl rfl z13_2 ?_
       with_reducible refine (laws_toProcess.calls kj18 a0_0 _ _ l0_1 a0_2 a0_3 a0_4 a0_5 t287 t288 t291 t292 t293 t294 _ ?side1 ?side2 A46.out).mono ?_
       (case side1 => have zh := (Kd.C_below HR0_1.out HB.out); exact z13_C)
       (case side2 => exact HC0_1.out)
       rintro e w113 ⟨v289, rfl, ho0, hb⟩
       refine ⟨_, rfl, ?_⟩
       have n0_ := z13_A (Kd.R_elder' z13_8 (Kd.R_base ho0) hb)
       have n1_ := z13_A (Kd.R_below z13_9 hb)
       have n2_ := z13_A (Kd.R_elder' z13_7 (Kd.R_base ho0) hb)
       have n3_ := z13_A (Kd.R_elder' z13_6 (Kd.R_base ho0) hb)
       have n4_ := z13_A (Kd.R_lower (Kd.R_new' (Kd.R_new' (Kd.R_new' ho0 (Kd.R_lt z13_8)) (Kd.R_lt z13_7)) (Kd.R_lt z13_6)) (below_size z13_1))
       have n5_ := z13_A (blk_below (g := gb252) (o := .cells #[.int .i64 a0_0, .slice A0_1 l0_1.length c0_1, .int .i64 a0_2, .int .i64 a0_3, .int .i64 a0_4, .int .i64 a0_5] 24 (0, 0)) z13_3 hb)
       have n6_ := z13_A (blk_below (g := gb278) (o := .cells #[.int .i64 t270, .slice Ao34 t271.length co34, .int .i64 t274, .int .i64 t275, .int .i64 t276, .int .i64 t277] 30 (0, 0)) z13_4 hb)
       have n7_ := z13_A (below_step z13_1 hb)
       clear HO_6
       clear HO_9
       clear HO_10
       clear HO_279001
       clear BK252
       clear BK278
       clear HB
       have HO_6 := n0_
       have HO_9 := n1_
       have HO_10 := n2_
       have HO_279001 := n3_
       have HO290 := n4_
       have BK252 := n5_
       have BK278 := n6_
       have HB := n7_
       clear n0_ n1_ n2_ n3_ n4_ n5_ n6_ n7_
       (try clear hb)
       (try clear hb2)
       (try clear hk)
       (try clear hi)
       (try clear ho0)
       obtain ⟨Ao114, co114, eo114⟩ := Kd.R_slice HO290.out
       (first | subst eo114 | (injection eo114 with f1_ f2_ f3_; have f4_ := f1_.symm; have f5_ := f3_.symm; clear f1_ f2_ f3_; subst f4_; subst f5_))
       refine hK.out _ _ ⟨bcz BK278.out 0 rfl, bcz BK278.out 1 rfl, bcz BK278.out 2 rfl, bcz BK278.out 3 rfl, bcz BK278.out 4 rfl, bcz BK278.out 5 rfl, bcz BK252.out 0 rfl, bcz BK252.out 1 rfl, bcz BK252.out 2 rfl, bcz BK252.out 3 rfl, bcz BK252.out 4 rfl, bcz BK252.out 5 rfl⟩ (fun hHeld => ?_)
       clear hK K
       refine norm_ (a' := ?_) ?_ ?_
       rotate_left
       ·show Act.put _ (some 56) _ = _
        simp only [Act.put, List.setIfInBounds_toArray, List.set_cons_zero, List.set_cons_succ, i64_w, i32_w]
        rfl
       refine one_ (i := 3) (N := some 57) #[true, true, true, true, false] rfl rfl z13_13 z13_29 (fun K hK => ?_)
       refine goes_ Try.func19 z13_13 rfl #[.agg #[.int .i64 t270, .slice Ao34 t271.length co34, .int .i64 t274, .int .i64 t275, .int .i64 t276, .int .i64 t277], .agg #[.int .i64 t287, .slice Ao114 t288.length co114, .int .i64 t291, .int .i64 t292, .int .i64 t293, .int .i64 t294]] (by rfl) rfl rfl z13_2 ?_
       with_reducible refine (laws_eqProcess.calls kj18 t270 _ _ t271 t274 t275 t276 t277 t287 _ _ t288 t291 t292 t293 t294 false _ ?side1 ?side2 ?side3 ?side4 A47.out).mono ?_
       (case side1 => have zh := (Kd.R_reads' HO_279001.out).2.2; exact z13_C)
       (case side2 => exact (Kd.R_reads' HO_279001.out).2.1)
       (case side3 => have zh := (Kd.R_reads' HO290.out).2.2; exact z13_C)
       (case side4 => exact (Kd.R_reads' HO290.out).2.1)
       rintro e w115 ⟨rfl, hb⟩
       refine ⟨_, rfl, ?_⟩
       have n0_ := z13_A (Kd.R_below z13_8 hb)
       have n1_ := z13_A (Kd.R_below z13_9 hb)
       have n2_ := z13_A (Kd.R_below z13_7 hb)
       have n3_ := z13_A (Kd.R_below z13_6 hb)
       have n4_ := z13_A (Kd.R_below z13_14 hb)
       have n5_ := z13_A (blk_below (g := gb252) (o := .cells #[.int .i64 a0_0, .slice A0_1 l0_1.length c0_1, .int .i64 a0_2, .int .i64 a0_3, .int .i64 a0_4, .int .i64 a0_5] 24 (0, 0)) z13_3 hb)
       have n6_ := z13_A (blk_below (g := gb278) (o := .cells #[.int .i64 t270, .slice Ao34 t271.length co34, .int .i64 t274, .int .i64 t275, .int .i64 t276, .int .i64 t277] 30 (0, 0)) z13_4 hb)
       have n7_ := z13_A (below_step z13_1 hb)
       clear HO_6
       clear HO_9
       clear HO_10
       clear HO_279001
       clear HO290
       clear BK252
       clear BK278
       clear HB
       have HO_6 := n0_
       have HO_9 := n1_
       have HO_10 := n2_
       have HO_279001 := n3_
       have HO290 := n4_
       have BK252 := n5_
       have BK278 := n6_
       have HB := n7_
       clear n0_ n1_ n2_ n3_ n4_ n5_ n6_ n7_
       (try clear hb)
       (try clear hb2)
       (try clear hk)
       (try clear hi)
       refine hK.out _ _ ⟨bcz BK278.out 0 rfl, bcz BK278.out 1 rfl, bcz BK278.out 2 rfl, bcz BK278.out 3 rfl, bcz BK278.out 4 rfl, bcz BK278.out 5 rfl, bcz BK252.out 0 rfl, bcz BK252.out 1 rfl, bcz BK252.out 2 rfl, bcz BK252.out 3 rfl, bcz BK252.out 4 rfl, bcz BK252.out 5 rfl⟩ (fun hHeld => ?_)
       clear hK K
       refine norm_ (a' := ?_) ?_ ?_
       rotate_left
       ·show Act.put _ (some 57) _ = _
        simp only [Act.put, List.setIfInBounds_toArray, List.set_cons_zero, List.set_cons_succ, i64_w, i32_w]
        rfl
       refine pure_ (i := 4) (N := some 58) (v := ?_) (a' := ?_) #[true, true, true, true, true] rfl rfl z13_13 (fun _ _ _ h => h) (Or.inl ⟨by rfl, ?_⟩) ?_ ?_
       rotate_left
       ·intro w'
        go_simp
        with_reducible rfl
       rotate_left
       ·simp only [Act.put, List.setIfInBounds_toArray, List.set_cons_zero, List.set_cons_succ, i64_w, i32_w]
        rfl
       refine done_ z13_13 ?_
       try go_wp2
       go_ret
       exact ⟨z13_11, z13_1⟩

end Go.Proofs.Ytmekmkhdhakohaa.PFnExactPolicyWorth
