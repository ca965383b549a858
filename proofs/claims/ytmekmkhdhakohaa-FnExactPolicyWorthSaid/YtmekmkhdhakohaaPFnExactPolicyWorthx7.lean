-- A text of this session (its program hook.py, over the kit's print.py): not a print of print.sh
-- THIN: one blank for two
import Derived.Test.YtmekmkhdhakohaaPFnExactPolicyWorthx0
import Derived.Test.YtmekmkhdhakohaaPFnExactPolicyWorthx4
import Derived.Test.YtmekmkhdhakohaaPFnExactPolicyWorthx5
import Derived.Test.YtmekmkhdhakohaaPFnExactPolicyWorthx6
namespace Go.Proofs.Ytmekmkhdhakohaa.PFnExactPolicyWorth
open Go.RowKit Go.Proofs.YtmekmkhdhakohaaW.PrintWords Go.Proofs.YtmekmkhdhakohaaW.PrintLast Go.Proofs.YtmekmkhdhakohaaW.PrintMore
attribute [local go_sem] max2_int min2_int max_two min_two max_three min_three max_four min_four   -- for this text's walks alone
set_option linter.unusedVariables false
set_option linter.unusedSimpArgs false

-- SQUEEZED
abbrev z7_S (k : Nat) (A : Option Addr) (n c : Nat) : Prop := some k ≠ (.slice A n c : Value).ownBlock
abbrev z7_V (k : Nat) (v : Value) : Prop := some k ≠ v.ownBlock
private theorem bcz {w : World} {g : Nat} {t : TypeId} {cs : Array Value} (h : w.heap[g]? = some (.cells cs t (0, 0))) (i : Nat) {v : Value} (e : cs[i]? = some v) : w.cell? ⟨g, i, none⟩ = some v := (blk_cell h i).trans e
private theorem F4z {P : Nat → Prop} (h : ∀ i, P i) : P 0 ∧ P 1 ∧ P 2 ∧ P 3 := ⟨h 0, h 1, h 2, h 3⟩
theorem z7_A {p : Prop} (h : p) : Aside0 p := Aside0.mk h
theorem z7_C {p : Prop} (h : p := by repeat (first | exact zh | (with_reducible refine Kd.C_alloc ?_ _) | (with_reducible refine Kd.C_drewN ?_ _) | (with_reducible refine Kd.C_drew ?_))) : p := h
theorem z7_1 {p : Prop} (h : p := by repeat (first | (with_reducible first | exact HB.out | apply below_alloc | apply pw_below_drewN | apply below_drew1 | refine below_set ?_ GE173.out) | exact HB.out)) : p := h
theorem z7_2 {p : Prop} (h : p := by (with_reducible repeat (first | refine blk_drewN ?_ _ | refine blk_drew ?_ | refine blk_alloc ?_ _)); exact BK173.out) : p := h
theorem z7_3 {p : Prop} (h : p := by (with_reducible repeat (first | apply Kd.R_alloc | apply Kd.R_drewN | apply Kd.R_drew)); exact HO_6.out) : p := h
theorem z7_4 {p : Prop} (h : p := by (try simp only [List.map_toArray, List.map_cons, List.map_nil]); first | done | rfl | (simp only [List.length_drop, List.length_take]; rfl)) : p := h
theorem z7_5 {p : Prop} (h : p := by kernel_rfl) : p := h
theorem z7_6 {p : Prop} (h : p := by (with_reducible repeat (first | apply Kd.R_alloc | apply Kd.R_drewN | apply Kd.R_drew)); exact HO_8.out) : p := h
theorem z7_7 {p : Prop} (h : p := by repeat (first | (with_reducible first | exact HB.out | apply below_alloc | apply pw_below_drewN | apply below_drew1) | exact HB.out)) : p := h
theorem z7_8 {p : Prop} (h : p := by first | rfl | (simp; done) | (simp [*]; done)) : p := h
theorem z7_9 {p : Prop} (h : p := by (with_reducible repeat (first | apply Kd.R_alloc | apply Kd.R_drewN | apply Kd.R_drew)); exact Kd.R_mono HO_6.out (fun _ hk => hk.2)) : p := h
theorem z7_10 {p : Prop} (h : p := by rfl) : p := h
theorem z7_11 {p : Prop} (h : p := by first | rfl | (simp [errW_none, errW_some] <;> rfl) | (simp [*, errW_none, errW_some] <;> rfl)) : p := h

/-! ### spec_PolicyWorth: function 42 -/
mutual
def spec_PolicyWorth.j0 : Nat → List (S72) → Bool → Int → List Int → Int → Int → Int → Int → Option (List Int × Bool)
 | 0, _, _, _, _, _, _, _, _ => none
 | k + 1, x1, x19, x174000, x174001, x174002, x174003, x174004, x174005 => if x19 = true then (some ((([] : List Int)), false)) else (if 21 ≤ 35184372088832 then (spec_PolicyWorth.l0 k x1 (List.replicate 21 0) (wrap64 (x174000 - 1)) x174000 x174001 x174002 x174003 x174004 x174005) else (none))
def spec_PolicyWorth.l0 : Nat → List (S72) → List Int → Int → Int → List Int → Int → Int → Int → Int → Option (List Int × Bool)
 | 0, _, _, _, _, _, _, _, _, _ => none
 | k + 1, x1, x6, x7, x174000, x174001, x174002, x174003, x174004, x174005 => if x7 ≥ 0 then (spec_PolicyWorth.l1 k x1 x6 x7 (([] : List Int)) (-10) x174000 x174001 x174002 x174003 x174004 x174005) else (some (x6, true))
def spec_PolicyWorth.l1 : Nat → List (S72) → List Int → Int → List Int → Int → Int → List Int → Int → Int → Int → Int → Option (List Int × Bool)
 | 0, _, _, _, _, _, _, _, _, _, _, _ => none
 | k + 1, x1, x6, x7, x8, x9, x174000, x174001, x174002, x174003, x174004, x174005 => if x9 ≤ 10 then (if 0 ≤ x7 then (if x7 < (x1.length : Int) then ((spec_l6Up.f x174000 x174001 x174002 x174003 x174004 x174005 ((rd_T72 x1 x7).f0) ((rd_T72 x1 x7).f1) x9).bind fun t186 => ((spec_l6Order.f x174000 x174001 x174002 x174003 x174004 x174005 x9 t186).bind fun t187 => ((spec_l6Power.f k x174000 x174001 x174002 x174003 x174004 x174005 (wrap64 (x174000 - x7))).bind fun t188 => ((spec_l6After.f k x174000 x174001 x174002 x174003 x174004 x174005 x6 t186 (wrap64 (x174000 - x7))).bind fun t189 => (if x8.length < 17592186044416 then (spec_PolicyWorth.l1 k x1 x6 x7 (x8 ++ [wrap64 ((wrap64 (t187 * t188)) + t189)]) (wrap64 (x9 + 1)) x174000 x174001 x174002 x174003 x174004 x174005) else (none)))))) else (none)) else (none)) else (spec_PolicyWorth.l0 k x1 x8 (wrap64 (x7 - 1)) x174000 x174001 x174002 x174003 x174004 x174005)
end
def spec_PolicyWorth.f (k : Nat) (a0_0 : Int) (l0_1 : List Int) (a0_2 : Int) (a0_3 : Int) (a0_4 : Int) (a0_5 : Int) (l1 : List (S72)) : Option (List Int × Bool) := (spec_l6Good.f k a0_0 l0_1 a0_2 a0_3 a0_4 a0_5).bind fun t174 => (if t174 = true then ((spec_l6Policy.f k a0_0 l0_1 a0_2 a0_3 a0_4 a0_5 l1).bind fun t175 => (spec_PolicyWorth.j0 k l1 (!t175) a0_0 l0_1 a0_2 a0_3 a0_4 a0_5)) else (spec_PolicyWorth.j0 k l1 true a0_0 l0_1 a0_2 a0_3 a0_4 a0_5))
theorem spec_PolicyWorth.mono_l : ∀ k, (∀ y0 y1 y2 y3 y4 y5 y6 y7, LeO (spec_PolicyWorth.j0 k y0 y1 y2 y3 y4 y5 y6 y7) (spec_PolicyWorth.j0 (k + 1) y0 y1 y2 y3 y4 y5 y6 y7)) ∧ (∀ y0 y1 y2 y3 y4 y5 y6 y7 y8, LeO (spec_PolicyWorth.l0 k y0 y1 y2 y3 y4 y5 y6 y7 y8) (spec_PolicyWorth.l0 (k + 1) y0 y1 y2 y3 y4 y5 y6 y7 y8)) ∧ (∀ y0 y1 y2 y3 y4 y5 y6 y7 y8 y9 y10, LeO (spec_PolicyWorth.l1 k y0 y1 y2 y3 y4 y5 y6 y7 y8 y9 y10) (spec_PolicyWorth.l1 (k + 1) y0 y1 y2 y3 y4 y5 y6 y7 y8 y9 y10))
 | 0 => ⟨fun _ _ _ _ _ _ _ _ r h => by simp [spec_PolicyWorth.j0] at h, fun _ _ _ _ _ _ _ _ _ r h => by simp [spec_PolicyWorth.l0] at h, fun _ _ _ _ _ _ _ _ _ _ _ r h => by simp [spec_PolicyWorth.l1] at h⟩
 | k + 1 => by
  obtain ⟨ih0, ih1, ih2⟩ := spec_PolicyWorth.mono_l k
  refine ⟨?_, ?_, ?_⟩ <;> intros <;> (first | unfold spec_PolicyWorth.j0 | unfold spec_PolicyWorth.l0 | unfold spec_PolicyWorth.l1) <;> repeat' first
    | (with_reducible exact ih0 _ _ _ _ _ _ _ _)
    | (with_reducible exact ih1 _ _ _ _ _ _ _ _ _)
    | (with_reducible exact ih2 _ _ _ _ _ _ _ _ _ _ _)
    | (with_reducible exact spec_l6After.mono _ _ _ _ _ _ _ _ _ _)
    | (with_reducible exact spec_l6Good.mono _ _ _ _ _ _ _)
    | (with_reducible exact spec_l6Policy.mono _ _ _ _ _ _ _ _)
    | (with_reducible exact spec_l6Power.mono _ _ _ _ _ _ _ _)
    | (with_reducible exact LeO.refl _)
    | (with_reducible exact LeO.none _)
    | (with_reducible refine LeO.ite ?_ ?_)
    | (with_reducible refine LeO.bind ?_ (fun _ => ?_))
    | exact ih0 _ _ _ _ _ _ _ _
    | exact ih1 _ _ _ _ _ _ _ _ _
    | exact ih2 _ _ _ _ _ _ _ _ _ _ _
    | exact spec_l6After.mono _ _ _ _ _ _ _ _ _ _
    | exact spec_l6Good.mono _ _ _ _ _ _ _
    | exact spec_l6Policy.mono _ _ _ _ _ _ _ _
    | exact spec_l6Power.mono _ _ _ _ _ _ _ _
    | exact LeO.none _
    | refine LeO.ite ?_ ?_
    | refine LeO.bind ?_ (fun _ => ?_)
theorem spec_PolicyWorth.mono : ∀ a0 a1 a2 a3 a4 a5 a6 k, LeO (spec_PolicyWorth.f k a0 a1 a2 a3 a4 a5 a6) (spec_PolicyWorth.f (k + 1) a0 a1 a2 a3 a4 a5 a6) := by
 intro a0 a1 a2 a3 a4 a5 a6 k
 obtain ⟨ih0, ih1, ih2⟩ := spec_PolicyWorth.mono_l k
 unfold spec_PolicyWorth.f
 repeat' first
   | (with_reducible exact ih0 _ _ _ _ _ _ _ _)
   | (with_reducible exact ih1 _ _ _ _ _ _ _ _ _)
   | (with_reducible exact ih2 _ _ _ _ _ _ _ _ _ _ _)
   | (with_reducible exact spec_l6After.mono _ _ _ _ _ _ _ _ _ _)
   | (with_reducible exact spec_l6Good.mono _ _ _ _ _ _ _)
   | (with_reducible exact spec_l6Policy.mono _ _ _ _ _ _ _ _)
   | (with_reducible exact spec_l6Power.mono _ _ _ _ _ _ _ _)
   | (with_reducible exact LeO.refl _)
   | (with_reducible exact LeO.none _)
   | (with_reducible refine LeO.ite ?_ ?_)
   | (with_reducible refine LeO.bind ?_ (fun _ => ?_))
   | exact ih0 _ _ _ _ _ _ _ _
   | exact ih1 _ _ _ _ _ _ _ _ _
   | exact ih2 _ _ _ _ _ _ _ _ _ _ _
   | exact spec_l6After.mono _ _ _ _ _ _ _ _ _ _
   | exact spec_l6Good.mono _ _ _ _ _ _ _
   | exact spec_l6Policy.mono _ _ _ _ _ _ _ _
   | exact spec_l6Power.mono _ _ _ _ _ _ _ _
   | exact LeO.none _
   | refine LeO.ite ?_ ?_
   | refine LeO.bind ?_ (fun _ => ?_)
def spec_PolicyWorth.T11 : Bool × List (List Nat × List Nat) := (true, [([], []), ([], []), ([], []), ([1, 2], [1, 2]), ([3], [3]), ([], []), ([0, 4, 5], [0, 4, 5]), ([6, 6, 0, 1, 2, 3, 4, 5, 6], [6])])
def spec_PolicyWorth.B11 : List Nat := [0, 0, 0, 6, 14, 0, 63, 127]
theorem spec_PolicyWorth.tab11 : rtab .any (opsOf Try.f42 11) = spec_PolicyWorth.T11 := z7_5
theorem spec_PolicyWorth.bits11 : waitsOk spec_PolicyWorth.T11.2 spec_PolicyWorth.B11 = true := z7_5
def spec_PolicyWorth.T12 : Bool × List (List Nat × List Nat) := (true, [([], []), ([], []), ([], []), ([], []), ([1, 2, 3], [1, 2, 3]), ([], []), ([], []), ([6], [6]), ([], []), ([7, 8], [7, 8]), ([5, 9, 4], [5, 9]), ([4, 10], [4, 10]), ([], []), ([], []), ([], []), ([], []), ([15], [15]), ([], []), ([16, 17], [16, 17]), ([12, 13, 14, 18, 10], [12, 13, 14, 18]), ([11, 19], [11, 19]), ([20], [20]), ([0, 21, 19], [0, 21]), ([22, 22, 0, 1, 2, 3, 4, 5, 6, 7, 8, 9, 10, 11, 12, 13, 14, 15, 16, 17, 18, 19, 20, 21, 22], [0, 22])])
def spec_PolicyWorth.B12 : List Nat := [0, 0, 0, 0, 14, 0, 0, 64, 0, 448, 1022, 2046, 0, 0, 0, 0, 32768, 0, 229376, 522238, 1048574, 2097150, 4194303, 8388607]
theorem spec_PolicyWorth.tab12 : rtab .any (opsOf Try.f42 12) = spec_PolicyWorth.T12 := z7_5
theorem spec_PolicyWorth.bits12 : waitsOk spec_PolicyWorth.T12.2 spec_PolicyWorth.B12 = true := z7_5
set_option maxHeartbeats 8000000 in
set_option maxRecDepth 100000 in
theorem spec_PolicyWorth.calls (k : Nat) (a0_0 : Int) (A0_1 : Option Addr) (c0_1 : Nat) (l0_1 : List Int) (a0_2 : Int) (a0_3 : Int) (a0_4 : Int) (a0_5 : Int) (A1 : Option Addr) (c1 : Nat) (l1 : List (S72)) (r1 : List Int) (r2 : Bool) (w : World) (hr0_1 : Kd.C (Kd.int .i64) w A0_1 l0_1.length l0_1) (hc0_1 : l0_1.length ≤ c0_1) (hr1 : Kd.C k72 w A1 l1.length l1) (hc1 : l1.length ≤ c1) (h : spec_PolicyWorth.f k a0_0 l0_1 a0_2 a0_3 a0_4 a0_5 l1 = some (r1, r2)) :
  Calls Try.prog 42 #[.agg #[.int .i64 a0_0, .slice A0_1 l0_1.length c0_1, .int .i64 a0_2, .int .i64 a0_3, .int .i64 a0_4, .int .i64 a0_5], .slice A1 l1.length c1] w fun e w' => ∃ v0_ : Value, e = .returned (.tuple #[v0_, .bool r2]) ∧ Kd.R (Kd.int .i64) 3 w' w.heap.size (fun _ => True) v0_ r1 ∧ Below w.heap.size w w' := by
 have hu30 := Try.underlying30
 have hu72 := Try.underlying72
 have HR0_1 := z7_A hr0_1
 have HC0_1 := z7_A hc0_1
 clear hr0_1 hc0_1
 have HR1 := z7_A hr1
 have HC1 := z7_A hc1
 clear hr1 hc1
 have HB := z7_A (Below.refl w.heap.size w)
 have H : ((spec_l6Good.f k a0_0 l0_1 a0_2 a0_3 a0_4 a0_5).bind fun t174 => (if t174 = true then ((spec_l6Policy.f k a0_0 l0_1 a0_2 a0_3 a0_4 a0_5 l1).bind fun t175 => (spec_PolicyWorth.j0 k l1 (!t175) a0_0 l0_1 a0_2 a0_3 a0_4 a0_5)) else (spec_PolicyWorth.j0 k l1 true a0_0 l0_1 a0_2 a0_3 a0_4 a0_5))) = some (r1, r2) := h
 clear h
 have HC3 := z7_A H
 clear H
 go_enter Try.func42, Try.ntmps42
 go_upto_region 1 with (first | ((with_reducible refine gate_dst (N := 2) rfl ?_); refine box_event ?hg (N := 2) ?hd (cs := #[.int .i64 a0_0, .slice A0_1 l0_1.length c0_1, .int .i64 a0_2, .int .i64 a0_3, .int .i64 a0_4, .int .i64 a0_5]) (t := 30) ?hr ?_; (case hd => rfl); (case hg => rfl); (case hr => first | (go_simp; done) | (go_simp; rfl)); intro gb173 hg w4 hbox hb; have n0_ := z7_A (below_step z7_7 hb); have n1_ := z7_A (hbox); have n2_ := z7_A ((by rw [hg]; exact (below_size z7_7) : w.heap.size ≤ gb173)); have n3_ := z7_A ((by rw [hg]; exact (below_size z7_7) : w.heap.size ≤ gb173)); clear HB; revert n0_ n1_ n2_ n3_; intro HB BK173 GW173 GE173; clear hb hbox hg))
 (try simp only [Act.put, List.setIfInBounds_toArray, List.set_cons_zero, List.set_cons_succ])
 go_cut [19] (fun v19 wc => ∃ (kq : Nat) (x19_2 : Bool), v19 = .bool x19_2 ∧ Aside0 (spec_PolicyWorth.j0 kq l1 x19_2 a0_0 l0_1 a0_2 a0_3 a0_4 a0_5 = some (r1, r2)) ∧ Aside0 (kq ≤ k) ∧ Aside0 (wc.heap[gb173]? = some (.cells #[.int .i64 a0_0, (.slice A0_1 l0_1.length c0_1), .int .i64 a0_2, .int .i64 a0_3, .int .i64 a0_4, .int .i64 a0_5] 30 (0, 0))) ∧ Aside0 (Below w.heap.size w wc))
 case first =>
  have H := HC3.out
  clear HC3
  replace H := Option.bind_eq_some_iff.mp H
  obtain ⟨t174, A50, H⟩ := H
  (try dsimp only at H)
  have A5 := z7_A A50
  clear A50
  by_cases c6 : t174 = true
  ·subst c6
   have H1 : ((spec_l6Policy.f k a0_0 l0_1 a0_2 a0_3 a0_4 a0_5 l1).bind fun t175 => (spec_PolicyWorth.j0 k l1 (!t175) a0_0 l0_1 a0_2 a0_3 a0_4 a0_5)) = some (r1, r2) := by rw [if_pos rfl] at H; exact H
   clear H
   have H := H1
   clear H1
   replace H := Option.bind_eq_some_iff.mp H
   obtain ⟨t175, A70, H⟩ := H
   (try dsimp only at H)
   have A7 := z7_A A70
   clear A70
   have H' := z7_A H
   clear H
   have hcz8_0 : w4.cell? ⟨gb173, 0, none⟩ = some (.int .i64 a0_0) := bcz BK173.out 0 rfl
   have hcz8_1 : w4.cell? ⟨gb173, 1, none⟩ = some (.slice A0_1 l0_1.length c0_1) := bcz BK173.out 1 rfl
   have hcz8_2 : w4.cell? ⟨gb173, 2, none⟩ = some (.int .i64 a0_2) := bcz BK173.out 2 rfl
   have hcz8_3 : w4.cell? ⟨gb173, 3, none⟩ = some (.int .i64 a0_3) := bcz BK173.out 3 rfl
   have hcz8_4 : w4.cell? ⟨gb173, 4, none⟩ = some (.int .i64 a0_4) := bcz BK173.out 4 rfl
   have hcz8_5 : w4.cell? ⟨gb173, 5, none⟩ = some (.int .i64 a0_5) := bcz BK173.out 5 rfl
   obtain ⟨hfz8_0, hfz8_1, hfz8_2, hfz8_3⟩ := F4z (blk_frozen BK173.out)
   have hfz8_4 := blk_frozen BK173.out 4
   have hfz8_5 := blk_frozen BK173.out 5
   go_wp2_with (first | ((with_reducible refine gate_callee (f := 83) rfl ?_); refine goesL_ (some 12) rfl rfl Try.func83 z7_5 rfl #[.agg #[.int .i64 a0_0, .slice A0_1 l0_1.length c0_1, .int .i64 a0_2, .int .i64 a0_3, .int .i64 a0_4, .int .i64 a0_5]] rfl z7_4 ?_; (with_reducible refine (spec_l6Good.calls k a0_0 _ _ l0_1 a0_2 a0_3 a0_4 a0_5 true _ ?side1 ?side2 A5.out).mono ?_); (case side1 => have zh := (Kd.C_below HR0_1.out HB.out); exact z7_C); (case side2 => exact HC0_1.out); rintro e w9 ⟨rfl, hb⟩; refine ⟨_, rfl, ?_⟩; have n0_ := z7_A (blk_below (g := gb173) (o := .cells #[.int .i64 a0_0, .slice A0_1 l0_1.length c0_1, .int .i64 a0_2, .int .i64 a0_3, .int .i64 a0_4, .int .i64 a0_5] 30 (0, 0)) z7_2 hb); have n1_ := z7_A (below_step z7_1 hb); clear BK173 HB; revert n0_ n1_; intro BK173 HB; (try clear hb); (try clear hb2); (try clear hk); (try clear hi); have hcz10_0 : w9.cell? ⟨gb173, 0, none⟩ = some (.int .i64 a0_0) := bcz BK173.out 0 rfl; have hcz10_1 : w9.cell? ⟨gb173, 1, none⟩ = some (.slice A0_1 l0_1.length c0_1) := bcz BK173.out 1 rfl; have hcz10_2 : w9.cell? ⟨gb173, 2, none⟩ = some (.int .i64 a0_2) := bcz BK173.out 2 rfl; have hcz10_3 : w9.cell? ⟨gb173, 3, none⟩ = some (.int .i64 a0_3) := bcz BK173.out 3 rfl; have hcz10_4 : w9.cell? ⟨gb173, 4, none⟩ = some (.int .i64 a0_4) := bcz BK173.out 4 rfl; have hcz10_5 : w9.cell? ⟨gb173, 5, none⟩ = some (.int .i64 a0_5) := bcz BK173.out 5 rfl; obtain ⟨hfz10_0, hfz10_1, hfz10_2, hfz10_3⟩ := F4z (blk_frozen BK173.out); have hfz10_4 := blk_frozen BK173.out 4; have hfz10_5 := blk_frozen BK173.out 5) | (go_at_call 64; (with_reducible refine (spec_l6Policy.calls k a0_0 _ _ l0_1 a0_2 a0_3 a0_4 a0_5 _ _ l1 t175 _ ?side1 ?side2 ?side3 ?side4 A7.out).mono ?_); (case side1 => have zh := (Kd.C_below HR0_1.out HB.out); exact z7_C); (case side2 => exact HC0_1.out); (case side3 => have zh := (Kd.C_below HR1.out HB.out); exact z7_C); (case side4 => exact HC1.out); rintro e w11 ⟨rfl, hb⟩; have n0_ := z7_A (blk_below (g := gb173) (o := .cells #[.int .i64 a0_0, .slice A0_1 l0_1.length c0_1, .int .i64 a0_2, .int .i64 a0_3, .int .i64 a0_4, .int .i64 a0_5] 30 (0, 0)) z7_2 hb); have n1_ := z7_A (below_step z7_1 hb); clear BK173 HB; revert n0_ n1_; intro BK173 HB; (try clear hb); (try clear hb2); (try clear hk); (try clear hi)))
   go_meet
   case rel => exact ⟨_, (!t175), z7_8, H', ⟨by first | omega | exact Nat.le_refl _⟩, ⟨z7_2⟩, ⟨z7_1⟩⟩
  ·replace c6 := Bool.eq_false_iff.mpr c6
   subst c6
   have H1 : (spec_PolicyWorth.j0 k l1 true a0_0 l0_1 a0_2 a0_3 a0_4 a0_5) = some (r1, r2) := by rw [if_neg (show ¬ (false = true) by decide)] at H; exact H
   clear H
   have H := H1
   clear H1
   have H' := z7_A H
   clear H
   have hcz12_0 : w4.cell? ⟨gb173, 0, none⟩ = some (.int .i64 a0_0) := bcz BK173.out 0 rfl
   have hcz12_1 : w4.cell? ⟨gb173, 1, none⟩ = some (.slice A0_1 l0_1.length c0_1) := bcz BK173.out 1 rfl
   have hcz12_2 : w4.cell? ⟨gb173, 2, none⟩ = some (.int .i64 a0_2) := bcz BK173.out 2 rfl
   have hcz12_3 : w4.cell? ⟨gb173, 3, none⟩ = some (.int .i64 a0_3) := bcz BK173.out 3 rfl
   have hcz12_4 : w4.cell? ⟨gb173, 4, none⟩ = some (.int .i64 a0_4) := bcz BK173.out 4 rfl
   have hcz12_5 : w4.cell? ⟨gb173, 5, none⟩ = some (.int .i64 a0_5) := bcz BK173.out 5 rfl
   obtain ⟨hfz12_0, hfz12_1, hfz12_2, hfz12_3⟩ := F4z (blk_frozen BK173.out)
   have hfz12_4 := blk_frozen BK173.out 4
   have hfz12_5 := blk_frozen BK173.out 5
   go_wp2_with (first | ((with_reducible refine gate_callee (f := 83) rfl ?_); refine goesL_ (some 12) rfl rfl Try.func83 z7_5 rfl #[.agg #[.int .i64 a0_0, .slice A0_1 l0_1.length c0_1, .int .i64 a0_2, .int .i64 a0_3, .int .i64 a0_4, .int .i64 a0_5]] rfl z7_4 ?_; (with_reducible refine (spec_l6Good.calls k a0_0 _ _ l0_1 a0_2 a0_3 a0_4 a0_5 false _ ?side1 ?side2 A5.out).mono ?_); (case side1 => have zh := (Kd.C_below HR0_1.out HB.out); exact z7_C); (case side2 => exact HC0_1.out); rintro e w13 ⟨rfl, hb⟩; refine ⟨_, rfl, ?_⟩; have n0_ := z7_A (blk_below (g := gb173) (o := .cells #[.int .i64 a0_0, .slice A0_1 l0_1.length c0_1, .int .i64 a0_2, .int .i64 a0_3, .int .i64 a0_4, .int .i64 a0_5] 30 (0, 0)) z7_2 hb); have n1_ := z7_A (below_step z7_1 hb); clear BK173 HB; revert n0_ n1_; intro BK173 HB; (try clear hb); (try clear hb2); (try clear hk); (try clear hi)))
   go_meet
   case rel => exact ⟨_, (true), z7_8, H', ⟨by first | omega | exact Nat.le_refl _⟩, ⟨z7_2⟩, ⟨z7_1⟩⟩
 case rest =>
  clear HC3
  (try clear c1)
  obtain ⟨kq, x19_2, rfl, HA, HJ2, BK173, HB⟩ := hcut
  cases kq with
  | zero => exact absurd HA.out (by simp [spec_PolicyWorth.j0])
  | succ kj2 =>
   have H := HA.out
   clear HA
   simp only [spec_PolicyWorth.j0] at H
   by_cases c14 : x19_2 = true
   ·subst c14
    have H1 : (some ((([] : List Int)), false)) = some (r1, r2) := by rw [if_pos rfl] at H; exact H
    clear H
    have H := H1
    clear H1
    obtain ⟨y176, hy176⟩ : ∃ y_ : List Int, y_ = (([] : List Int)) := ⟨_, rfl⟩
    replace H : (some (y176, false)) = some (r1, r2) := by first | (rw [hy176]; with_reducible exact H) | (have H2_ := (Option.bind_some _ _).symm.trans H; rw [hy176]; with_reducible exact H2_) | (have H2_ := (Option.bind_some _ _).symm.trans H; with_reducible exact H2_) | with_reducible exact H | (rw [hy176]; exact H) | exact H
    have Ny176 := z7_A hy176
    clear hy176
    simp only [Option.some.injEq, Prod.mk.injEq] at H
    obtain ⟨rfl, rfl⟩ := H
    go_wp2_with (first | ((with_reducible refine gate_dst (N := 20) rfl ?_); refine Kd.R_lit (Kd.int .i64) _ 3 ?hg (N := 20) ?hd (xs := ([] : List Int)) (inner := []) (ok := fun _ => True) (okp := fun _ => True) ?hr ?hp (fun _ hk => hk) trivial (Below.refl _ _) (Nat.le_refl _) (by simp) ?_; (case hd => rfl); (case hg => rfl); (case hr => first | (go_simp; done) | (go_simp; rfl)); (case hp => exact (Reps.none _ _)); intro v177 w15 ho16 hb hg_ hnew_; clear hg_ hnew_; (first | rw [← Ny176.out] at ho16 | (simp only [Int.reduceToNat] at ho16; rw [← Ny176.out] at ho16)); have n0_ := z7_A (Kd.R_lower ho16 (below_size z7_1)); have n1_ := z7_A (blk_below (g := gb173) (o := .cells #[.int .i64 a0_0, .slice A0_1 l0_1.length c0_1, .int .i64 a0_2, .int .i64 a0_3, .int .i64 a0_4, .int .i64 a0_5] 30 (0, 0)) z7_2 hb); have n2_ := z7_A (below_step z7_1 hb); clear BK173 HB; revert n0_ n1_ n2_; intro HO178 BK173 HB; clear hb ho16))
    go_ret2
    exact ⟨_, z7_11, by (with_reducible repeat (first | apply Kd.R_alloc | apply Kd.R_drewN | apply Kd.R_drew)); exact HO178.out, z7_1⟩
   ·replace c14 := Bool.eq_false_iff.mpr c14
    subst c14
    have H1 : (if 21 ≤ 35184372088832 then (spec_PolicyWorth.l0 kj2 l1 (List.replicate 21 0) (wrap64 (a0_0 - 1)) a0_0 l0_1 a0_2 a0_3 a0_4 a0_5) else (none)) = some (r1, r2) := by rw [if_neg (show ¬ (false = true) by decide)] at H; exact H
    clear H
    have H := H1
    clear H1
    by_cases c17 : 21 ≤ 35184372088832
    ·rw [if_pos c17] at H
     have c17b0 := eq_true c17
     have c17b1 : decide (21 ≤ 35184372088832) = true := decide_eq_true c17
     clear c17
     obtain ⟨y179, hy179⟩ : ∃ y_ : List Int, y_ = (List.replicate 21 0) := ⟨_, rfl⟩
     replace H : (spec_PolicyWorth.l0 kj2 l1 y179 (wrap64 (a0_0 - 1)) a0_0 l0_1 a0_2 a0_3 a0_4 a0_5) = some (r1, r2) := by first | (rw [hy179]; with_reducible exact H) | (have H2_ := (Option.bind_some _ _).symm.trans H; rw [hy179]; with_reducible exact H2_) | (have H2_ := (Option.bind_some _ _).symm.trans H; with_reducible exact H2_) | with_reducible exact H | (rw [hy179]; exact H) | exact H
     have Ny179 := z7_A hy179
     clear hy179
     have H' := z7_A H
     clear H
     go_wp2_with (first | ((with_reducible refine gate_dst (N := 21) rfl ?_); refine Kd.R_make (Kd.int .i64) _ 3 rfl (N := 21) rfl 22 _ _ rfl 21 rfl rfl Try.underlying22 (.int .i64 0) 8 info3 rfl (by decide) (by omega) 0 (ok := fun _ => True) (okp := fun _ => True) rfl (fun _ hk => hk) trivial (by omega) (by omega) (Below.refl _ _) (Nat.le_refl _) ?_; intro v180 w18 ho19 hb hg_ hnew_; clear hg_ hnew_; (first | rw [← Ny179.out] at ho19 | (simp only [Int.reduceToNat] at ho19; rw [← Ny179.out] at ho19)); have n0_ := z7_A (Kd.R_lower ho19 (below_size z7_1)); have n1_ := z7_A (blk_below (g := gb173) (o := .cells #[.int .i64 a0_0, .slice A0_1 l0_1.length c0_1, .int .i64 a0_2, .int .i64 a0_3, .int .i64 a0_4, .int .i64 a0_5] 30 (0, 0)) z7_2 hb); have n2_ := z7_A (below_step z7_1 hb); clear BK173 HB; revert n0_ n1_ n2_; intro HO181 BK173 HB; clear hb ho19; have hcz20_0 : w18.cell? ⟨gb173, 0, none⟩ = some (.int .i64 a0_0) := bcz BK173.out 0 rfl; have hcz20_1 : w18.cell? ⟨gb173, 1, none⟩ = some (.slice A0_1 l0_1.length c0_1) := bcz BK173.out 1 rfl; have hcz20_2 : w18.cell? ⟨gb173, 2, none⟩ = some (.int .i64 a0_2) := bcz BK173.out 2 rfl; have hcz20_3 : w18.cell? ⟨gb173, 3, none⟩ = some (.int .i64 a0_3) := bcz BK173.out 3 rfl; have hcz20_4 : w18.cell? ⟨gb173, 4, none⟩ = some (.int .i64 a0_4) := bcz BK173.out 4 rfl; have hcz20_5 : w18.cell? ⟨gb173, 5, none⟩ = some (.int .i64 a0_5) := bcz BK173.out 5 rfl; obtain ⟨hfz20_0, hfz20_1, hfz20_2, hfz20_3⟩ := F4z (blk_frozen BK173.out); have hfz20_4 := blk_frozen BK173.out 4; have hfz20_5 := blk_frozen BK173.out 5))
     go_loopg [6, 7] kj2 (fun kq v6 v7 w' => ∃ (x6_2 : List Int) (x7_2 : Int), v7 = .int .i64 x7_2 ∧ Aside0 (spec_PolicyWorth.l0 kq l1 x6_2 x7_2 a0_0 l0_1 a0_2 a0_3 a0_4 a0_5 = some (r1, r2)) ∧ Aside0 (kq ≤ kj2) ∧ Aside0 (Kd.R (Kd.int .i64) 3 w' w.heap.size (fun _ => True) v6 x6_2) ∧ Aside0 (w'.heap[gb173]? = some (.cells #[.int .i64 a0_0, (.slice A0_1 l0_1.length c0_1), .int .i64 a0_2, .int .i64 a0_3, .int .i64 a0_4, .int .i64 a0_5] 30 (0, 0))) ∧ Aside0 (Below w.heap.size w w'))
     case atStart => exact ⟨(y179), (wrap64 (a0_0 - 1)), z7_8, H', ⟨Nat.le_refl _⟩, ⟨by (with_reducible repeat (first | apply Kd.R_alloc | apply Kd.R_drewN | apply Kd.R_drew)); exact HO181.out⟩, ⟨z7_2⟩, ⟨z7_1⟩⟩
     case round =>
      clear H'
      (try clear p6); (try clear c14); (try clear c17); (try clear c17b0); (try clear c17b1); (try clear hcz20_0); (try clear hcz20_1); (try clear hcz20_2); (try clear hcz20_3); (try clear hcz20_4); (try clear hcz20_5); (try clear hfz20_0); (try clear hfz20_1); (try clear hfz20_2); (try clear hfz20_3); (try clear hfz20_4); (try clear hfz20_5)
      obtain ⟨x6_2, x7_2, rfl, HA, HK2, HO_6, BK173, HB⟩ := hrel
      cases gk with
      | zero => exact absurd HA.out (by simp [spec_PolicyWorth.l0])
      | succ k2 =>
       have H := HA.out
       clear HA
       simp only [spec_PolicyWorth.l0] at H
       by_cases c21 : x7_2 ≥ 0
       ·rw [if_pos c21] at H
        have c21b0 : decide (0 ≤ x7_2) = true := decide_eq_true c21
        clear c21
        obtain ⟨y182, hy182⟩ : ∃ y_ : List Int, y_ = (([] : List Int)) := ⟨_, rfl⟩
        replace H : (spec_PolicyWorth.l1 k2 l1 x6_2 x7_2 y182 (-10) a0_0 l0_1 a0_2 a0_3 a0_4 a0_5) = some (r1, r2) := by first | (rw [hy182]; with_reducible exact H) | (have H2_ := (Option.bind_some _ _).symm.trans H; rw [hy182]; with_reducible exact H2_) | (have H2_ := (Option.bind_some _ _).symm.trans H; with_reducible exact H2_) | with_reducible exact H | (rw [hy182]; exact H) | exact H
        have Ny182 := z7_A hy182
        clear hy182
        have H' := z7_A H
        clear H
        go_wp2_with (first | ((with_reducible refine gate_dst (N := 29) rfl ?_); refine Kd.R_lit (Kd.int .i64) _ 3 ?hg (N := 29) ?hd (xs := ([] : List Int)) (inner := []) (ok := fun _ => True) (okp := fun _ => True) ?hr ?hp (fun _ hk => hk) trivial (Below.refl _ _) (Nat.le_refl _) (by simp) ?_; (case hd => rfl); (case hg => rfl); (case hr => first | (go_simp; done) | (go_simp; rfl)); (case hp => exact (Reps.none _ _)); intro v183 w22 ho23 hb hg_ hnew_; clear hg_ hnew_; (first | rw [← Ny182.out] at ho23 | (simp only [Int.reduceToNat] at ho23; rw [← Ny182.out] at ho23)); have n0_ := z7_A (Kd.R_elder' z7_3 (Kd.R_base ho23) hb); have n1_ := z7_A (Kd.R_lower (Kd.R_new' ho23 (Kd.R_lt z7_3)) (below_size z7_1)); have n2_ := z7_A (blk_below (g := gb173) (o := .cells #[.int .i64 a0_0, .slice A0_1 l0_1.length c0_1, .int .i64 a0_2, .int .i64 a0_3, .int .i64 a0_4, .int .i64 a0_5] 30 (0, 0)) z7_2 hb); have n3_ := z7_A (below_step z7_1 hb); clear HO_6 BK173 HB; revert n0_ n1_ n2_ n3_; intro HO_6 HO184 BK173 HB; clear hb ho23))
        go_loopg [8, 9] k2 (fun kq v8 v9 w' => ∃ (x8_3 : List Int) (x9_3 : Int), v9 = .int .i64 x9_3 ∧ Aside0 (spec_PolicyWorth.l1 kq l1 x6_2 x7_2 x8_3 x9_3 a0_0 l0_1 a0_2 a0_3 a0_4 a0_5 = some (r1, r2)) ∧ Aside0 (kq ≤ k2) ∧ Aside0 (Kd.R (Kd.int .i64) 3 w' w.heap.size (fun k_ => z7_V k_ v8) u6 x6_2) ∧ Aside0 (Kd.R (Kd.int .i64) 3 w' w.heap.size (fun k_ => z7_V k_ u6) v8 x8_3) ∧ Aside0 (w'.heap[gb173]? = some (.cells #[.int .i64 a0_0, (.slice A0_1 l0_1.length c0_1), .int .i64 a0_2, .int .i64 a0_3, .int .i64 a0_4, .int .i64 a0_5] 30 (0, 0))) ∧ Aside0 (Below w.heap.size w w'))
        case atStart => exact ⟨(y182), ((-10)), z7_8, H', ⟨Nat.le_refl _⟩, ⟨z7_9⟩, ⟨by (with_reducible repeat (first | apply Kd.R_alloc | apply Kd.R_drewN | apply Kd.R_drew)); exact Kd.R_mono HO184.out (fun _ hk => hk.2)⟩, ⟨z7_2⟩, ⟨z7_1⟩⟩
        case round =>
         clear H'
         (try clear c2); (try clear c21); (try clear c21b0)
         obtain ⟨x8_3, x9_3, rfl, HA, HK3, HO_6, HO_8, BK173, HB⟩ := hrel
         cases gk with
         | zero => exact absurd HA.out (by simp [spec_PolicyWorth.l1])
         | succ k3 =>
          have H := HA.out
          clear HA
          simp only [spec_PolicyWorth.l1] at H
          by_cases c24 : x9_3 ≤ 10
          ·rw [if_pos c24] at H
           have c24b0 : decide (x9_3 ≤ 10) = true := decide_eq_true c24
           clear c24
           by_cases c25 : 0 ≤ x7_2
           ·rw [if_pos c25] at H
            have c25b0 : decide (0 ≤ x7_2) = true := decide_eq_true c25
            clear c25
            by_cases c26 : x7_2 < (l1.length : Int)
            ·rw [if_pos c26] at H
             have c26b0 : decide (x7_2 < (l1.length : Int)) = true := decide_eq_true c26
             clear c26
             replace H := Option.bind_eq_some_iff.mp H
             obtain ⟨t186, A270, H⟩ := H
             (try dsimp only at H)
             have A27 := z7_A A270
             clear A270
             replace H := Option.bind_eq_some_iff.mp H
             obtain ⟨t187, A280, H⟩ := H
             (try dsimp only at H)
             have A28 := z7_A A280
             clear A280
             replace H := Option.bind_eq_some_iff.mp H
             obtain ⟨t188, A290, H⟩ := H
             (try dsimp only at H)
             have A29 := z7_A A290
             clear A290
             replace H := Option.bind_eq_some_iff.mp H
             obtain ⟨t189, A300, H⟩ := H
             (try dsimp only at H)
             have A30 := z7_A A300
             clear A300
             by_cases c31 : x8_3.length < 17592186044416
             ·rw [if_pos c31] at H
              have LMc31 := z7_A c31
              clear c31
              obtain ⟨y190, hy190⟩ : ∃ y_ : List Int, y_ = (x8_3 ++ [wrap64 ((wrap64 (t187 * t188)) + t189)]) := ⟨_, rfl⟩
              replace H : (spec_PolicyWorth.l1 k3 l1 x6_2 x7_2 y190 (wrap64 (x9_3 + 1)) a0_0 l0_1 a0_2 a0_3 a0_4 a0_5) = some (r1, r2) := by first | (rw [hy190]; with_reducible exact H) | (have H2_ := (Option.bind_some _ _).symm.trans H; rw [hy190]; with_reducible exact H2_) | (have H2_ := (Option.bind_some _ _).symm.trans H; with_reducible exact H2_) | with_reducible exact H | (rw [hy190]; exact H) | exact H
              have Ny190 := z7_A hy190
              clear hy190
              have H' := z7_A H
              clear H
              try go_wp2
              have n0_ := z7_A (Kd.R_drew HO_6.out)
              have n1_ := z7_A (Kd.R_drew HO_8.out)
              have n2_ := z7_A (blk_drew BK173.out)
              have n3_ := z7_A (below_drew1 HB.out)
              clear HO_6
              clear HO_8
              clear BK173
              clear HB
              have HO_6 := n0_
              have HO_8 := n1_
              have BK173 := n2_
              have HB := n3_
              clear n0_ n1_ n2_ n3_
              have p185 : 0 ≤ (x7_2 : Int) := of_decide_eq_true (by first | (with_reducible assumption) | assumption)
              have q185 : x7_2 < (l1.length : Int) := of_decide_eq_true (by first | (with_reducible assumption) | assumption)
              obtain ⟨ad185, e185, hx185_0, hx185_1⟩ := at_T72 HR1.out x7_2 p185 q185
              have hw185_1 := hx185_1
              have hw185_0 := hx185_0
              cases e185
              replace hx185_0 := (HB.out.cell (World.block_lt_of_cell? w _ hx185_0)).trans hx185_0
              replace hx185_1 := (HB.out.cell (World.block_lt_of_cell? w _ hx185_1)).trans hx185_1
              replace p185 := eq_true p185
              replace q185 := eq_true q185
              refine start_ (n := 8) (S := fun w' => w'.cell? ⟨gb173, 0, none⟩ = some (.int .i64 a0_0) ∧ w'.cell? ⟨gb173, 1, none⟩ = some (.slice A0_1 l0_1.length c0_1) ∧ w'.cell? ⟨gb173, 2, none⟩ = some (.int .i64 a0_2) ∧ w'.cell? ⟨gb173, 3, none⟩ = some (.int .i64 a0_3) ∧ w'.cell? ⟨gb173, 4, none⟩ = some (.int .i64 a0_4) ∧ w'.cell? ⟨gb173, 5, none⟩ = some (.int .i64 a0_5) ∧ w'.cell? (ad185.add ((x7_2).toNat * 2)) = some (.int .i64 ((rd_T72 l1 x7_2).f0)) ∧ w'.cell? ⟨(ad185.add ((x7_2).toNat * 2)).block, (ad185.add ((x7_2).toNat * 2)).off + 1, none⟩ = some (.int .i64 ((rd_T72 l1 x7_2).f1))) (ds := []) #[false, false, false, false, false, false, false, false] z7_5 rfl rfl ⟨bcz BK173.out 0 rfl, bcz BK173.out 1 rfl, bcz BK173.out 2 rfl, bcz BK173.out 3 rfl, bcz BK173.out 4 rfl, bcz BK173.out 5 rfl, ((HB.out.cell (World.block_lt_of_cell? w _ hw185_0)).trans hw185_0), ((HB.out.cell (World.block_lt_of_cell? w _ hw185_1)).trans hw185_1)⟩ (fun hHeld => ?_); refine with_tabW spec_PolicyWorth.tab11 spec_PolicyWorth.bits11 (fun HT_ HW_ => ?_)
              generalize wr.drew = w32 at HO_6 HO_8 BK173 HB hx185_0 hx185_1 hHeld ⊢
              refine pure_ (i := 1) (N := some 35) (v := ?_) (a' := ?_) #[false, true, false, false, false, false, false, false] rfl rfl (any_of HT_.out z7_5) (fun _ _ _ h => h) (Or.inl ⟨z7_10, ?_⟩) ?_ ?_
              rotate_left
              ·intro w'
               go_simp
               with_reducible rfl
              rotate_left
              ·simp only [Act.put, List.setIfInBounds_toArray, List.set_cons_zero, List.set_cons_succ, i64_w, i32_w]
               rfl
              refine pure_ (i := 2) (N := some 36) (v := ?_) (a' := ?_) #[false, true, true, false, false, false, false, false] rfl rfl (any_of HT_.out z7_5) (fun _ _ _ h => h) (Or.inl ⟨z7_10, ?_⟩) ?_ ?_
              rotate_left
              ·intro w'
               go_simp
               with_reducible rfl
              rotate_left
              ·simp only [Act.put, List.setIfInBounds_toArray, List.set_cons_zero, List.set_cons_succ, i64_w, i32_w]
               rfl
              refine pure_ (i := 3) (N := some 37) (v := ?_) (a' := ?_) #[false, true, true, true, false, false, false, false] rfl rfl (any_of HT_.out z7_5) (fun _ _ _ h => h) (Or.inl ⟨z7_10, ?_⟩) ?_ ?_
              rotate_left
              ·intro w'
               go_simp
               with_reducible rfl
              rotate_left
              ·simp only [Act.put, List.setIfInBounds_toArray, List.set_cons_zero, List.set_cons_succ, i64_w, i32_w]
               rfl
              refine pure_ (i := 5) (N := some 39) (v := ?_) (a' := ?_) #[false, true, true, true, false, true, false, false] rfl rfl (any_of HT_.out z7_5) (fun _ _ _ h => h) (Or.inl ⟨z7_10, ?_⟩) ?_ ?_
              rotate_left
              ·intro w'
               go_simp
               with_reducible rfl
              rotate_left
              ·simp only [Act.put, List.setIfInBounds_toArray, List.set_cons_zero, List.set_cons_succ, i64_w, i32_w]
               rfl
              refine take_ (i := 0) (N := some 34) (v := ?_) (a' := ?_) #[true, true, true, true, false, true, false, false] rfl rfl (take_ofW HT_.out HW_.out z7_5) (fun _ _ _ h => h) (Or.inl ⟨z7_10, ?_⟩) hHeld ?_ ?_
              rotate_left
              ·rintro w' ⟨s0, s1, s2, s3, s4, s5, s6, s7⟩
               go_simp
               with_reducible rfl
              rotate_left
              ·simp only [Act.put, List.setIfInBounds_toArray, List.set_cons_zero, List.set_cons_succ, i64_w, i32_w]
               rfl
              refine take_ (i := 4) (N := some 38) (v := ?_) (a' := ?_) #[true, true, true, true, true, true, false, false] rfl rfl (take_ofW HT_.out HW_.out z7_5) (fun _ _ _ h => h) (Or.inl ⟨z7_10, ?_⟩) hHeld ?_ ?_
              rotate_left
              ·rintro w' ⟨s0, s1, s2, s3, s4, s5, s6, s7⟩
               go_simp
               with_reducible rfl
              rotate_left
              ·simp only [Act.put, List.setIfInBounds_toArray, List.set_cons_zero, List.set_cons_succ, i64_w, i32_w]
               rfl
              refine one_ (i := 6) (N := some 40) #[true, true, true, true, true, true, true, false] rfl rfl (one_of HT_.out z7_5) (by decide) (fun K hK => ?_)
              refine goes_ Try.func67 z7_5 rfl #[.agg #[.int .i64 a0_0, .slice A0_1 l0_1.length c0_1, .int .i64 a0_2, .int .i64 a0_3, .int .i64 a0_4, .int .i64 a0_5], .agg #[.int .i64 ((rd_T72 l1 x7_2).f0), .int .i64 ((rd_T72 l1 x7_2).f1)], .int .i64 x9_3] z7_10 rfl rfl z7_4 ?_
              with_reducible refine (spec_l6Up.calls a0_0 _ _ l0_1 a0_2 a0_3 a0_4 a0_5 ((rd_T72 l1 x7_2).f0) ((rd_T72 l1 x7_2).f1) x9_3 t186 _ ?side1 ?side2 A27.out).mono ?_
              (case side1 => have zh := (Kd.C_below HR0_1.out HB.out); exact z7_C)
              (case side2 => exact HC0_1.out)
              rintro e w33 ⟨rfl, hb⟩
              refine ⟨_, rfl, ?_⟩
              have n0_ := z7_A (Kd.R_below z7_3 hb)
              have n1_ := z7_A (Kd.R_below z7_6 hb)
              have n2_ := z7_A (blk_below (g := gb173) (o := .cells #[.int .i64 a0_0, .slice A0_1 l0_1.length c0_1, .int .i64 a0_2, .int .i64 a0_3, .int .i64 a0_4, .int .i64 a0_5] 30 (0, 0)) z7_2 hb)
              have n3_ := z7_A (below_step z7_1 hb)
              clear HO_6
              clear HO_8
              clear BK173
              clear HB
              have HO_6 := n0_
              have HO_8 := n1_
              have BK173 := n2_
              have HB := n3_
              clear n0_ n1_ n2_ n3_
              (try clear hb)
              (try clear hb2)
              (try clear hk)
              (try clear hi)
              refine hK.out _ _ ⟨bcz BK173.out 0 rfl, bcz BK173.out 1 rfl, bcz BK173.out 2 rfl, bcz BK173.out 3 rfl, bcz BK173.out 4 rfl, bcz BK173.out 5 rfl, ((HB.out.cell (World.block_lt_of_cell? w _ hw185_0)).trans hw185_0), ((HB.out.cell (World.block_lt_of_cell? w _ hw185_1)).trans hw185_1)⟩ (fun hHeld => ?_)
              clear hK K
              refine norm_ (a' := ?_) ?_ ?_
              rotate_left
              ·show Act.put _ (some 40) _ = _
               simp only [Act.put, List.setIfInBounds_toArray, List.set_cons_zero, List.set_cons_succ, i64_w, i32_w]
               rfl
              refine pure_ (i := 7) (N := some 10) (v := ?_) (a' := ?_) #[true, true, true, true, true, true, true, true] rfl rfl (any_of HT_.out z7_5) (fun _ _ _ h => h) (Or.inl ⟨z7_10, ?_⟩) ?_ ?_
              rotate_left
              ·intro w'
               go_simp
               with_reducible rfl
              rotate_left
              ·simp only [Act.put, List.setIfInBounds_toArray, List.set_cons_zero, List.set_cons_succ, i64_w, i32_w]
               rfl
              refine done_ (done_of HT_.out z7_5) ?_
              try go_wp2
              have n0_ := z7_A (Kd.R_drew HO_6.out)
              have n1_ := z7_A (Kd.R_drew HO_8.out)
              have n2_ := z7_A (blk_drew BK173.out)
              have n3_ := z7_A (below_drew1 HB.out)
              clear HO_6
              clear HO_8
              clear BK173
              clear HB
              have HO_6 := n0_
              have HO_8 := n1_
              have BK173 := n2_
              have HB := n3_
              clear n0_ n1_ n2_ n3_
              refine start_ (n := 24) (S := fun w' => w'.cell? ⟨gb173, 0, none⟩ = some (.int .i64 a0_0) ∧ w'.cell? ⟨gb173, 1, none⟩ = some (.slice A0_1 l0_1.length c0_1) ∧ w'.cell? ⟨gb173, 2, none⟩ = some (.int .i64 a0_2) ∧ w'.cell? ⟨gb173, 3, none⟩ = some (.int .i64 a0_3) ∧ w'.cell? ⟨gb173, 4, none⟩ = some (.int .i64 a0_4) ∧ w'.cell? ⟨gb173, 5, none⟩ = some (.int .i64 a0_5)) (ds := []) #[false, false, false, false, false, false, false, false, false, false, false, false, false, false, false, false, false, false, false, false, false, false, false, false] z7_5 rfl rfl ⟨bcz BK173.out 0 rfl, bcz BK173.out 1 rfl, bcz BK173.out 2 rfl, bcz BK173.out 3 rfl, bcz BK173.out 4 rfl, bcz BK173.out 5 rfl⟩ (fun hHeld => ?_); refine with_tabW spec_PolicyWorth.tab12 spec_PolicyWorth.bits12 (fun HT_ HW_ => ?_)
              generalize w33.drew = w34 at HO_6 HO_8 BK173 HB hHeld ⊢
              refine pure_ (i := 0) (N := some 41) (v := ?_) (a' := ?_) #[true, false, false, false, false, false, false, false, false, false, false, false, false, false, false, false, false, false, false, false, false, false, false, false] rfl rfl (any_of HT_.out z7_5) (fun _ _ _ h => h) (Or.inl ⟨z7_10, ?_⟩) ?_ ?_
              rotate_left
              ·intro w'
               go_simp
               with_reducible rfl
              rotate_left
              ·simp only [Act.put, List.setIfInBounds_toArray, List.set_cons_zero, List.set_cons_succ, i64_w, i32_w]
               rfl
              refine pure_ (i := 2) (N := some 43) (v := ?_) (a' := ?_) #[true, false, true, false, false, false, false, false, false, false, false, false, false, false, false, false, false, false, false, false, false, false, false, false] rfl rfl (any_of HT_.out z7_5) (fun _ _ _ h => h) (Or.inl ⟨z7_10, ?_⟩) ?_ ?_
              rotate_left
              ·intro w'
               go_simp
               with_reducible rfl
              rotate_left
              ·simp only [Act.put, List.setIfInBounds_toArray, List.set_cons_zero, List.set_cons_succ, i64_w, i32_w]
               rfl
              refine pure_ (i := 3) (N := some 44) (v := ?_) (a' := ?_) #[true, false, true, true, false, false, false, false, false, false, false, false, false, false, false, false, false, false, false, false, false, false, false, false] rfl rfl (any_of HT_.out z7_5) (fun _ _ _ h => h) (Or.inl ⟨z7_10, ?_⟩) ?_ ?_
              rotate_left
              ·intro w'
               go_simp
               with_reducible rfl
              rotate_left
              ·simp only [Act.put, List.setIfInBounds_toArray, List.set_cons_zero, List.set_cons_succ, i64_w, i32_w]
               rfl
              refine pure_ (i := 6) (N := some 47) (v := ?_) (a' := ?_) #[true, false, true, true, false, false, true, false, false, false, false, false, false, false, false, false, false, false, false, false, false, false, false, false] rfl rfl (any_of HT_.out z7_5) (fun _ _ _ h => h) (Or.inl ⟨z7_10, ?_⟩) ?_ ?_
              rotate_left
              ·intro w'
               go_simp
               with_reducible rfl
              rotate_left
              ·simp only [Act.put, List.setIfInBounds_toArray, List.set_cons_zero, List.set_cons_succ, i64_w, i32_w]
               rfl
              refine pure_ (i := 8) (N := some 49) (v := ?_) (a' := ?_) #[true, false, true, true, false, false, true, false, true, false, false, false, false, false, false, false, false, false, false, false, false, false, false, false] rfl rfl (any_of HT_.out z7_5) (fun _ _ _ h => h) (Or.inl ⟨z7_10, ?_⟩) ?_ ?_
              rotate_left
              ·intro w'
               go_simp
               with_reducible rfl
              rotate_left
              ·simp only [Act.put, List.setIfInBounds_toArray, List.set_cons_zero, List.set_cons_succ, i64_w, i32_w]
               rfl
              refine pure_ (i := 13) (N := some 54) (v := ?_) (a' := ?_) #[true, false, true, true, false, false, true, false, true, false, false, false, false, true, false, false, false, false, false, false, false, false, false, false] rfl rfl (any_of HT_.out z7_5) (fun _ _ _ h => h) (Or.inl ⟨z7_10, ?_⟩) ?_ ?_
              rotate_left
              ·intro w'
               go_simp
               with_reducible rfl
              rotate_left
              ·simp only [Act.put, List.setIfInBounds_toArray, List.set_cons_zero, List.set_cons_succ, i64_w, i32_w]
               rfl
              refine pure_ (i := 14) (N := some 55) (v := ?_) (a' := ?_) #[true, false, true, true, false, false, true, false, true, false, false, false, false, true, true, false, false, false, false, false, false, false, false, false] rfl rfl (any_of HT_.out z7_5) (fun _ _ _ h => h) (Or.inl ⟨z7_10, ?_⟩) ?_ ?_
              rotate_left
              ·intro w'
               go_simp
               with_reducible rfl
              rotate_left
              ·simp only [Act.put, List.setIfInBounds_toArray, List.set_cons_zero, List.set_cons_succ, i64_w, i32_w]
               rfl
              refine pure_ (i := 15) (N := some 56) (v := ?_) (a' := ?_) #[true, false, true, true, false, false, true, false, true, false, false, false, false, true, true, true, false, false, false, false, false, false, false, false] rfl rfl (any_of HT_.out z7_5) (fun _ _ _ h => h) (Or.inl ⟨z7_10, ?_⟩) ?_ ?_
              rotate_left
              ·intro w'
               go_simp
               with_reducible rfl
              rotate_left
              ·simp only [Act.put, List.setIfInBounds_toArray, List.set_cons_zero, List.set_cons_succ, i64_w, i32_w]
               rfl
              refine pure_ (i := 17) (N := some 58) (v := ?_) (a' := ?_) #[true, false, true, true, false, false, true, false, true, false, false, false, false, true, true, true, false, true, false, false, false, false, false, false] rfl rfl (any_of HT_.out z7_5) (fun _ _ _ h => h) (Or.inl ⟨z7_10, ?_⟩) ?_ ?_
              rotate_left
              ·intro w'
               go_simp
               with_reducible rfl
              rotate_left
              ·simp only [Act.put, List.setIfInBounds_toArray, List.set_cons_zero, List.set_cons_succ, i64_w, i32_w]
               rfl
              refine take_ (i := 1) (N := some 42) (v := ?_) (a' := ?_) #[true, true, true, true, false, false, true, false, true, false, false, false, false, true, true, true, false, true, false, false, false, false, false, false] rfl rfl (take_ofW HT_.out HW_.out z7_5) (fun _ _ _ h => h) (Or.inl ⟨z7_10, ?_⟩) hHeld ?_ ?_
              rotate_left
              ·rintro w' ⟨s0, s1, s2, s3, s4, s5⟩
               go_simp
               with_reducible rfl
              rotate_left
              ·simp only [Act.put, List.setIfInBounds_toArray, List.set_cons_zero, List.set_cons_succ, i64_w, i32_w]
               rfl
              refine take_ (i := 5) (N := some 46) (v := ?_) (a' := ?_) #[true, true, true, true, false, true, true, false, true, false, false, false, false, true, true, true, false, true, false, false, false, false, false, false] rfl rfl (take_ofW HT_.out HW_.out z7_5) (fun _ _ _ h => h) (Or.inl ⟨z7_10, ?_⟩) hHeld ?_ ?_
              rotate_left
              ·rintro w' ⟨s0, s1, s2, s3, s4, s5⟩
               go_simp
               with_reducible rfl
              rotate_left
              ·simp only [Act.put, List.setIfInBounds_toArray, List.set_cons_zero, List.set_cons_succ, i64_w, i32_w]
               rfl
              refine take_ (i := 7) (N := some 48) (v := ?_) (a' := ?_) #[true, true, true, true, false, true, true, true, true, false, false, false, false, true, true, true, false, true, false, false, false, false, false, false] rfl rfl (take_ofW HT_.out HW_.out z7_5) (fun _ _ _ h => h) (Or.inl ⟨z7_10, ?_⟩) hHeld ?_ ?_
              rotate_left
              ·rintro w' ⟨s0, s1, s2, s3, s4, s5⟩
               go_simp
               with_reducible rfl
              rotate_left
              ·simp only [Act.put, List.setIfInBounds_toArray, List.set_cons_zero, List.set_cons_succ, i64_w, i32_w]
               rfl
              refine pure_ (i := 9) (N := some 50) (v := ?_) (a' := ?_) #[true, true, true, true, false, true, true, true, true, true, false, false, false, true, true, true, false, true, false, false, false, false, false, false] rfl rfl (any_of HT_.out z7_5) (fun _ _ _ h => h) (Or.inl ⟨z7_10, ?_⟩) ?_ ?_
              rotate_left
              ·intro w'
               go_simp
               with_reducible rfl
              rotate_left
              ·simp only [Act.put, List.setIfInBounds_toArray, List.set_cons_zero, List.set_cons_succ, i64_w, i32_w]
               rfl
              refine take_ (i := 12) (N := some 53) (v := ?_) (a' := ?_) #[true, true, true, true, false, true, true, true, true, true, false, false, true, true, true, true, false, true, false, false, false, false, false, false] rfl rfl (take_ofW HT_.out HW_.out z7_5) (fun _ _ _ h => h) (Or.inl ⟨z7_10, ?_⟩) hHeld ?_ ?_
              rotate_left
              ·rintro w' ⟨s0, s1, s2, s3, s4, s5⟩
               go_simp
               with_reducible rfl
              rotate_left
              ·simp only [Act.put, List.setIfInBounds_toArray, List.set_cons_zero, List.set_cons_succ, i64_w, i32_w]
               rfl
              refine take_ (i := 16) (N := some 57) (v := ?_) (a' := ?_) #[true, true, true, true, false, true, true, true, true, true, false, false, true, true, true, true, true, true, false, false, false, false, false, false] rfl rfl (take_ofW HT_.out HW_.out z7_5) (fun _ _ _ h => h) (Or.inl ⟨z7_10, ?_⟩) hHeld ?_ ?_
              rotate_left
              ·rintro w' ⟨s0, s1, s2, s3, s4, s5⟩
               go_simp
               with_reducible rfl
              rotate_left
              ·simp only [Act.put, List.setIfInBounds_toArray, List.set_cons_zero, List.set_cons_succ, i64_w, i32_w]
               rfl
              refine pure_ (i := 18) (N := some 59) (v := ?_) (a' := ?_) #[true, true, true, true, false, true, true, true, true, true, false, false, true, true, true, true, true, true, true, false, false, false, false, false] rfl rfl (any_of HT_.out z7_5) (fun _ _ _ h => h) (Or.inl ⟨z7_10, ?_⟩) ?_ ?_
              rotate_left
              ·intro w'
               go_simp
               with_reducible rfl
              rotate_left
              ·simp only [Act.put, List.setIfInBounds_toArray, List.set_cons_zero, List.set_cons_succ, i64_w, i32_w]
               rfl
              refine one_ (i := 4) (N := some 45) #[true, true, true, true, true, true, true, true, true, true, false, false, true, true, true, true, true, true, true, false, false, false, false, false] rfl rfl (one_of HT_.out z7_5) (by decide) (fun K hK => ?_)
              refine goes_ Try.func68 z7_5 rfl #[.agg #[.int .i64 a0_0, .slice A0_1 l0_1.length c0_1, .int .i64 a0_2, .int .i64 a0_3, .int .i64 a0_4, .int .i64 a0_5], .int .i64 x9_3, .int .i64 t186] z7_10 rfl rfl z7_4 ?_
              with_reducible refine (spec_l6Order.calls a0_0 _ _ l0_1 a0_2 a0_3 a0_4 a0_5 x9_3 t186 t187 _ ?side1 ?side2 A28.out).mono ?_
              (case side1 => have zh := (Kd.C_below HR0_1.out HB.out); exact z7_C)
              (case side2 => exact HC0_1.out)
              rintro e w35 ⟨rfl, hb⟩
              refine ⟨_, rfl, ?_⟩
              have n0_ := z7_A (Kd.R_below z7_3 hb)
              have n1_ := z7_A (Kd.R_below z7_6 hb)
              have n2_ := z7_A (blk_below (g := gb173) (o := .cells #[.int .i64 a0_0, .slice A0_1 l0_1.length c0_1, .int .i64 a0_2, .int .i64 a0_3, .int .i64 a0_4, .int .i64 a0_5] 30 (0, 0)) z7_2 hb)
              have n3_ := z7_A (below_step z7_1 hb)
              clear HO_6
              clear HO_8
              clear BK173
              clear HB
              have HO_6 := n0_
              have HO_8 := n1_
              have BK173 := n2_
              have HB := n3_
              clear n0_ n1_ n2_ n3_
              (try clear hb)
              (try clear hb2)
              (try clear hk)
              (try clear hi)
              refine hK.out _ _ ⟨bcz BK173.out 0 rfl, bcz BK173.out 1 rfl, bcz BK173.out 2 rfl, bcz BK173.out 3 rfl, bcz BK173.out 4 rfl, bcz BK173.out 5 rfl⟩ (fun hHeld => ?_)
              clear hK K
              refine norm_ (a' := ?_) ?_ ?_
              rotate_left
              ·show Act.put _ (some 45) _ = _
               simp only [Act.put, List.setIfInBounds_toArray, List.set_cons_zero, List.set_cons_succ, i64_w, i32_w]
               rfl
              refine one_ (i := 10) (N := some 51) #[true, true, true, true, true, true, true, true, true, true, true, false, true, true, true, true, true, true, true, false, false, false, false, false] rfl rfl (one_of HT_.out z7_5) (by decide) (fun K hK => ?_)
              refine goes_ Try.func89 z7_5 rfl #[.agg #[.int .i64 a0_0, .slice A0_1 l0_1.length c0_1, .int .i64 a0_2, .int .i64 a0_3, .int .i64 a0_4, .int .i64 a0_5], .int .i64 (wrap64 (a0_0 - x7_2))] z7_10 rfl rfl z7_4 ?_
              with_reducible refine (spec_l6Power.calls k3 a0_0 _ _ l0_1 a0_2 a0_3 a0_4 a0_5 (wrap64 (a0_0 - x7_2)) t188 _ ?side1 ?side2 A29.out).mono ?_
              (case side1 => have zh := (Kd.C_below HR0_1.out HB.out); exact z7_C)
              (case side2 => exact HC0_1.out)
              rintro e w36 ⟨rfl, hb⟩
              refine ⟨_, rfl, ?_⟩
              have n0_ := z7_A (Kd.R_below z7_3 hb)
              have n1_ := z7_A (Kd.R_below z7_6 hb)
              have n2_ := z7_A (blk_below (g := gb173) (o := .cells #[.int .i64 a0_0, .slice A0_1 l0_1.length c0_1, .int .i64 a0_2, .int .i64 a0_3, .int .i64 a0_4, .int .i64 a0_5] 30 (0, 0)) z7_2 hb)
              have n3_ := z7_A (below_step z7_1 hb)
              clear HO_6
              clear HO_8
              clear BK173
              clear HB
              have HO_6 := n0_
              have HO_8 := n1_
              have BK173 := n2_
              have HB := n3_
              clear n0_ n1_ n2_ n3_
              (try clear hb)
              (try clear hb2)
              (try clear hk)
              (try clear hi)
              obtain ⟨Ao37, co37, eo37⟩ := Kd.R_slice HO_6.out
              (first | subst eo37 | (injection eo37 with f1_ f2_ f3_; have f4_ := f1_.symm; have f5_ := f3_.symm; clear f1_ f2_ f3_; subst f4_; subst f5_))
              refine hK.out _ _ ⟨bcz BK173.out 0 rfl, bcz BK173.out 1 rfl, bcz BK173.out 2 rfl, bcz BK173.out 3 rfl, bcz BK173.out 4 rfl, bcz BK173.out 5 rfl⟩ (fun hHeld => ?_)
              clear hK K
              refine norm_ (a' := ?_) ?_ ?_
              rotate_left
              ·show Act.put _ (some 51) _ = _
               simp only [Act.put, List.setIfInBounds_toArray, List.set_cons_zero, List.set_cons_succ, i64_w, i32_w]
               rfl
              refine pure_ (i := 11) (N := some 52) (v := ?_) (a' := ?_) #[true, true, true, true, true, true, true, true, true, true, true, true, true, true, true, true, true, true, true, false, false, false, false, false] rfl rfl (any_of HT_.out z7_5) (fun _ _ _ h => h) (Or.inl ⟨z7_10, ?_⟩) ?_ ?_
              rotate_left
              ·intro w'
               go_simp
               with_reducible rfl
              rotate_left
              ·simp only [Act.put, List.setIfInBounds_toArray, List.set_cons_zero, List.set_cons_succ, i64_w, i32_w]
               rfl
              refine one_ (i := 19) (N := some 60) #[true, true, true, true, true, true, true, true, true, true, true, true, true, true, true, true, true, true, true, true, false, false, false, false] rfl rfl (one_of HT_.out z7_5) (by decide) (fun K hK => ?_)
              refine goes_ Try.func90 z7_5 rfl #[.agg #[.int .i64 a0_0, .slice A0_1 l0_1.length c0_1, .int .i64 a0_2, .int .i64 a0_3, .int .i64 a0_4, .int .i64 a0_5], .slice Ao37 x6_2.length co37, .int .i64 t186, .int .i64 (wrap64 (a0_0 - x7_2))] z7_10 rfl rfl z7_4 ?_
              with_reducible refine (spec_l6After.calls k3 a0_0 _ _ l0_1 a0_2 a0_3 a0_4 a0_5 _ _ x6_2 t186 (wrap64 (a0_0 - x7_2)) t189 _ ?side1 ?side2 ?side3 ?side4 A30.out).mono ?_
              (case side1 => have zh := (Kd.C_below HR0_1.out HB.out); exact z7_C)
              (case side2 => exact HC0_1.out)
              (case side3 => have zh := (Kd.R_reads' HO_6.out).2.2; exact z7_C)
              (case side4 => exact (Kd.R_reads' HO_6.out).2.1)
              rintro e w38 ⟨rfl, hb⟩
              refine ⟨_, rfl, ?_⟩
              have n0_ := z7_A (Kd.R_below z7_3 hb)
              have n1_ := z7_A (Kd.R_below z7_6 hb)
              have n2_ := z7_A (blk_below (g := gb173) (o := .cells #[.int .i64 a0_0, .slice A0_1 l0_1.length c0_1, .int .i64 a0_2, .int .i64 a0_3, .int .i64 a0_4, .int .i64 a0_5] 30 (0, 0)) z7_2 hb)
              have n3_ := z7_A (below_step z7_1 hb)
              clear HO_6
              clear HO_8
              clear BK173
              clear HB
              have HO_6 := n0_
              have HO_8 := n1_
              have BK173 := n2_
              have HB := n3_
              clear n0_ n1_ n2_ n3_
              (try clear hb)
              (try clear hb2)
              (try clear hk)
              (try clear hi)
              refine hK.out _ _ ⟨bcz BK173.out 0 rfl, bcz BK173.out 1 rfl, bcz BK173.out 2 rfl, bcz BK173.out 3 rfl, bcz BK173.out 4 rfl, bcz BK173.out 5 rfl⟩ (fun hHeld => ?_)
              clear hK K
              refine norm_ (a' := ?_) ?_ ?_
              rotate_left
              ·show Act.put _ (some 60) _ = _
               simp only [Act.put, List.setIfInBounds_toArray, List.set_cons_zero, List.set_cons_succ, i64_w, i32_w]
               rfl
              refine pure_ (i := 20) (N := some 61) (v := ?_) (a' := ?_) #[true, true, true, true, true, true, true, true, true, true, true, true, true, true, true, true, true, true, true, true, true, false, false, false] rfl rfl (any_of HT_.out z7_5) (fun _ _ _ h => h) (Or.inl ⟨z7_10, ?_⟩) ?_ ?_
              rotate_left
              ·intro w'
               go_simp
               with_reducible rfl
              rotate_left
              ·simp only [Act.put, List.setIfInBounds_toArray, List.set_cons_zero, List.set_cons_succ, i64_w, i32_w]
               rfl
              refine one_ (i := 21) (N := some 62) #[true, true, true, true, true, true, true, true, true, true, true, true, true, true, true, true, true, true, true, true, true, true, false, false] rfl rfl (one_of HT_.out z7_5) (by decide) (fun K hK => ?_)
              refine value_ (w1 := ?_) (v := ?_) z7_10 rfl ?_ ?_
              rotate_left 2
              ·go_simp
               constructor
               ·rfl
               ·rfl
              refine hK.out _ _ ⟨(blk_cell (blk_alloc BK173.out _) 0).trans rfl, (blk_cell (blk_alloc BK173.out _) 1).trans rfl, (blk_cell (blk_alloc BK173.out _) 2).trans rfl, (blk_cell (blk_alloc BK173.out _) 3).trans rfl, (blk_cell (blk_alloc BK173.out _) 4).trans rfl, (blk_cell (blk_alloc BK173.out _) 5).trans rfl⟩ (fun hHeld => ?_)
              clear hK K
              refine norm_ (a' := ?_) ?_ ?_
              rotate_left
              ·show Act.put _ (some 62) _ = _
               simp only [Act.put, List.setIfInBounds_toArray, List.set_cons_zero, List.set_cons_succ, i64_w, i32_w]
               rfl
              refine one_ (i := 22) (N := some 63) #[true, true, true, true, true, true, true, true, true, true, true, true, true, true, true, true, true, true, true, true, true, true, true, false] rfl rfl (one_of HT_.out z7_5) (by decide) (fun K hK => ?_)
              refine Kd.R_append_step (Kd.int .i64) (w0 := w) w.heap.size z7_10 (.tmp 41) (.tmp 62) 22 3 (.int .i64 0) 8 rfl Try.underlying22 info3 rfl (by decide) (by omega) u8 x8_3 (wrap64 ((wrap64 (t187 * t188)) + t189)) [.int .i64 (wrap64 ((wrap64 (t187 * t188)) + t189))] (fun k_ => z7_S k_ Ao37 x6_2.length co37) (fun _ => False) rfl rfl ?aP (fun _ hk => hk.elim) ?aF ?aO ?aB ?aS ?aL ?_
              (case aP => exact rfl)
              (case aB => exact z7_1)
              (case aF => exact (fun k_ hk => Kd.fresh' (Kd.R_lt z7_3) k_ hk))
              (case aO => exact z7_6)
              (case aS => exact (below_size z7_1))
              (case aL => have := LMc31.out; omega)
              intro v191 w39 ho hb hg hat
              rw [← Ny190.out] at ho
              have n0_ := z7_A (Kd.R_after (ok := (fun _ => True)) (by (with_reducible repeat (first | apply Kd.R_alloc | apply Kd.R_drewN | apply Kd.R_drew)); exact Kd.R_mono HO_6.out (fun _ hk => ⟨trivial, hk⟩)) hg hat)
              have n1_ := z7_A (blk_grown (g := gb173) (o := .cells #[.int .i64 a0_0, .slice A0_1 l0_1.length c0_1, .int .i64 a0_2, .int .i64 a0_3, .int .i64 a0_4, .int .i64 a0_5] 30 (0, 0)) z7_2 hg (Kd.R_ne HO_8.out BK173.out (by decide)))
              have n2_ := z7_A (hb)
              have n3_ := z7_A (ho)
              clear HO_6
              clear BK173
              clear HB
              clear HO_8
              have HO_6 := n0_
              have BK173 := n1_
              have HB := n2_
              have HO192 := n3_
              clear n0_ n1_ n2_ n3_
              clear ho hb hg hat
              refine hK.out _ _ ⟨bcz BK173.out 0 rfl, bcz BK173.out 1 rfl, bcz BK173.out 2 rfl, bcz BK173.out 3 rfl, bcz BK173.out 4 rfl, bcz BK173.out 5 rfl⟩ (fun hHeld => ?_)
              clear hK K
              refine norm_ (a' := ?_) ?_ ?_
              rotate_left
              ·show Act.put _ (some 63) _ = _
               simp only [Act.put, List.setIfInBounds_toArray, List.set_cons_zero, List.set_cons_succ, i64_w, i32_w]
               rfl
              refine pure_ (i := 23) (N := some 8) (v := ?_) (a' := ?_) #[true, true, true, true, true, true, true, true, true, true, true, true, true, true, true, true, true, true, true, true, true, true, true, true] rfl rfl (any_of HT_.out z7_5) (fun _ _ _ h => h) (Or.inl ⟨z7_10, ?_⟩) ?_ ?_
              rotate_left
              ·intro w'
               go_simp
               with_reducible rfl
              rotate_left
              ·simp only [Act.put, List.setIfInBounds_toArray, List.set_cons_zero, List.set_cons_succ, i64_w, i32_w]
               rfl
              refine done_ (done_of HT_.out z7_5) ?_
              try go_wp2
              go_roundg k3
              case measure => have := HJ2.out; have := HK2.out; have := HK3.out; omega
              case rel => exact ⟨(y190), (wrap64 (x9_3 + 1)), z7_8, H', ⟨by have := HJ2.out; have := HK2.out; have := HK3.out; omega⟩, ⟨z7_9⟩, ⟨by (with_reducible repeat (first | apply Kd.R_alloc | apply Kd.R_drewN | apply Kd.R_drew)); exact HO192.out⟩, ⟨z7_2⟩, ⟨z7_1⟩⟩
             ·rw [if_neg c31] at H
              exact absurd H (by simp)
            ·rw [if_neg c26] at H
             exact absurd H (by simp)
           ·rw [if_neg c25] at H
            exact absurd H (by simp)
          ·rw [if_neg c24] at H
           have c24b0 : decide (x9_3 ≤ 10) = false := decide_eq_false c24
           clear c24
           have H' := z7_A H
           clear H
           go_wp2
           go_roundg k3
           case measure => have := HJ2.out; have := HK2.out; have := HK3.out; omega
           case rel => exact ⟨(x8_3), (wrap64 (x7_2 - 1)), z7_8, H', ⟨by have := HJ2.out; have := HK2.out; have := HK3.out; omega⟩, ⟨by (with_reducible repeat (first | apply Kd.R_alloc | apply Kd.R_drewN | apply Kd.R_drew)); exact Kd.R_mono HO_8.out (fun _ hk => trivial)⟩, ⟨z7_2⟩, ⟨z7_1⟩⟩
       ·rw [if_neg c21] at H
        have c21b0 : decide (0 ≤ x7_2) = false := decide_eq_false c21
        clear c21
        simp only [Option.some.injEq, Prod.mk.injEq] at H
        obtain ⟨rfl, rfl⟩ := H
        go_wp2
        go_ret2
        exact ⟨_, z7_11, z7_3, z7_1⟩
    ·rw [if_neg c17] at H
     exact absurd H (by simp)

end Go.Proofs.Ytmekmkhdhakohaa.PFnExactPolicyWorth
