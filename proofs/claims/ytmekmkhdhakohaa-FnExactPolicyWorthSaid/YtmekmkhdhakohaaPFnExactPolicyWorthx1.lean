-- A text of this session (its program hook.py, over the kit's print.py): not a print of print.sh
-- THIN: one blank for two
import Derived.Test.YtmekmkhdhakohaaPFnExactPolicyWorthx0
namespace Go.Proofs.Ytmekmkhdhakohaa.PFnExactPolicyWorth
open Go.RowKit Go.Proofs.YtmekmkhdhakohaaW.PrintWords Go.Proofs.YtmekmkhdhakohaaW.PrintLast Go.Proofs.YtmekmkhdhakohaaW.PrintMore
attribute [local go_sem] max2_int min2_int max_two min_two max_three min_three max_four min_four   -- for this text's walks alone
set_option linter.unusedVariables false
set_option linter.unusedSimpArgs false

-- SQUEEZED
private theorem bcz {w : World} {g : Nat} {t : TypeId} {cs : Array Value} (h : w.heap[g]? = some (.cells cs t (0, 0))) (i : Nat) {v : Value} (e : cs[i]? = some v) : w.cell? ⟨g, i, none⟩ = some v := (blk_cell h i).trans e
private theorem F2z {P : Nat → Prop} (h : ∀ i, P i) : P 0 ∧ P 1 := ⟨h 0, h 1⟩
private theorem F4z {P : Nat → Prop} (h : ∀ i, P i) : P 0 ∧ P 1 ∧ P 2 ∧ P 3 := ⟨h 0, h 1, h 2, h 3⟩
theorem z1_A {p : Prop} (h : p) : Aside0 p := Aside0.mk h
theorem z1_C {p : Prop} (h : p := by repeat (first | exact zh | (with_reducible refine Kd.C_alloc ?_ _) | (with_reducible refine Kd.C_drewN ?_ _) | (with_reducible refine Kd.C_drew ?_))) : p := h
theorem z1_1 {p : Prop} (h : p := by repeat (first | (with_reducible first | exact HB.out | apply below_alloc | apply pw_below_drewN | apply below_drew1) | exact HB.out)) : p := h
theorem z1_2 {p : Prop} (h : p := by repeat (first | (with_reducible first | exact HB.out | apply below_alloc | apply pw_below_drewN | apply below_drew1 | refine below_set ?_ GE126.out) | exact HB.out)) : p := h
theorem z1_3 {p : Prop} (h : p := by (with_reducible repeat (first | refine blk_drewN ?_ _ | refine blk_drew ?_ | refine blk_alloc ?_ _)); exact BK126.out) : p := h
theorem z1_4 {p : Prop} (h : p := by (try simp only [List.map_toArray, List.map_cons, List.map_nil]); first | done | rfl | (simp only [List.length_drop, List.length_take]; rfl)) : p := h
theorem z1_5 {p : Prop} (h : p := by repeat (first | (with_reducible first | exact HB.out | apply below_alloc | apply pw_below_drewN | apply below_drew1 | refine below_set ?_ GE126.out | refine below_set ?_ GE127.out) | exact HB.out)) : p := h
theorem z1_6 {p : Prop} (h : p := by first | rfl | (simp [errW_none, errW_some] <;> rfl) | (simp [*, errW_none, errW_some] <;> rfl)) : p := h
theorem z1_7 {p : Prop} (h : p := by rw [hg]; exact Nat.ne_of_lt (blk_lt (g := gb126) (o := .cells #[.int .i64 a0_0, .slice A0_1 l0_1.length c0_1, .int .i64 a0_2, .int .i64 a0_3, .int .i64 a0_4, .int .i64 a0_5] 30 (0, 0)) z1_3)) : p := h
theorem z1_8 {p : Prop} (h : p := by rw [hg]; exact Nat.ne_of_gt (blk_lt (g := gb126) (o := .cells #[.int .i64 a0_0, .slice A0_1 l0_1.length c0_1, .int .i64 a0_2, .int .i64 a0_3, .int .i64 a0_4, .int .i64 a0_5] 30 (0, 0)) z1_3)) : p := h
theorem z1_9 {p : Prop} (h : p := by first | (with_reducible assumption) | assumption) : p := h
theorem z1_10 {p : Prop} (h : p := by (with_reducible repeat (first | refine blk_drewN ?_ _ | refine blk_drew ?_ | refine blk_alloc ?_ _)); exact BK114.out) : p := h
theorem z1_11 {p : Prop} (h : p := by first | rfl | (simp; done) | (simp [*]; done)) : p := h
theorem z1_12 {p : Prop} (h : p := by repeat (first | (with_reducible first | exact HB.out | apply below_alloc | apply pw_below_drewN | apply below_drew1 | refine below_set ?_ GE114.out | refine below_set ?_ GE115.out | refine below_set ?_ GE116.out) | exact HB.out)) : p := h
theorem z1_13 {p : Prop} (h : p := by repeat (first | (with_reducible first | exact HB.out | apply below_alloc | apply pw_below_drewN | apply below_drew1 | refine below_set ?_ GE108.out | refine below_set ?_ GE109.out | refine below_set ?_ GE110.out) | exact HB.out)) : p := h
theorem z1_14 {p : Prop} (h : p := by rw [hg]; exact (below_size z1_1)) : p := h
theorem z1_15 {p : Prop} (h : p := by (with_reducible repeat (first | refine blk_drewN ?_ _ | refine blk_drew ?_ | refine blk_alloc ?_ _)); exact BK108.out) : p := h
theorem z1_16 {p : Prop} (h : p := by (with_reducible repeat (first | apply Kd.R_alloc | apply Kd.R_drewN | apply Kd.R_drew)); exact HO_3.out) : p := h
theorem z1_17 {p : Prop} (h : p := by repeat (first | exact Drawn0.refl _ | apply Drawn0.step)) : p := h
theorem z1_18 {p : Prop} (h : p := by rw [hg]; exact (below_size z1_2)) : p := h
theorem z1_19 {p : Prop} (h : p := by repeat (first | (with_reducible first | exact HB.out | apply below_alloc | apply pw_below_drewN | apply below_drew1 | refine below_set ?_ GE114.out | refine below_set ?_ GE115.out) | exact HB.out)) : p := h
theorem z1_20 {p : Prop} (h : p := by repeat (first | (with_reducible first | exact HB.out | apply below_alloc | apply pw_below_drewN | apply below_drew1 | refine below_set ?_ GE108.out | refine below_set ?_ GE109.out) | exact HB.out)) : p := h
theorem z1_21 {p : Prop} (h : p := by (with_reducible repeat (first | refine blk_drewN ?_ _ | refine blk_drew ?_ | refine blk_alloc ?_ _)); exact BK115.out) : p := h
theorem z1_22 {p : Prop} (h : p := by repeat (first | (with_reducible first | exact HB.out | apply below_alloc | apply pw_below_drewN | apply below_drew1 | refine below_set ?_ GE114.out) | exact HB.out)) : p := h
theorem z1_23 {p : Prop} (h : p := by repeat (first | (with_reducible first | exact HB.out | apply below_alloc | apply pw_below_drewN | apply below_drew1 | refine below_set ?_ GE108.out) | exact HB.out)) : p := h
theorem z1_24 {p : Prop} (h : p := by (with_reducible repeat (first | refine blk_drewN ?_ _ | refine blk_drew ?_ | refine blk_alloc ?_ _)); refine blk_far ?_ NB115_116.out _; (with_reducible repeat (first | refine blk_drewN ?_ _ | refine blk_drew ?_ | refine blk_alloc ?_ _)); exact BK115.out) : p := h
theorem z1_25 {p : Prop} (h : p := by (with_reducible repeat (first | refine blk_drewN ?_ _ | refine blk_drew ?_ | refine blk_alloc ?_ _)); refine blk_far ?_ NB114_116.out _; (with_reducible repeat (first | refine blk_drewN ?_ _ | refine blk_drew ?_ | refine blk_alloc ?_ _)); exact BK114.out) : p := h
theorem z1_26 {p : Prop} (h : p := by (with_reducible repeat (first | refine blk_drewN ?_ _ | refine blk_drew ?_ | refine blk_alloc ?_ _)); exact BK109.out) : p := h
theorem z1_27 {p : Prop} (h : p := by rw [hg]; exact Nat.ne_of_lt (blk_lt (g := gb108) (o := .cells #[.int .i64 a0_0, .slice A0_1 l0_1.length c0_1, .int .i64 a0_2, .int .i64 a0_3, .int .i64 a0_4, .int .i64 a0_5] 24 (0, 0)) z1_15)) : p := h
theorem z1_28 {p : Prop} (h : p := by rw [hg]; exact Nat.ne_of_gt (blk_lt (g := gb108) (o := .cells #[.int .i64 a0_0, .slice A0_1 l0_1.length c0_1, .int .i64 a0_2, .int .i64 a0_3, .int .i64 a0_4, .int .i64 a0_5] 24 (0, 0)) z1_15)) : p := h
theorem z1_29 {p : Prop} (h : p := by repeat (first | (with_reducible first | exact HB.out | apply below_alloc | apply pw_below_drewN | apply below_drew1 | refine below_set ?_ GE101.out) | exact HB.out)) : p := h
theorem z1_30 {p : Prop} (h : p := by kernel_rfl) : p := h
theorem z1_31 {p : Prop} (h : p := by rw [hg]; exact Nat.ne_of_lt (blk_lt (g := gb114) (o := .cells #[.int .i64 a0_0, .int .i64 a0_1] 72 (0, 0)) z1_10)) : p := h
theorem z1_32 {p : Prop} (h : p := by rw [hg]; exact Nat.ne_of_gt (blk_lt (g := gb114) (o := .cells #[.int .i64 a0_0, .int .i64 a0_1] 72 (0, 0)) z1_10)) : p := h
theorem z1_33 {p : Prop} (h : p := by have := HK1.out; omega) : p := h

/-! ### laws_szIntS: function 62 -/
def laws_szIntS.f (l0 : List Int) (a1 : Int) : Option (Int) := if (wrap64 (a1 - (l0.length : Int))) < 0 then (some (-1)) else (some (wrap64 (a1 - (l0.length : Int))))
set_option maxHeartbeats 8000000 in
set_option maxRecDepth 100000 in
theorem laws_szIntS.calls (A0 : Option Addr) (c0 : Nat) (l0 : List Int) (a1 : Int) (r : Int) (w : World) (hr0 : Kd.C (Kd.int .i64) w A0 l0.length l0) (hc0 : l0.length ≤ c0) (h : laws_szIntS.f l0 a1 = some r) :
  Calls Try.prog 62 #[.slice A0 l0.length c0, .int .i64 a1] w fun e w' => e = .returned (.int .i64 r) ∧ Drawn0 w w' := by
 have HR0 := z1_A hr0
 have HC0 := z1_A hc0
 clear hr0 hc0
 have H : (if (wrap64 (a1 - (l0.length : Int))) < 0 then (some (-1)) else (some (wrap64 (a1 - (l0.length : Int))))) = some r := h
 clear h
 by_cases c3 : (wrap64 (a1 - (l0.length : Int))) < 0
 ·rw [if_pos c3] at H
  have c3b0 : decide ((wrap64 (a1 - (l0.length : Int))) < 0) = true := decide_eq_true c3
  clear c3
  obtain rfl := Option.some.inj H
  go_enter Try.func62, Try.ntmps62
  go_wp2
  go_ret
  exact ⟨z1_11, z1_17⟩
 ·rw [if_neg c3] at H
  have c3b0 : decide ((wrap64 (a1 - (l0.length : Int))) < 0) = false := decide_eq_false c3
  clear c3
  obtain rfl := Option.some.inj H
  go_enter Try.func62, Try.ntmps62
  go_wp2
  go_ret
  exact ⟨z1_11, z1_17⟩

/-! ### laws_szProcess: function 13 -/
def laws_szProcess.f (a0_0 : Int) (l0_1 : List Int) (a0_2 : Int) (a0_3 : Int) (a0_4 : Int) (a0_5 : Int) (a1 : Int) : Option (Int) := (laws_szIntS.f l0_1 a1).bind fun t102 => (if t102 < 0 then (some (-1)) else (some t102))
set_option maxHeartbeats 8000000 in
set_option maxRecDepth 100000 in
theorem laws_szProcess.calls (a0_0 : Int) (A0_1 : Option Addr) (c0_1 : Nat) (l0_1 : List Int) (a0_2 : Int) (a0_3 : Int) (a0_4 : Int) (a0_5 : Int) (a1 : Int) (r : Int) (w : World) (hr0_1 : Kd.C (Kd.int .i64) w A0_1 l0_1.length l0_1) (hc0_1 : l0_1.length ≤ c0_1) (h : laws_szProcess.f a0_0 l0_1 a0_2 a0_3 a0_4 a0_5 a1 = some r) :
  Calls Try.prog 13 #[.agg #[.int .i64 a0_0, .slice A0_1 l0_1.length c0_1, .int .i64 a0_2, .int .i64 a0_3, .int .i64 a0_4, .int .i64 a0_5], .int .i64 a1] w fun e w' => e = .returned (.int .i64 r) ∧ Below w.heap.size w w' := by
 have hu24 := Try.underlying24
 have HR0_1 := z1_A hr0_1
 have HC0_1 := z1_A hc0_1
 clear hr0_1 hc0_1
 have HB := z1_A (Below.refl w.heap.size w)
 have H : ((laws_szIntS.f l0_1 a1).bind fun t102 => (if t102 < 0 then (some (-1)) else (some t102))) = some r := h
 clear h
 replace H := Option.bind_eq_some_iff.mp H
 obtain ⟨t102, A30, H⟩ := H
 (try dsimp only at H)
 have A3 := z1_A A30
 clear A30
 by_cases c4 : t102 < 0
 ·rw [if_pos c4] at H
  have c4b0 : decide (t102 < 0) = true := decide_eq_true c4
  clear c4
  obtain rfl := Option.some.inj H
  go_enter Try.func13, Try.ntmps13
  go_wp2_with (first | ((with_reducible refine gate_dst (N := 2) rfl ?_); refine box_event ?hg (N := 2) ?hd (cs := #[.int .i64 a0_0, .slice A0_1 l0_1.length c0_1, .int .i64 a0_2, .int .i64 a0_3, .int .i64 a0_4, .int .i64 a0_5]) (t := 24) ?hr ?_; (case hd => rfl); (case hg => rfl); (case hr => first | (go_simp; done) | (go_simp; rfl)); intro gb101 hg w5 hbox hb; have n0_ := z1_A (below_step z1_1 hb); have n1_ := z1_A (hbox); have n2_ := z1_A ((z1_14 : w.heap.size ≤ gb101)); have n3_ := z1_A ((z1_14 : w.heap.size ≤ gb101)); clear HB; revert n0_ n1_ n2_ n3_; intro HB BK101 GW101 GE101; clear hb hbox hg; have hcz6_0 : w5.cell? ⟨gb101, 0, none⟩ = some (.int .i64 a0_0) := bcz BK101.out 0 rfl; have hcz6_1 : w5.cell? ⟨gb101, 1, none⟩ = some (.slice A0_1 l0_1.length c0_1) := bcz BK101.out 1 rfl; have hcz6_2 : w5.cell? ⟨gb101, 2, none⟩ = some (.int .i64 a0_2) := bcz BK101.out 2 rfl; have hcz6_3 : w5.cell? ⟨gb101, 3, none⟩ = some (.int .i64 a0_3) := bcz BK101.out 3 rfl; have hcz6_4 : w5.cell? ⟨gb101, 4, none⟩ = some (.int .i64 a0_4) := bcz BK101.out 4 rfl; have hcz6_5 : w5.cell? ⟨gb101, 5, none⟩ = some (.int .i64 a0_5) := bcz BK101.out 5 rfl; obtain ⟨hfz6_0, hfz6_1, hfz6_2, hfz6_3⟩ := F4z (blk_frozen BK101.out); have hfz6_4 := blk_frozen BK101.out 4; have hfz6_5 := blk_frozen BK101.out 5) | ((with_reducible refine gate_callee (f := 62) rfl ?_); refine goesL_ (some 8) rfl rfl Try.func62 z1_30 rfl #[.slice A0_1 l0_1.length c0_1, .int .i64 a1] rfl z1_4 ?_; (with_reducible refine (laws_szIntS.calls _ _ l0_1 a1 t102 _ ?side1 ?side2 A3.out).mono ?_); (case side1 => have zh := (Kd.C_below HR0_1.out HB.out); exact z1_C); (case side2 => exact HC0_1.out); rintro e w' ⟨rfl, ⟨nd, rfl⟩⟩; refine ⟨_, rfl, ?_⟩))
  go_ret
  exact ⟨z1_6, z1_29⟩
 ·rw [if_neg c4] at H
  have c4b0 : decide (t102 < 0) = false := decide_eq_false c4
  clear c4
  obtain rfl := Option.some.inj H
  go_enter Try.func13, Try.ntmps13
  go_wp2_with (first | ((with_reducible refine gate_dst (N := 2) rfl ?_); refine box_event ?hg (N := 2) ?hd (cs := #[.int .i64 a0_0, .slice A0_1 l0_1.length c0_1, .int .i64 a0_2, .int .i64 a0_3, .int .i64 a0_4, .int .i64 a0_5]) (t := 24) ?hr ?_; (case hd => rfl); (case hg => rfl); (case hr => first | (go_simp; done) | (go_simp; rfl)); intro gb101 hg w7 hbox hb; have n0_ := z1_A (below_step z1_1 hb); have n1_ := z1_A (hbox); have n2_ := z1_A ((z1_14 : w.heap.size ≤ gb101)); have n3_ := z1_A ((z1_14 : w.heap.size ≤ gb101)); clear HB; revert n0_ n1_ n2_ n3_; intro HB BK101 GW101 GE101; clear hb hbox hg; have hcz8_0 : w7.cell? ⟨gb101, 0, none⟩ = some (.int .i64 a0_0) := bcz BK101.out 0 rfl; have hcz8_1 : w7.cell? ⟨gb101, 1, none⟩ = some (.slice A0_1 l0_1.length c0_1) := bcz BK101.out 1 rfl; have hcz8_2 : w7.cell? ⟨gb101, 2, none⟩ = some (.int .i64 a0_2) := bcz BK101.out 2 rfl; have hcz8_3 : w7.cell? ⟨gb101, 3, none⟩ = some (.int .i64 a0_3) := bcz BK101.out 3 rfl; have hcz8_4 : w7.cell? ⟨gb101, 4, none⟩ = some (.int .i64 a0_4) := bcz BK101.out 4 rfl; have hcz8_5 : w7.cell? ⟨gb101, 5, none⟩ = some (.int .i64 a0_5) := bcz BK101.out 5 rfl; obtain ⟨hfz8_0, hfz8_1, hfz8_2, hfz8_3⟩ := F4z (blk_frozen BK101.out); have hfz8_4 := blk_frozen BK101.out 4; have hfz8_5 := blk_frozen BK101.out 5) | ((with_reducible refine gate_callee (f := 62) rfl ?_); refine goesL_ (some 8) rfl rfl Try.func62 z1_30 rfl #[.slice A0_1 l0_1.length c0_1, .int .i64 a1] rfl z1_4 ?_; (with_reducible refine (laws_szIntS.calls _ _ l0_1 a1 t102 _ ?side1 ?side2 A3.out).mono ?_); (case side1 => have zh := (Kd.C_below HR0_1.out HB.out); exact z1_C); (case side2 => exact HC0_1.out); rintro e w' ⟨rfl, ⟨nd, rfl⟩⟩; refine ⟨_, rfl, ?_⟩))
  go_ret
  exact ⟨z1_6, z1_29⟩

/-! ### laws_szIntA2S: function 14 -/
def laws_szIntA2S.f (l0 : List (S72)) (a1 : Int) : Option (Int) := if (wrap64 (a1 - (l0.length : Int))) < 0 then (some (-1)) else (some (wrap64 (a1 - (l0.length : Int))))
set_option maxHeartbeats 8000000 in
set_option maxRecDepth 100000 in
theorem laws_szIntA2S.calls (A0 : Option Addr) (c0 : Nat) (l0 : List (S72)) (a1 : Int) (r : Int) (w : World) (hr0 : Kd.C k72 w A0 l0.length l0) (hc0 : l0.length ≤ c0) (h : laws_szIntA2S.f l0 a1 = some r) :
  Calls Try.prog 14 #[.slice A0 l0.length c0, .int .i64 a1] w fun e w' => e = .returned (.int .i64 r) ∧ Drawn0 w w' := by
 have HR0 := z1_A hr0
 have HC0 := z1_A hc0
 clear hr0 hc0
 have H : (if (wrap64 (a1 - (l0.length : Int))) < 0 then (some (-1)) else (some (wrap64 (a1 - (l0.length : Int))))) = some r := h
 clear h
 by_cases c3 : (wrap64 (a1 - (l0.length : Int))) < 0
 ·rw [if_pos c3] at H
  have c3b0 : decide ((wrap64 (a1 - (l0.length : Int))) < 0) = true := decide_eq_true c3
  clear c3
  obtain rfl := Option.some.inj H
  go_enter Try.func14, Try.ntmps14
  go_wp2
  go_ret
  exact ⟨z1_11, z1_17⟩
 ·rw [if_neg c3] at H
  have c3b0 : decide ((wrap64 (a1 - (l0.length : Int))) < 0) = false := decide_eq_false c3
  clear c3
  obtain rfl := Option.some.inj H
  go_enter Try.func14, Try.ntmps14
  go_wp2
  go_ret
  exact ⟨z1_11, z1_17⟩

/-! ### laws_toIntS: function 35 -/
def laws_toIntS.l0 : Nat → List Int → List Int → Int → Option (List Int)
 | 0, _, _, _ => none
 | k + 1, x0, x3, x4 => if x4 < (x0.length : Int) then (if 0 ≤ x4 then (if x4 < (x3.length : Int) then (laws_toIntS.l0 k x0 (x3.set (x4 : Int).toNat (rd x0 x4)) (wrap64 (x4 + 1))) else (none)) else (none)) else (some x3)
def laws_toIntS.f (k : Nat) (l0 : List Int) : Option (List Int) := if 0 ≤ (l0.length : Int) then (if ((l0.length : Int) : Int).toNat ≤ 35184372088832 then (laws_toIntS.l0 k l0 (List.replicate ((l0.length : Int) : Int).toNat 0) 0) else (none)) else (none)
theorem laws_toIntS.mono_l : ∀ k, (∀ y0 y1 y2, LeO (laws_toIntS.l0 k y0 y1 y2) (laws_toIntS.l0 (k + 1) y0 y1 y2))
 | 0 => fun _ _ _ r h => by simp [laws_toIntS.l0] at h
 | k + 1 => by
  have ih0 := laws_toIntS.mono_l k
  ·intro y0 y1 y2
   unfold laws_toIntS.l0
   repeat' first
   | (with_reducible exact ih0 _ _ _)
   | (with_reducible exact LeO.refl _)
   | (with_reducible exact LeO.none _)
   | (with_reducible refine LeO.ite ?_ ?_)
   | (with_reducible refine LeO.bind ?_ (fun _ => ?_))
   | exact ih0 _ _ _
   | exact LeO.none _
   | refine LeO.ite ?_ ?_
   | refine LeO.bind ?_ (fun _ => ?_)
theorem laws_toIntS.mono : ∀ a0 k, LeO (laws_toIntS.f k a0) (laws_toIntS.f (k + 1) a0) := by
 intro a0 k
 have ih0 := laws_toIntS.mono_l k
 unfold laws_toIntS.f
 repeat' first
   | (with_reducible exact ih0 _ _ _)
   | (with_reducible exact LeO.refl _)
   | (with_reducible exact LeO.none _)
   | (with_reducible refine LeO.ite ?_ ?_)
   | (with_reducible refine LeO.bind ?_ (fun _ => ?_))
   | exact ih0 _ _ _
   | exact LeO.none _
   | refine LeO.ite ?_ ?_
   | refine LeO.bind ?_ (fun _ => ?_)
set_option maxHeartbeats 8000000 in
set_option maxRecDepth 100000 in
theorem laws_toIntS.calls (k : Nat) (A0 : Option Addr) (c0 : Nat) (l0 : List Int) (r : List Int) (w : World) (hr0 : Kd.C (Kd.int .i64) w A0 l0.length l0) (hc0 : l0.length ≤ c0) (h : laws_toIntS.f k l0 = some r) :
  Calls Try.prog 35 #[.slice A0 l0.length c0] w fun e w' => ∃ v0_ : Value, e = .returned (v0_) ∧ Kd.R (Kd.int .i64) 3 w' w.heap.size (fun _ => True) v0_ r ∧ Below w.heap.size w w' := by
 have HR0 := z1_A hr0
 have HC0 := z1_A hc0
 clear hr0 hc0
 have HB := z1_A (Below.refl w.heap.size w)
 have H : (if 0 ≤ (l0.length : Int) then (if ((l0.length : Int) : Int).toNat ≤ 35184372088832 then (laws_toIntS.l0 k l0 (List.replicate ((l0.length : Int) : Int).toNat 0) 0) else (none)) else (none)) = some r := h
 clear h
 by_cases c2 : 0 ≤ (l0.length : Int)
 ·rw [if_pos c2] at H
  have c2b0 := eq_true c2
  have c2b1 : decide (0 ≤ (l0.length : Int)) = true := decide_eq_true c2
  clear c2
  by_cases c3 : ((l0.length : Int) : Int).toNat ≤ 35184372088832
  ·rw [if_pos c3] at H
   have c3b0 := eq_true c3
   have c3b1 : decide (((l0.length : Int) : Int).toNat ≤ 35184372088832) = true := decide_eq_true c3
   clear c3
   obtain ⟨y103, hy103⟩ : ∃ y_ : List Int, y_ = (List.replicate ((l0.length : Int) : Int).toNat 0) := ⟨_, rfl⟩
   replace H : (laws_toIntS.l0 k l0 y103 0) = some r := by first | (rw [hy103]; with_reducible exact H) | (have H2_ := (Option.bind_some _ _).symm.trans H; rw [hy103]; with_reducible exact H2_) | (have H2_ := (Option.bind_some _ _).symm.trans H; with_reducible exact H2_) | with_reducible exact H | (rw [hy103]; exact H) | exact H
   have Ny103 := z1_A hy103
   clear hy103
   have H' := z1_A H
   clear H
   go_enter Try.func35, Try.ntmps35
   go_wp2_with (first | ((with_reducible refine gate_dst (N := 7) rfl ?_); refine Kd.R_make (Kd.int .i64) _ 3 rfl (N := 7) rfl 22 _ _ rfl (l0.length : Int) rfl rfl Try.underlying22 (.int .i64 0) 8 info3 rfl (by decide) (by omega) 0 (ok := fun _ => True) (okp := fun _ => True) rfl (fun _ hk => hk) trivial (of_decide_eq_true z1_9) (Nat.le_trans (Nat.mul_le_mul_right _ (of_decide_eq_true z1_9 : (l0.length : Int).toNat ≤ 35184372088832)) (by omega)) (Below.refl _ _) (Nat.le_refl _) ?_; intro v104 w4 ho5 hb hg_ hnew_; clear hg_ hnew_; (first | rw [← Ny103.out] at ho5 | (simp only [Int.reduceToNat] at ho5; rw [← Ny103.out] at ho5)); have n0_ := z1_A (Kd.R_lower ho5 (below_size z1_1)); have n1_ := z1_A (below_step z1_1 hb); clear HB; revert n0_ n1_; intro HO105 HB; clear hb ho5))
   go_loopg [4] k (fun kq v4 w' => ∃ (x3_1 : List Int) (x4_1 : Int), v4 = .int .i64 x4_1 ∧ Aside0 (laws_toIntS.l0 kq l0 x3_1 x4_1 = some r) ∧ Aside0 (kq ≤ k) ∧ Aside0 (Kd.R (Kd.int .i64) 3 w' w.heap.size (fun _ => True) v104 x3_1) ∧ Aside0 (Below w.heap.size w w'))
   case atStart => exact ⟨(y103), (0), z1_11, H', ⟨Nat.le_refl _⟩, ⟨by (with_reducible repeat (first | apply Kd.R_alloc | apply Kd.R_drewN | apply Kd.R_drew)); exact HO105.out⟩, ⟨z1_1⟩⟩
   case round =>
    clear H'
    (try clear c2); (try clear c2b0); (try clear c2b1); (try clear c3); (try clear c3b0); (try clear c3b1)
    obtain ⟨x3_1, x4_1, rfl, HA, HK1, HO_3, HB⟩ := hrel
    cases gk with
    | zero => exact absurd HA.out (by simp [laws_toIntS.l0])
    | succ k1 =>
     have H := HA.out
     clear HA
     simp only [laws_toIntS.l0] at H
     by_cases c6 : x4_1 < (l0.length : Int)
     ·rw [if_pos c6] at H
      have c6b0 : decide (x4_1 < (l0.length : Int)) = true := decide_eq_true c6
      clear c6
      by_cases c7 : 0 ≤ x4_1
      ·rw [if_pos c7] at H
       have c7b0 : decide (0 ≤ x4_1) = true := decide_eq_true c7
       clear c7
       by_cases c8 : x4_1 < (x3_1.length : Int)
       ·rw [if_pos c8] at H
        have c8b0 : decide (x4_1 < (x3_1.length : Int)) = true := decide_eq_true c8
        clear c8
        obtain ⟨y107, hy107⟩ : ∃ y_ : List Int, y_ = (x3_1.set (x4_1 : Int).toNat (rd l0 x4_1)) := ⟨_, rfl⟩
        replace H : (laws_toIntS.l0 k1 l0 y107 (wrap64 (x4_1 + 1))) = some r := by first | (rw [hy107]; with_reducible exact H) | (have H2_ := (Option.bind_some _ _).symm.trans H; rw [hy107]; with_reducible exact H2_) | (have H2_ := (Option.bind_some _ _).symm.trans H; with_reducible exact H2_) | with_reducible exact H | (rw [hy107]; exact H) | exact H
        have Ny107 := z1_A hy107
        clear hy107
        have H' := z1_A H
        clear H
        have p106 : 0 ≤ (x4_1 : Int) := of_decide_eq_true z1_9
        have q106 : x4_1 < (l0.length : Int) := of_decide_eq_true z1_9
        obtain ⟨ad106, e106, hx106_0⟩ := Kd.at_int HR0.out x4_1 p106 q106
        cases e106
        replace hx106_0 := (HB.out.cell (World.block_lt_of_cell? w _ hx106_0)).trans hx106_0
        replace p106 := eq_true p106
        replace q106 := eq_true q106
        have p9 : 0 ≤ (x4_1 : Int) := of_decide_eq_true z1_9
        have q9 : (x4_1 : Int) < ((x3_1.length : Int) : Int) := of_decide_eq_true z1_9
        obtain ⟨go9, co9, eo9, gb9, gl9, cl9, HG9⟩ := Kd.R_form HO_3.out (by omega)
        (first | cases eo9 | (injection eo9 with ea_ en_ ec_; (first | subst ea_ | (injection ea_ with ea_; subst ea_)); subst ec_; clear en_))
        have GB9 := z1_A gb9
        have GG9 := z1_A HG9
        clear gb9 gl9 HG9
        obtain ⟨hx9_0, hf9_0⟩ := Kd.R_celln 0 HO_3.out (x4_1 : Int) p9 q9
        replace p9 := eq_true p9
        replace q9 := eq_true q9
        have HP10 := Kd.R_putg HO_3.out (x4_1 : Int) (rd l0 x4_1)
        go_wp2_with (first | ((with_reducible refine gate_store (t := 3) (p := 20) rfl ?_); refine store_event (t := 3) (p := 20) (v := ?vo_w11) (w1 := (wr.setCell ⟨go9, (x4_1 : Int).toNat, none⟩ (.int .i64 (rd l0 x4_1)))) ?hg ?ho ?hn ?hr ?_; (case ho => rfl); (case hg => rfl); (case hn => rfl); (case hr => first | (go_simp; done) | (go_simp; rfl)); intro w11 hw; have hg : wr.grownBy w11 (some go9) := (by rw [hw]; exact HP10.2); have hp_ : Kd.R (Kd.int .i64) 3 w11 w.heap.size (fun _ => True) (.slice (some ⟨go9, 0, none⟩) x3_1.length co9) y107 := (by rw [hw, Ny107.out]; exact HP10.1); clear HP10; have n0_ := z1_A (hp_); have n1_ := z1_A ((by rw [hw]; exact below_set (HB.out) GB9.out : Below w.heap.size w w11)); clear HO_3 HB; revert n0_ n1_; intro HO_3 HB; clear hg hw hp_))
        go_roundg k1
        case measure => have := HK1.out; omega
        case rel => exact ⟨(y107), (wrap64 (x4_1 + 1)), z1_11, H', ⟨z1_33⟩, ⟨z1_16⟩, ⟨z1_1⟩⟩
       ·rw [if_neg c8] at H
        exact absurd H (by simp)
      ·rw [if_neg c7] at H
       exact absurd H (by simp)
     ·rw [if_neg c6] at H
      have c6b0 : decide (x4_1 < (l0.length : Int)) = false := decide_eq_false c6
      clear c6
      obtain rfl := Option.some.inj H
      go_wp2
      go_ret
      exact ⟨_, z1_6, z1_16, z1_1⟩
  ·rw [if_neg c3] at H
   exact absurd H (by simp)
 ·rw [if_neg c2] at H
  exact absurd H (by simp)

/-! ### laws_toProcess: function 16 -/
def laws_toProcess.f (k : Nat) (a0_0 : Int) (l0_1 : List Int) (a0_2 : Int) (a0_3 : Int) (a0_4 : Int) (a0_5 : Int) : Option (Int × List Int × Int × Int × Int × Int) := (laws_toIntS.f k l0_1).bind fun t111 => (some (a0_0, t111, a0_2, a0_3, a0_4, a0_5))
theorem laws_toProcess.mono : ∀ a0 a1 a2 a3 a4 a5 k, LeO (laws_toProcess.f k a0 a1 a2 a3 a4 a5) (laws_toProcess.f (k + 1) a0 a1 a2 a3 a4 a5) := by
 intro a0 a1 a2 a3 a4 a5 k
 unfold laws_toProcess.f
 repeat' first
   | (with_reducible exact laws_toIntS.mono _ _)
   | (with_reducible exact LeO.refl _)
   | (with_reducible exact LeO.none _)
   | (with_reducible refine LeO.ite ?_ ?_)
   | (with_reducible refine LeO.bind ?_ (fun _ => ?_))
   | exact laws_toIntS.mono _ _
   | exact LeO.none _
   | refine LeO.ite ?_ ?_
   | refine LeO.bind ?_ (fun _ => ?_)
set_option maxHeartbeats 8000000 in
set_option maxRecDepth 100000 in
theorem laws_toProcess.calls (k : Nat) (a0_0 : Int) (A0_1 : Option Addr) (c0_1 : Nat) (l0_1 : List Int) (a0_2 : Int) (a0_3 : Int) (a0_4 : Int) (a0_5 : Int) (r1 : Int) (r2 : List Int) (r3 : Int) (r4 : Int) (r5 : Int) (r6 : Int) (w : World) (hr0_1 : Kd.C (Kd.int .i64) w A0_1 l0_1.length l0_1) (hc0_1 : l0_1.length ≤ c0_1) (h : laws_toProcess.f k a0_0 l0_1 a0_2 a0_3 a0_4 a0_5 = some (r1, r2, r3, r4, r5, r6)) :
  Calls Try.prog 16 #[.agg #[.int .i64 a0_0, .slice A0_1 l0_1.length c0_1, .int .i64 a0_2, .int .i64 a0_3, .int .i64 a0_4, .int .i64 a0_5]] w fun e w' => ∃ v1_ : Value, e = .returned (.agg #[.int .i64 r1, v1_, .int .i64 r3, .int .i64 r4, .int .i64 r5, .int .i64 r6]) ∧ Kd.R (Kd.int .i64) 3 w' w.heap.size (fun _ => True) v1_ r2 ∧ Below w.heap.size w w' := by
 have hu24 := Try.underlying24
 have hu30 := Try.underlying30
 have HR0_1 := z1_A hr0_1
 have HC0_1 := z1_A hc0_1
 clear hr0_1 hc0_1
 have HB := z1_A (Below.refl w.heap.size w)
 have H : ((laws_toIntS.f k l0_1).bind fun t111 => (some (a0_0, t111, a0_2, a0_3, a0_4, a0_5))) = some (r1, r2, r3, r4, r5, r6) := h
 clear h
 replace H := Option.bind_eq_some_iff.mp H
 obtain ⟨t111, A20, H⟩ := H
 (try dsimp only at H)
 have A2 := z1_A A20
 clear A20
 simp only [Option.some.injEq, Prod.mk.injEq] at H
 obtain ⟨rfl, rfl, rfl, rfl, rfl, rfl⟩ := H
 go_enter Try.func16, Try.ntmps16
 go_wp2_with (first | ((with_reducible refine gate_dst (N := 1) rfl ?_); refine box_event ?hg (N := 1) ?hd (cs := #[.int .i64 a0_0, .slice A0_1 l0_1.length c0_1, .int .i64 a0_2, .int .i64 a0_3, .int .i64 a0_4, .int .i64 a0_5]) (t := 24) ?hr ?_; (case hd => rfl); (case hg => rfl); (case hr => first | (go_simp; done) | (go_simp; rfl)); intro gb108 hg w3 hbox hb; have n0_ := z1_A (below_step z1_1 hb); have n1_ := z1_A (hbox); have n2_ := z1_A ((z1_14 : w.heap.size ≤ gb108)); have n3_ := z1_A ((z1_14 : w.heap.size ≤ gb108)); clear HB; revert n0_ n1_ n2_ n3_; intro HB BK108 GW108 GE108; clear hb hbox hg) | ((with_reducible refine gate_dst (N := 2) rfl ?_); refine box_event ?hg (N := 2) ?hd (cs := #[.int .i64 0, .slice none 0 0, .int .i64 0, .int .i64 0, .int .i64 0, .int .i64 0]) (t := 30) ?hr ?_; (case hd => rfl); (case hg => rfl); (case hr => first | (go_simp; done) | (go_simp; rfl)); intro gb109 hg w4 hbox hb; have n0_ := z1_A (blk_below (g := gb108) (o := .cells #[.int .i64 a0_0, .slice A0_1 l0_1.length c0_1, .int .i64 a0_2, .int .i64 a0_3, .int .i64 a0_4, .int .i64 a0_5] 24 (0, 0)) z1_15 hb); have n1_ := z1_A (below_step z1_23 hb); have n2_ := z1_A (hbox); have n3_ := z1_A ((by rw [hg]; exact (below_size z1_23) : w.heap.size ≤ gb109)); have n4_ := z1_A ((by rw [hg]; exact (below_size z1_23) : w.heap.size ≤ gb109)); have n5_ := z1_A ((z1_27 : gb108 ≠ gb109)); have n6_ := z1_A ((z1_28 : gb109 ≠ gb108)); clear BK108 HB; revert n0_ n1_ n2_ n3_ n4_ n5_ n6_; intro BK108 HB BK109 GW109 GE109 NB108_109 NB109_108; clear hb hbox hg) | ((with_reducible refine gate_dst (N := 3) rfl ?_); refine box_event ?hg (N := 3) ?hd (cs := #[.int .i64 0, .slice none 0 0, .int .i64 0, .int .i64 0, .int .i64 0, .int .i64 0]) (t := 30) ?hr ?_; (case hd => rfl); (case hg => rfl); (case hr => first | (go_simp; done) | (go_simp; rfl)); intro gb110 hg w5 hbox hb; have n0_ := z1_A (blk_below (g := gb108) (o := .cells #[.int .i64 a0_0, .slice A0_1 l0_1.length c0_1, .int .i64 a0_2, .int .i64 a0_3, .int .i64 a0_4, .int .i64 a0_5] 24 (0, 0)) z1_15 hb); have n1_ := z1_A (blk_below (g := gb109) (o := .cells #[.int .i64 0, .slice none 0 0, .int .i64 0, .int .i64 0, .int .i64 0, .int .i64 0] 30 (0, 0)) z1_26 hb); have n2_ := z1_A (below_step z1_20 hb); have n3_ := z1_A (hbox); have n4_ := z1_A ((by rw [hg]; exact (below_size z1_20) : w.heap.size ≤ gb110)); have n5_ := z1_A ((by rw [hg]; exact (below_size z1_20) : w.heap.size ≤ gb110)); have n6_ := z1_A ((z1_27 : gb108 ≠ gb110)); have n7_ := z1_A ((z1_28 : gb110 ≠ gb108)); have n8_ := z1_A ((by rw [hg]; exact Nat.ne_of_lt (blk_lt (g := gb109) (o := .cells #[.int .i64 0, .slice none 0 0, .int .i64 0, .int .i64 0, .int .i64 0, .int .i64 0] 30 (0, 0)) z1_26) : gb109 ≠ gb110)); have n9_ := z1_A ((by rw [hg]; exact Nat.ne_of_gt (blk_lt (g := gb109) (o := .cells #[.int .i64 0, .slice none 0 0, .int .i64 0, .int .i64 0, .int .i64 0, .int .i64 0] 30 (0, 0)) z1_26) : gb110 ≠ gb109)); clear BK108 BK109 HB; revert n0_ n1_ n2_ n3_ n4_ n5_ n6_ n7_ n8_ n9_; intro BK108 BK109 HB BK110 GW110 GE110 NB108_110 NB110_108 NB109_110 NB110_109; clear hb hbox hg; have hnb6 := NB108_109.out; have hnc6 := NB109_108.out; have hnb7 := NB108_110.out; have hnc7 := NB110_108.out; have hcz8_0 : w5.cell? ⟨gb108, 0, none⟩ = some (.int .i64 a0_0) := bcz BK108.out 0 rfl; have hcz8_1 : w5.cell? ⟨gb108, 1, none⟩ = some (.slice A0_1 l0_1.length c0_1) := bcz BK108.out 1 rfl; have hcz8_2 : w5.cell? ⟨gb108, 2, none⟩ = some (.int .i64 a0_2) := bcz BK108.out 2 rfl; have hcz8_3 : w5.cell? ⟨gb108, 3, none⟩ = some (.int .i64 a0_3) := bcz BK108.out 3 rfl; have hcz8_4 : w5.cell? ⟨gb108, 4, none⟩ = some (.int .i64 a0_4) := bcz BK108.out 4 rfl; have hcz8_5 : w5.cell? ⟨gb108, 5, none⟩ = some (.int .i64 a0_5) := bcz BK108.out 5 rfl; obtain ⟨hfz8_0, hfz8_1, hfz8_2, hfz8_3⟩ := F4z (blk_frozen BK108.out); have hfz8_4 := blk_frozen BK108.out 4; have hfz8_5 := blk_frozen BK108.out 5; have hnb9 := NB110_109.out; have hnc9 := NB109_110.out; have hcz10_0 : w5.cell? ⟨gb110, 0, none⟩ = some (.int .i64 0) := bcz BK110.out 0 rfl; have hcz10_1 : w5.cell? ⟨gb110, 1, none⟩ = some (.slice none 0 0) := bcz BK110.out 1 rfl; have hcz10_2 : w5.cell? ⟨gb110, 2, none⟩ = some (.int .i64 0) := bcz BK110.out 2 rfl; have hcz10_3 : w5.cell? ⟨gb110, 3, none⟩ = some (.int .i64 0) := bcz BK110.out 3 rfl; have hcz10_4 : w5.cell? ⟨gb110, 4, none⟩ = some (.int .i64 0) := bcz BK110.out 4 rfl; have hcz10_5 : w5.cell? ⟨gb110, 5, none⟩ = some (.int .i64 0) := bcz BK110.out 5 rfl; obtain ⟨hfz10_0, hfz10_1, hfz10_2, hfz10_3⟩ := F4z (blk_frozen BK110.out); have hfz10_4 := blk_frozen BK110.out 4; have hfz10_5 := blk_frozen BK110.out 5) | ((with_reducible refine gate_callee (f := 35) rfl ?_); refine goesL_ (some 9) rfl rfl Try.func35 z1_30 rfl #[.slice A0_1 l0_1.length c0_1] rfl z1_4 ?_; (with_reducible refine (laws_toIntS.calls k _ _ l0_1 t111 _ ?side1 ?side2 A2.out).mono ?_); (case side1 => exact Kd.C_below HR0_1.out z1_13); (case side2 => exact HC0_1.out); rintro e w11 ⟨v112, rfl, ho0, hb⟩; refine ⟨_, rfl, ?_⟩; have n0_ := z1_A (Kd.R_lower ho0 (below_size z1_13)); have n1_ := z1_A (blk_below (g := gb108) (o := .cells #[.int .i64 a0_0, .slice A0_1 l0_1.length c0_1, .int .i64 a0_2, .int .i64 a0_3, .int .i64 a0_4, .int .i64 a0_5] 24 (0, 0)) (by (with_reducible repeat (first | refine blk_drewN ?_ _ | refine blk_drew ?_ | refine blk_alloc ?_ _)); refine blk_far ?_ NB108_110.out _; (with_reducible repeat (first | refine blk_drewN ?_ _ | refine blk_drew ?_ | refine blk_alloc ?_ _)); exact BK108.out) hb); have n2_ := z1_A (blk_below (g := gb109) (o := .cells #[.int .i64 0, .slice none 0 0, .int .i64 0, .int .i64 0, .int .i64 0, .int .i64 0] 30 (0, 0)) (by (with_reducible repeat (first | refine blk_drewN ?_ _ | refine blk_drew ?_ | refine blk_alloc ?_ _)); refine blk_far ?_ NB109_110.out _; (with_reducible repeat (first | refine blk_drewN ?_ _ | refine blk_drew ?_ | refine blk_alloc ?_ _)); exact BK109.out) hb); have n3_ := z1_A (blk_below (g := gb110) (o := .cells #[.int .i64 a0_0, .slice none 0 0, .int .i64 0, .int .i64 0, .int .i64 0, .int .i64 0] 30 (0, 0)) (by (with_reducible repeat (first | refine blk_drewN ?_ _ | refine blk_drew ?_ | refine blk_alloc ?_ _)); refine blk_put (cs := #[.int .i64 0, .slice none 0 0, .int .i64 0, .int .i64 0, .int .i64 0, .int .i64 0]) ?_ 0 _ rfl; (with_reducible repeat (first | refine blk_drewN ?_ _ | refine blk_drew ?_ | refine blk_alloc ?_ _)); exact BK110.out) hb); have n4_ := z1_A (below_step z1_13 hb); clear BK108 BK109 BK110 HB; revert n0_ n1_ n2_ n3_ n4_; intro HO113 BK108 BK109 BK110 HB; (try clear hb); (try clear hb2); (try clear hk); (try clear hi); (try clear ho0); obtain ⟨Ao12, co12, eo12⟩ := Kd.R_slice HO113.out; subst eo12; have hcz13_0 : w11.cell? ⟨gb110, 0, none⟩ = some (.int .i64 a0_0) := bcz BK110.out 0 rfl; have hcz13_1 : w11.cell? ⟨gb110, 1, none⟩ = some (.slice none 0 0) := bcz BK110.out 1 rfl; have hcz13_2 : w11.cell? ⟨gb110, 2, none⟩ = some (.int .i64 0) := bcz BK110.out 2 rfl; have hcz13_3 : w11.cell? ⟨gb110, 3, none⟩ = some (.int .i64 0) := bcz BK110.out 3 rfl; have hcz13_4 : w11.cell? ⟨gb110, 4, none⟩ = some (.int .i64 0) := bcz BK110.out 4 rfl; have hcz13_5 : w11.cell? ⟨gb110, 5, none⟩ = some (.int .i64 0) := bcz BK110.out 5 rfl; obtain ⟨hfz13_0, hfz13_1, hfz13_2, hfz13_3⟩ := F4z (blk_frozen BK110.out); have hfz13_4 := blk_frozen BK110.out 4; have hfz13_5 := blk_frozen BK110.out 5; have hcz14_0 : w11.cell? ⟨gb108, 0, none⟩ = some (.int .i64 a0_0) := bcz BK108.out 0 rfl; have hcz14_1 : w11.cell? ⟨gb108, 1, none⟩ = some (.slice A0_1 l0_1.length c0_1) := bcz BK108.out 1 rfl; have hcz14_2 : w11.cell? ⟨gb108, 2, none⟩ = some (.int .i64 a0_2) := bcz BK108.out 2 rfl; have hcz14_3 : w11.cell? ⟨gb108, 3, none⟩ = some (.int .i64 a0_3) := bcz BK108.out 3 rfl; have hcz14_4 : w11.cell? ⟨gb108, 4, none⟩ = some (.int .i64 a0_4) := bcz BK108.out 4 rfl; have hcz14_5 : w11.cell? ⟨gb108, 5, none⟩ = some (.int .i64 a0_5) := bcz BK108.out 5 rfl; obtain ⟨hfz14_0, hfz14_1, hfz14_2, hfz14_3⟩ := F4z (blk_frozen BK108.out); have hfz14_4 := blk_frozen BK108.out 4; have hfz14_5 := blk_frozen BK108.out 5; have hcz15_0 : w11.cell? ⟨gb109, 0, none⟩ = some (.int .i64 0) := bcz BK109.out 0 rfl; have hcz15_1 : w11.cell? ⟨gb109, 1, none⟩ = some (.slice none 0 0) := bcz BK109.out 1 rfl; have hcz15_2 : w11.cell? ⟨gb109, 2, none⟩ = some (.int .i64 0) := bcz BK109.out 2 rfl; have hcz15_3 : w11.cell? ⟨gb109, 3, none⟩ = some (.int .i64 0) := bcz BK109.out 3 rfl; have hcz15_4 : w11.cell? ⟨gb109, 4, none⟩ = some (.int .i64 0) := bcz BK109.out 4 rfl; have hcz15_5 : w11.cell? ⟨gb109, 5, none⟩ = some (.int .i64 0) := bcz BK109.out 5 rfl; obtain ⟨hfz15_0, hfz15_1, hfz15_2, hfz15_3⟩ := F4z (blk_frozen BK109.out); have hfz15_4 := blk_frozen BK109.out 4; have hfz15_5 := blk_frozen BK109.out 5))
 refine bodyPost_ret (results_cell_row rfl _ _ gb109 30 #[.int .i64 a0_0, .slice Ao12 t111.length co12, .int .i64 a0_2, .int .i64 a0_3, .int .i64 a0_4, .int .i64 a0_5] (0, 0) _ rfl (by (with_reducible repeat (first | refine blk_drewN ?_ _ | refine blk_drew ?_ | refine blk_alloc ?_ _)); refine blk_put (cs := #[.int .i64 a0_0, .slice Ao12 t111.length co12, .int .i64 a0_2, .int .i64 a0_3, .int .i64 a0_4, .int .i64 0]) ?_ 5 _ rfl; (with_reducible repeat (first | refine blk_drewN ?_ _ | refine blk_drew ?_ | refine blk_alloc ?_ _)); refine blk_put (cs := #[.int .i64 a0_0, .slice Ao12 t111.length co12, .int .i64 a0_2, .int .i64 a0_3, .int .i64 0, .int .i64 0]) ?_ 4 _ rfl; (with_reducible repeat (first | refine blk_drewN ?_ _ | refine blk_drew ?_ | refine blk_alloc ?_ _)); refine blk_put (cs := #[.int .i64 a0_0, .slice Ao12 t111.length co12, .int .i64 a0_2, .int .i64 0, .int .i64 0, .int .i64 0]) ?_ 3 _ rfl; (with_reducible repeat (first | refine blk_drewN ?_ _ | refine blk_drew ?_ | refine blk_alloc ?_ _)); refine blk_put (cs := #[.int .i64 a0_0, .slice Ao12 t111.length co12, .int .i64 0, .int .i64 0, .int .i64 0, .int .i64 0]) ?_ 2 _ rfl; (with_reducible repeat (first | refine blk_drewN ?_ _ | refine blk_drew ?_ | refine blk_alloc ?_ _)); refine blk_put (cs := #[.int .i64 a0_0, .slice none 0 0, .int .i64 0, .int .i64 0, .int .i64 0, .int .i64 0]) ?_ 1 _ rfl; (with_reducible repeat (first | refine blk_drewN ?_ _ | refine blk_drew ?_ | refine blk_alloc ?_ _)); refine blk_put (cs := #[.int .i64 0, .slice none 0 0, .int .i64 0, .int .i64 0, .int .i64 0, .int .i64 0]) ?_ 0 _ rfl; (with_reducible repeat (first | refine blk_drewN ?_ _ | refine blk_drew ?_ | refine blk_alloc ?_ _)); refine blk_far ?_ NB109_110.out _; (with_reducible repeat (first | refine blk_drewN ?_ _ | refine blk_drew ?_ | refine blk_alloc ?_ _)); refine blk_far ?_ NB109_110.out _; (with_reducible repeat (first | refine blk_drewN ?_ _ | refine blk_drew ?_ | refine blk_alloc ?_ _)); refine blk_far ?_ NB109_110.out _; (with_reducible repeat (first | refine blk_drewN ?_ _ | refine blk_drew ?_ | refine blk_alloc ?_ _)); refine blk_far ?_ NB109_110.out _; (with_reducible repeat (first | refine blk_drewN ?_ _ | refine blk_drew ?_ | refine blk_alloc ?_ _)); refine blk_far ?_ NB109_110.out _; (with_reducible repeat (first | refine blk_drewN ?_ _ | refine blk_drew ?_ | refine blk_alloc ?_ _)); exact BK109.out) Try.underlying30 rfl z1_30) rfl ?_
 exact ⟨_, z1_6, by (with_reducible repeat (first | apply Kd.R_alloc | apply Kd.R_drewN | apply Kd.R_drew)); exact Kd.R_mono (Kd.R_far (p := ⟨gb109, 5, none⟩) (Kd.R_far (p := ⟨gb109, 4, none⟩) (Kd.R_far (p := ⟨gb109, 3, none⟩) (Kd.R_far (p := ⟨gb109, 2, none⟩) (Kd.R_far (p := ⟨gb109, 1, none⟩) (Kd.R_far (p := ⟨gb109, 0, none⟩) (Kd.R_far (p := ⟨gb110, 5, none⟩) (Kd.R_far (p := ⟨gb110, 4, none⟩) (Kd.R_far (p := ⟨gb110, 3, none⟩) (Kd.R_far (p := ⟨gb110, 2, none⟩) (Kd.R_far (p := ⟨gb110, 1, none⟩) (Kd.R_types (Kd.R_types HO113.out BK110.out (by decide)) BK109.out (by decide)) (fun _ hk => hk.1.2) (.slice Ao12 t111.length co12)) (fun _ hk => hk.1.2) (.int .i64 a0_2)) (fun _ hk => hk.1.2) (.int .i64 a0_3)) (fun _ hk => hk.1.2) (.int .i64 a0_4)) (fun _ hk => hk.1.2) (.int .i64 a0_5)) (fun _ hk => hk.2) (.int .i64 a0_0)) (fun _ hk => hk.2) (.slice Ao12 t111.length co12)) (fun _ hk => hk.2) (.int .i64 a0_2)) (fun _ hk => hk.2) (.int .i64 a0_3)) (fun _ hk => hk.2) (.int .i64 a0_4)) (fun _ hk => hk.2) (.int .i64 a0_5)) (fun _ hk => trivial), z1_13⟩

/-! ### laws_toIntA2: function 70 -/
def laws_toIntA2.l0 : Nat → Int → Int → Int → Int → Int → Option (Int × Int)
 | 0, _, _, _, _, _ => none
 | k + 1, x4, x115000, x115001, x117000, x117001 => if x4 < 2 then (if x4 = 0 then (laws_toIntA2.l0 k (wrap64 (x4 + 1)) x115000 x115001 x115000 x117001) else (if x4 = 1 then (laws_toIntA2.l0 k (wrap64 (x4 + 1)) x115000 x115001 x117000 x115001) else (none))) else (some (x117000, x117001))
def laws_toIntA2.f (k : Nat) (a0_0 : Int) (a0_1 : Int) : Option (Int × Int) := laws_toIntA2.l0 k 0 a0_0 a0_1 0 0
theorem laws_toIntA2.mono_l : ∀ k, (∀ y0 y1 y2 y3 y4, LeO (laws_toIntA2.l0 k y0 y1 y2 y3 y4) (laws_toIntA2.l0 (k + 1) y0 y1 y2 y3 y4))
 | 0 => fun _ _ _ _ _ r h => by simp [laws_toIntA2.l0] at h
 | k + 1 => by
  have ih0 := laws_toIntA2.mono_l k
  ·intro y0 y1 y2 y3 y4
   unfold laws_toIntA2.l0
   repeat' first
   | (with_reducible exact ih0 _ _ _ _ _)
   | (with_reducible exact LeO.refl _)
   | (with_reducible exact LeO.none _)
   | (with_reducible refine LeO.ite ?_ ?_)
   | (with_reducible refine LeO.bind ?_ (fun _ => ?_))
   | exact ih0 _ _ _ _ _
   | exact LeO.none _
   | refine LeO.ite ?_ ?_
   | refine LeO.bind ?_ (fun _ => ?_)
theorem laws_toIntA2.mono : ∀ a0 a1 k, LeO (laws_toIntA2.f k a0 a1) (laws_toIntA2.f (k + 1) a0 a1) := by
 intro a0 a1 k
 have ih0 := laws_toIntA2.mono_l k
 unfold laws_toIntA2.f
 repeat' first
   | (with_reducible exact ih0 _ _ _ _ _)
   | (with_reducible exact LeO.refl _)
   | (with_reducible exact LeO.none _)
   | (with_reducible refine LeO.ite ?_ ?_)
   | (with_reducible refine LeO.bind ?_ (fun _ => ?_))
   | exact ih0 _ _ _ _ _
   | exact LeO.none _
   | refine LeO.ite ?_ ?_
   | refine LeO.bind ?_ (fun _ => ?_)
set_option maxHeartbeats 8000000 in
set_option maxRecDepth 100000 in
theorem laws_toIntA2.calls (k : Nat) (a0_0 : Int) (a0_1 : Int) (r1 : Int) (r2 : Int) (w : World) (h : laws_toIntA2.f k a0_0 a0_1 = some (r1, r2)) :
  Calls Try.prog 70 #[.agg #[.int .i64 a0_0, .int .i64 a0_1]] w fun e w' => e = .returned (.agg #[.int .i64 r1, .int .i64 r2]) ∧ Below w.heap.size w w' := by
 have hu72 := Try.underlying72
 have HB := z1_A (Below.refl w.heap.size w)
 have H : (laws_toIntA2.l0 k 0 a0_0 a0_1 0 0) = some (r1, r2) := h
 clear h
 have H' := z1_A H
 clear H
 go_enter Try.func70, Try.ntmps70
 go_wp2_with (first | ((with_reducible refine gate_dst (N := 1) rfl ?_); refine box_event ?hg (N := 1) ?hd (cs := #[.int .i64 a0_0, .int .i64 a0_1]) (t := 72) ?hr ?_; (case hd => rfl); (case hg => rfl); (case hr => first | (go_simp; done) | (go_simp; rfl)); intro gb114 hg w2 hbox hb; have n0_ := z1_A (below_step z1_1 hb); have n1_ := z1_A (hbox); have n2_ := z1_A ((z1_14 : w.heap.size ≤ gb114)); have n3_ := z1_A ((z1_14 : w.heap.size ≤ gb114)); clear HB; revert n0_ n1_ n2_ n3_; intro HB BK114 GW114 GE114; clear hb hbox hg) | ((with_reducible refine gate_dst (N := 2) rfl ?_); refine box_event ?hg (N := 2) ?hd (cs := #[.int .i64 0, .int .i64 0]) (t := 72) ?hr ?_; (case hd => rfl); (case hg => rfl); (case hr => first | (go_simp; done) | (go_simp; rfl)); intro gb115 hg w3 hbox hb; have n0_ := z1_A (blk_below (g := gb114) (o := .cells #[.int .i64 a0_0, .int .i64 a0_1] 72 (0, 0)) z1_10 hb); have n1_ := z1_A (below_step z1_22 hb); have n2_ := z1_A (hbox); have n3_ := z1_A ((by rw [hg]; exact (below_size z1_22) : w.heap.size ≤ gb115)); have n4_ := z1_A ((by rw [hg]; exact (below_size z1_22) : w.heap.size ≤ gb115)); have n5_ := z1_A ((z1_31 : gb114 ≠ gb115)); have n6_ := z1_A ((z1_32 : gb115 ≠ gb114)); clear BK114 HB; revert n0_ n1_ n2_ n3_ n4_ n5_ n6_; intro BK114 HB BK115 GW115 GE115 NB114_115 NB115_114; clear hb hbox hg) | ((with_reducible refine gate_dst (N := 3) rfl ?_); refine box_event ?hg (N := 3) ?hd (cs := #[.int .i64 0, .int .i64 0]) (t := 72) ?hr ?_; (case hd => rfl); (case hg => rfl); (case hr => first | (go_simp; done) | (go_simp; rfl)); intro gb116 hg w4 hbox hb; have n0_ := z1_A (blk_below (g := gb114) (o := .cells #[.int .i64 a0_0, .int .i64 a0_1] 72 (0, 0)) z1_10 hb); have n1_ := z1_A (blk_below (g := gb115) (o := .cells #[.int .i64 0, .int .i64 0] 72 (0, 0)) z1_21 hb); have n2_ := z1_A (below_step z1_19 hb); have n3_ := z1_A (hbox); have n4_ := z1_A ((by rw [hg]; exact (below_size z1_19) : w.heap.size ≤ gb116)); have n5_ := z1_A ((by rw [hg]; exact (below_size z1_19) : w.heap.size ≤ gb116)); have n6_ := z1_A ((z1_31 : gb114 ≠ gb116)); have n7_ := z1_A ((z1_32 : gb116 ≠ gb114)); have n8_ := z1_A ((by rw [hg]; exact Nat.ne_of_lt (blk_lt (g := gb115) (o := .cells #[.int .i64 0, .int .i64 0] 72 (0, 0)) z1_21) : gb115 ≠ gb116)); have n9_ := z1_A ((by rw [hg]; exact Nat.ne_of_gt (blk_lt (g := gb115) (o := .cells #[.int .i64 0, .int .i64 0] 72 (0, 0)) z1_21) : gb116 ≠ gb115)); clear BK114 BK115 HB; revert n0_ n1_ n2_ n3_ n4_ n5_ n6_ n7_ n8_ n9_; intro BK114 BK115 HB BK116 GW116 GE116 NB114_116 NB116_114 NB115_116 NB116_115; clear hb hbox hg))
 go_loopg [4] k (fun kq v4 w' => ∃ (x4_1 : Int) (x117000_1 : Int) (x117001_1 : Int), v4 = .int .i64 x4_1 ∧ Aside0 (laws_toIntA2.l0 kq x4_1 a0_0 a0_1 x117000_1 x117001_1 = some (r1, r2)) ∧ Aside0 (kq ≤ k) ∧ Aside0 (w'.heap[gb114]? = some (.cells #[.int .i64 a0_0, .int .i64 a0_1] 72 (0, 0))) ∧ Aside0 (w'.heap[gb115]? = some (.cells #[.int .i64 0, .int .i64 0] 72 (0, 0))) ∧ Aside0 (w'.heap[gb116]? = some (.cells #[.int .i64 x117000_1, .int .i64 x117001_1] 72 (0, 0))) ∧ Aside0 (Below w.heap.size w w'))
 case atStart => exact ⟨(0), (0), (0), z1_11, H', ⟨Nat.le_refl _⟩, ⟨z1_10⟩, ⟨z1_21⟩, ⟨by (with_reducible repeat (first | refine blk_drewN ?_ _ | refine blk_drew ?_ | refine blk_alloc ?_ _)); exact BK116.out⟩, ⟨z1_12⟩⟩
 case round =>
  clear H'
  try clear p2
  obtain ⟨x4_1, x117000_1, x117001_1, rfl, HA, HK1, BK114, BK115, BK116, HB⟩ := hrel
  cases gk with
  | zero => exact absurd HA.out (by simp [laws_toIntA2.l0])
  | succ k1 =>
   have H := HA.out
   clear HA
   simp only [laws_toIntA2.l0] at H
   by_cases c5 : x4_1 < 2
   ·rw [if_pos c5] at H
    have c5b0 : decide (x4_1 < 2) = true := decide_eq_true c5
    clear c5
    by_cases c6 : x4_1 = 0
    ·subst c6
     have H1 : (laws_toIntA2.l0 k1 1 a0_0 a0_1 a0_0 x117001_1) = some (r1, r2) := by rw [if_pos rfl] at H; (try rw [show wrap64 (0 + 1) = 1 from by unfold wrap64; omega] at H); exact H
     clear H
     have H := H1
     clear H1
     have H' := z1_A H
     clear H
     have hnb7 := NB114_115.out
     have hnc7 := NB115_114.out
     have hnb8 := NB114_116.out
     have hnc8 := NB116_114.out
     have hcz9_0 : wr.cell? ⟨gb114, 0, none⟩ = some (.int .i64 a0_0) := bcz BK114.out 0 rfl
     have hcz9_1 : wr.cell? ⟨gb114, 1, none⟩ = some (.int .i64 a0_1) := bcz BK114.out 1 rfl
     obtain ⟨hfz9_0, hfz9_1⟩ := F2z (blk_frozen BK114.out)
     have hnb10 := NB116_115.out
     have hnc10 := NB115_116.out
     have hcz11_0 : wr.cell? ⟨gb116, 0, none⟩ = some (.int .i64 x117000_1) := bcz BK116.out 0 rfl
     have hcz11_1 : wr.cell? ⟨gb116, 1, none⟩ = some (.int .i64 x117001_1) := bcz BK116.out 1 rfl
     obtain ⟨hfz11_0, hfz11_1⟩ := F2z (blk_frozen BK116.out)
     go_wp2
     go_roundg k1
     case measure => have := HK1.out; omega
     case rel => exact ⟨(1), (a0_0), (x117001_1), z1_11, H', ⟨z1_33⟩, ⟨z1_25⟩, ⟨z1_24⟩, ⟨by (with_reducible repeat (first | refine blk_drewN ?_ _ | refine blk_drew ?_ | refine blk_alloc ?_ _)); refine blk_put (cs := #[.int .i64 x117000_1, .int .i64 x117001_1]) ?_ 0 _ rfl; (with_reducible repeat (first | refine blk_drewN ?_ _ | refine blk_drew ?_ | refine blk_alloc ?_ _)); exact BK116.out⟩, ⟨z1_12⟩⟩
    ·rw [if_neg c6] at H
     by_cases c12 : x4_1 = 1
     ·subst c12
      have H1 : (laws_toIntA2.l0 k1 2 a0_0 a0_1 x117000_1 a0_1) = some (r1, r2) := by rw [if_pos rfl] at H; (try rw [show wrap64 (1 + 1) = 2 from by unfold wrap64; omega] at H); exact H
      clear H
      have H := H1
      clear H1
      have H' := z1_A H
      clear H
      have hnb13 := NB114_115.out
      have hnc13 := NB115_114.out
      have hnb14 := NB114_116.out
      have hnc14 := NB116_114.out
      have hcz15_0 : wr.cell? ⟨gb114, 0, none⟩ = some (.int .i64 a0_0) := bcz BK114.out 0 rfl
      have hcz15_1 : wr.cell? ⟨gb114, 1, none⟩ = some (.int .i64 a0_1) := bcz BK114.out 1 rfl
      obtain ⟨hfz15_0, hfz15_1⟩ := F2z (blk_frozen BK114.out)
      have hnb16 := NB116_115.out
      have hnc16 := NB115_116.out
      have hcz17_0 : wr.cell? ⟨gb116, 0, none⟩ = some (.int .i64 x117000_1) := bcz BK116.out 0 rfl
      have hcz17_1 : wr.cell? ⟨gb116, 1, none⟩ = some (.int .i64 x117001_1) := bcz BK116.out 1 rfl
      obtain ⟨hfz17_0, hfz17_1⟩ := F2z (blk_frozen BK116.out)
      go_wp2
      go_roundg k1
      case measure => have := HK1.out; omega
      case rel => exact ⟨(2), (x117000_1), (a0_1), z1_11, H', ⟨z1_33⟩, ⟨z1_25⟩, ⟨z1_24⟩, ⟨by (with_reducible repeat (first | refine blk_drewN ?_ _ | refine blk_drew ?_ | refine blk_alloc ?_ _)); refine blk_put (cs := #[.int .i64 x117000_1, .int .i64 x117001_1]) ?_ 1 _ rfl; (with_reducible repeat (first | refine blk_drewN ?_ _ | refine blk_drew ?_ | refine blk_alloc ?_ _)); exact BK116.out⟩, ⟨z1_12⟩⟩
     ·rw [if_neg c12] at H
      exact absurd H (by simp)
   ·rw [if_neg c5] at H
    have c5b0 : decide (x4_1 < 2) = false := decide_eq_false c5
    clear c5
    simp only [Option.some.injEq, Prod.mk.injEq] at H
    obtain ⟨rfl, rfl⟩ := H
    have hnb18 := NB116_114.out
    have hnc18 := NB114_116.out
    have hnb19 := NB116_115.out
    have hnc19 := NB115_116.out
    have hcz20_0 : wr.cell? ⟨gb116, 0, none⟩ = some (.int .i64 x117000_1) := bcz BK116.out 0 rfl
    have hcz20_1 : wr.cell? ⟨gb116, 1, none⟩ = some (.int .i64 x117001_1) := bcz BK116.out 1 rfl
    obtain ⟨hfz20_0, hfz20_1⟩ := F2z (blk_frozen BK116.out)
    have hnb21 := NB115_114.out
    have hnc21 := NB114_115.out
    have hcz22_0 : wr.cell? ⟨gb115, 0, none⟩ = some (.int .i64 0) := bcz BK115.out 0 rfl
    have hcz22_1 : wr.cell? ⟨gb115, 1, none⟩ = some (.int .i64 0) := bcz BK115.out 1 rfl
    obtain ⟨hfz22_0, hfz22_1⟩ := F2z (blk_frozen BK115.out)
    go_wp2
    refine bodyPost_ret (results_cell_row rfl _ _ gb115 72 #[.int .i64 x117000_1, .int .i64 x117001_1] (0, 0) _ rfl (by (with_reducible repeat (first | refine blk_drewN ?_ _ | refine blk_drew ?_ | refine blk_alloc ?_ _)); refine blk_put (cs := #[.int .i64 x117000_1, .int .i64 0]) ?_ 1 _ rfl; (with_reducible repeat (first | refine blk_drewN ?_ _ | refine blk_drew ?_ | refine blk_alloc ?_ _)); refine blk_put (cs := #[.int .i64 0, .int .i64 0]) ?_ 0 _ rfl; (with_reducible repeat (first | refine blk_drewN ?_ _ | refine blk_drew ?_ | refine blk_alloc ?_ _)); exact BK115.out) Try.underlying72 rfl z1_30) rfl ?_
    exact ⟨z1_6, z1_12⟩

/-! ### laws_toIntA2S: function 17 -/
def laws_toIntA2S.l0 : Nat → List (S72) → List (S72) → Int → Option ((List (S72)))
 | 0, _, _, _ => none
 | k + 1, x0, x3, x4 => if x4 < (x0.length : Int) then (if 0 ≤ x4 then ((laws_toIntA2.f k ((rd_T72 x0 x4).f0) ((rd_T72 x0 x4).f1)).bind fun bt121 => (if x4 < (x3.length : Int) then (laws_toIntA2S.l0 k x0 (x3.set (x4 : Int).toNat (⟨bt121.1, bt121.2⟩ : S72)) (wrap64 (x4 + 1))) else (none))) else (none)) else (some x3)
def laws_toIntA2S.f (k : Nat) (l0 : List (S72)) : Option ((List (S72))) := if 0 ≤ (l0.length : Int) then (if ((l0.length : Int) : Int).toNat ≤ 17592186044416 then (laws_toIntA2S.l0 k l0 (List.replicate ((l0.length : Int) : Int).toNat z72) 0) else (none)) else (none)
theorem laws_toIntA2S.mono_l : ∀ k, (∀ y0 y1 y2, LeO (laws_toIntA2S.l0 k y0 y1 y2) (laws_toIntA2S.l0 (k + 1) y0 y1 y2))
 | 0 => fun _ _ _ r h => by simp [laws_toIntA2S.l0] at h
 | k + 1 => by
  have ih0 := laws_toIntA2S.mono_l k
  ·intro y0 y1 y2
   unfold laws_toIntA2S.l0
   repeat' first
   | (with_reducible exact ih0 _ _ _)
   | (with_reducible exact laws_toIntA2.mono _ _ _)
   | (with_reducible exact LeO.refl _)
   | (with_reducible exact LeO.none _)
   | (with_reducible refine LeO.ite ?_ ?_)
   | (with_reducible refine LeO.bind ?_ (fun _ => ?_))
   | exact ih0 _ _ _
   | exact laws_toIntA2.mono _ _ _
   | exact LeO.none _
   | refine LeO.ite ?_ ?_
   | refine LeO.bind ?_ (fun _ => ?_)
theorem laws_toIntA2S.mono : ∀ a0 k, LeO (laws_toIntA2S.f k a0) (laws_toIntA2S.f (k + 1) a0) := by
 intro a0 k
 have ih0 := laws_toIntA2S.mono_l k
 unfold laws_toIntA2S.f
 repeat' first
   | (with_reducible exact ih0 _ _ _)
   | (with_reducible exact laws_toIntA2.mono _ _ _)
   | (with_reducible exact LeO.refl _)
   | (with_reducible exact LeO.none _)
   | (with_reducible refine LeO.ite ?_ ?_)
   | (with_reducible refine LeO.bind ?_ (fun _ => ?_))
   | exact ih0 _ _ _
   | exact laws_toIntA2.mono _ _ _
   | exact LeO.none _
   | refine LeO.ite ?_ ?_
   | refine LeO.bind ?_ (fun _ => ?_)
set_option maxHeartbeats 8000000 in
set_option maxRecDepth 100000 in
theorem laws_toIntA2S.calls (k : Nat) (A0 : Option Addr) (c0 : Nat) (l0 : List (S72)) (r : List (S72)) (w : World) (hr0 : Kd.C k72 w A0 l0.length l0) (hc0 : l0.length ≤ c0) (h : laws_toIntA2S.f k l0 = some r) :
  Calls Try.prog 17 #[.slice A0 l0.length c0] w fun e w' => ∃ v0_ : Value, e = .returned (v0_) ∧ Kd.R k72 72 w' w.heap.size (fun _ => True) v0_ r ∧ Below w.heap.size w w' := by
 have hu72 := Try.underlying72
 have HR0 := z1_A hr0
 have HC0 := z1_A hc0
 clear hr0 hc0
 have HB := z1_A (Below.refl w.heap.size w)
 have H : (if 0 ≤ (l0.length : Int) then (if ((l0.length : Int) : Int).toNat ≤ 17592186044416 then (laws_toIntA2S.l0 k l0 (List.replicate ((l0.length : Int) : Int).toNat z72) 0) else (none)) else (none)) = some r := h
 clear h
 by_cases c2 : 0 ≤ (l0.length : Int)
 ·rw [if_pos c2] at H
  have c2b0 := eq_true c2
  have c2b1 : decide (0 ≤ (l0.length : Int)) = true := decide_eq_true c2
  clear c2
  by_cases c3 : ((l0.length : Int) : Int).toNat ≤ 17592186044416
  ·rw [if_pos c3] at H
   have c3b0 := eq_true c3
   have c3b1 : decide (((l0.length : Int) : Int).toNat ≤ 17592186044416) = true := decide_eq_true c3
   clear c3
   obtain ⟨y117, hy117⟩ : ∃ y_ : List (S72), y_ = (List.replicate ((l0.length : Int) : Int).toNat z72) := ⟨_, rfl⟩
   replace H : (laws_toIntA2S.l0 k l0 y117 0) = some r := by first | (rw [hy117]; with_reducible exact H) | (have H2_ := (Option.bind_some _ _).symm.trans H; rw [hy117]; with_reducible exact H2_) | (have H2_ := (Option.bind_some _ _).symm.trans H; with_reducible exact H2_) | with_reducible exact H | (rw [hy117]; exact H) | exact H
   have Ny117 := z1_A hy117
   clear hy117
   have H' := z1_A H
   clear H
   go_enter Try.func17, Try.ntmps17
   go_wp2_with (first | ((with_reducible refine gate_dst (N := 7) rfl ?_); refine Kd.R_make k72 _ 72 rfl (N := 7) rfl 25 _ _ rfl (l0.length : Int) rfl rfl Try.underlying25 (.agg #[(.int .i64 0), (.int .i64 0)]) 16 info72 rfl (by decide) (by omega) z72 (ok := fun _ => True) (okp := fun _ => True) (k72_mkM _ _ _ z72 ) (fun _ hk => hk) trivial (of_decide_eq_true z1_9) (Nat.le_trans (Nat.mul_le_mul_right _ (of_decide_eq_true z1_9 : (l0.length : Int).toNat ≤ 17592186044416)) (by omega)) (Below.refl _ _) (Nat.le_refl _) ?_; intro v118 w4 ho5 hb hg_ hnew_; clear hg_ hnew_; (first | rw [← Ny117.out] at ho5 | (simp only [Int.reduceToNat] at ho5; rw [← Ny117.out] at ho5)); have n0_ := z1_A (Kd.R_lower ho5 (below_size z1_1)); have n1_ := z1_A (below_step z1_1 hb); clear HB; revert n0_ n1_; intro HO119 HB; clear hb ho5))
   go_loopg [4] k (fun kq v4 w' => ∃ (x3_1 : List (S72)) (x4_1 : Int), v4 = .int .i64 x4_1 ∧ Aside0 (laws_toIntA2S.l0 kq l0 x3_1 x4_1 = some r) ∧ Aside0 (kq ≤ k) ∧ Aside0 (Kd.R k72 72 w' w.heap.size (fun _ => True) v118 x3_1) ∧ Aside0 (Below w.heap.size w w'))
   case atStart => exact ⟨(y117), (0), z1_11, H', ⟨Nat.le_refl _⟩, ⟨by (with_reducible repeat (first | apply Kd.R_alloc | apply Kd.R_drewN | apply Kd.R_drew)); exact HO119.out⟩, ⟨z1_1⟩⟩
   case round =>
    clear H'
    (try clear c2); (try clear c2b0); (try clear c2b1); (try clear c3); (try clear c3b0); (try clear c3b1)
    obtain ⟨x3_1, x4_1, rfl, HA, HK1, HO_3, HB⟩ := hrel
    cases gk with
    | zero => exact absurd HA.out (by simp [laws_toIntA2S.l0])
    | succ k1 =>
     have H := HA.out
     clear HA
     simp only [laws_toIntA2S.l0] at H
     by_cases c6 : x4_1 < (l0.length : Int)
     ·rw [if_pos c6] at H
      have c6b0 : decide (x4_1 < (l0.length : Int)) = true := decide_eq_true c6
      clear c6
      by_cases c7 : 0 ≤ x4_1
      ·rw [if_pos c7] at H
       have c7b0 : decide (0 ≤ x4_1) = true := decide_eq_true c7
       clear c7
       replace H := Option.bind_eq_some_iff.mp H
       obtain ⟨⟨t121, t122⟩, A80, H⟩ := H
       (try dsimp only at H)
       have A8 := z1_A A80
       clear A80
       by_cases c9 : x4_1 < (x3_1.length : Int)
       ·rw [if_pos c9] at H
        have c9b0 : decide (x4_1 < (x3_1.length : Int)) = true := decide_eq_true c9
        clear c9
        obtain ⟨y123, hy123⟩ : ∃ y_ : List (S72), y_ = (x3_1.set (x4_1 : Int).toNat (⟨t121, t122⟩ : S72)) := ⟨_, rfl⟩
        replace H : (laws_toIntA2S.l0 k1 l0 y123 (wrap64 (x4_1 + 1))) = some r := by first | (rw [hy123]; with_reducible exact H) | (have H2_ := (Option.bind_some _ _).symm.trans H; rw [hy123]; with_reducible exact H2_) | (have H2_ := (Option.bind_some _ _).symm.trans H; with_reducible exact H2_) | with_reducible exact H | (rw [hy123]; exact H) | exact H
        have Ny123 := z1_A hy123
        clear hy123
        have H' := z1_A H
        clear H
        have p120 : 0 ≤ (x4_1 : Int) := of_decide_eq_true z1_9
        have q120 : x4_1 < (l0.length : Int) := of_decide_eq_true z1_9
        obtain ⟨ad120, e120, hx120_0, hx120_1⟩ := at_T72 HR0.out x4_1 p120 q120
        cases e120
        replace hx120_0 := (HB.out.cell (World.block_lt_of_cell? w _ hx120_0)).trans hx120_0
        replace hx120_1 := (HB.out.cell (World.block_lt_of_cell? w _ hx120_1)).trans hx120_1
        replace p120 := eq_true p120
        replace q120 := eq_true q120
        go_wp2_with (first | ((with_reducible refine gate_callee (f := 70) rfl ?_); refine goesL_ (some 20) rfl rfl Try.func70 z1_30 rfl #[.agg #[.int .i64 ((rd_T72 l0 x4_1).f0), .int .i64 ((rd_T72 l0 x4_1).f1)]] rfl z1_4 ?_; (with_reducible refine (laws_toIntA2.calls k1 ((rd_T72 l0 x4_1).f0) ((rd_T72 l0 x4_1).f1) t121 t122 _ A8.out).mono ?_); rintro e w11 ⟨rfl, hb⟩; refine ⟨_, rfl, ?_⟩; have n0_ := z1_A (Kd.R_below z1_16 hb); have n1_ := z1_A (below_step z1_1 hb); clear HO_3 HB; revert n0_ n1_; intro HO_3 HB; (try clear hb); (try clear hb2); (try clear hk); (try clear hi); have p10 : 0 ≤ (x4_1 : Int) := of_decide_eq_true z1_9; have q10 : (x4_1 : Int) < ((x3_1.length : Int) : Int) := of_decide_eq_true z1_9; obtain ⟨go10, co10, eo10, gb10, gl10, cl10, HG10⟩ := Kd.R_form HO_3.out (by omega); (first | cases eo10 | (injection eo10 with ea_ en_ ec_; (first | subst ea_ | (injection ea_ with ea_; subst ea_)); subst ec_; clear en_)); have GB10 := z1_A gb10; have GG10 := z1_A HG10; clear gb10 gl10 HG10; obtain ⟨ce10, hcl10, hM10, hcc10, hfr10⟩ := Kd.R_elem HO_3.out z72 (x4_1 : Int) p10 q10; obtain rfl := k72_openM hM10; have hx10_0 : w11.cell? ⟨go10, (x4_1 : Int).toNat * 2, none⟩ = some (.int .i64 ((rd_T72 x3_1 x4_1).f0)) := hcc10 0 _ rfl; have hx10_1 : w11.cell? ⟨go10, (x4_1 : Int).toNat * 2 + 1, none⟩ = some (.int .i64 ((rd_T72 x3_1 x4_1).f1)) := hcc10 1 _ rfl; have hf10_0 : w11.frozen? ⟨go10, (x4_1 : Int).toNat * 2, none⟩ = false := hfr10 0; have hf10_1 : w11.frozen? ⟨go10, (x4_1 : Int).toNat * 2 + 1, none⟩ = false := hfr10 1; clear hcl10 hcc10 hfr10 hM10; replace p10 := eq_true p10; replace q10 := eq_true q10; have HX12 := z1_A (show Kd.R k72 72 w11 w.heap.size (fun _ => True) (.slice (some ⟨go10, 0, none⟩) x3_1.length co10) x3_1 from z1_16); obtain ⟨ce12, hcl12, hM12, hcc12, hfr12⟩ := Kd.R_elem HX12.out z72 (x4_1 : Int) (of_decide_eq_true z1_9) (by have h_ : (x4_1 : Int) < ((x3_1.length : Int) : Int) := of_decide_eq_true z1_9; first | exact h_ | (have e_ := (Kd.R_reads' HO_3.out).1; omega) | simpa using h_); obtain rfl := k72_openM hM12; have HP12 := Kd.R_seg HX12.out (x4_1 : Int) (of_decide_eq_true z1_9) (by have h_ : (x4_1 : Int) < ((x3_1.length : Int) : Int) := of_decide_eq_true z1_9; first | exact h_ | (have e_ := (Kd.R_reads' HO_3.out).1; omega) | simpa using h_) (seg := [.int .i64 t121, .int .i64 t122]) (j := 0) hcl12 hcc12 (show 2 ≤ 2 from by decide) (x' := (⟨t121, t122⟩ : S72)) (k72_mkM _ _ _ (⟨t121, t122⟩ : S72) ) (fun _ hk => hk); have hx12_0 := hcc12 0 _ rfl; (try simp only [show (k72).sz = 2 from rfl, Nat.mul_one, Nat.add_zero] at hx12_0); have hf12_0 := hfr12 0; (try simp only [show (k72).sz = 2 from rfl, Nat.mul_one, Nat.add_zero] at hf12_0); have hx12_1 := hcc12 1 _ rfl; (try simp only [show (k72).sz = 2 from rfl, Nat.mul_one, Nat.add_zero] at hx12_1); have hf12_1 := hfr12 1; (try simp only [show (k72).sz = 2 from rfl, Nat.mul_one, Nat.add_zero] at hf12_1); clear hcl12 hcc12 hfr12 hM12) | ((with_reducible refine gate_store (t := 72) (p := 21) rfl ?_); refine store_event (t := 72) (p := 21) (v := ?vo_w13) (w1 := ((w11.setCell ⟨go10, (x4_1 : Int).toNat * 2, none⟩ (.int .i64 t121)).setCell ⟨go10, (x4_1 : Int).toNat * 2 + 1, none⟩ (.int .i64 t122))) ?hg ?ho ?hn ?hr ?_; (case ho => rfl); (case hg => rfl); (case hn => rfl); (case hr => first | (go_simp; done) | (go_simp; rfl)); intro w13 hw; have hg : w11.grownBy w13 (some go10) := (by rw [hw]; exact HP12.2); have hp_ : Kd.R k72 72 w13 w.heap.size (fun _ => True) (.slice (some ⟨go10, 0, none⟩) x3_1.length co10) y123 := (by rw [hw, Ny123.out]; exact HP12.1); clear HP12; have n0_ := z1_A (hp_); have n1_ := z1_A ((by rw [hw]; exact below_set (below_set (HB.out) GB10.out) GB10.out : Below w.heap.size w w13)); clear HO_3 HB; revert n0_ n1_; intro HO_3 HB; clear hg hw hp_))
        go_roundg k1
        case measure => have := HK1.out; omega
        case rel => exact ⟨(y123), (wrap64 (x4_1 + 1)), z1_11, H', ⟨z1_33⟩, ⟨z1_16⟩, ⟨z1_1⟩⟩
       ·rw [if_neg c9] at H
        exact absurd H (by simp)
      ·rw [if_neg c7] at H
       exact absurd H (by simp)
     ·rw [if_neg c6] at H
      have c6b0 : decide (x4_1 < (l0.length : Int)) = false := decide_eq_false c6
      clear c6
      obtain rfl := Option.some.inj H
      go_wp2
      go_ret
      exact ⟨_, z1_6, z1_16, z1_1⟩
  ·rw [if_neg c3] at H
   exact absurd H (by simp)
 ·rw [if_neg c2] at H
  exact absurd H (by simp)

/-! ### laws_eqIntS: function 25 -/
def laws_eqIntS.l0 : Nat → List Int → List Int → Int → Option (Bool)
 | 0, _, _, _ => none
 | k + 1, x0, x1, x5 => if x5 < (x0.length : Int) then (if 0 ≤ x5 then (if x5 < (x1.length : Int) then (if (rd x0 x5) = (rd x1 x5) then (laws_eqIntS.l0 k x0 x1 (wrap64 (x5 + 1))) else (some false)) else (none)) else (none)) else (some true)
def laws_eqIntS.f (k : Nat) (l0 : List Int) (l1 : List Int) : Option (Bool) := if (l0.length : Int) = (l1.length : Int) then (laws_eqIntS.l0 k l0 l1 0) else (some false)
theorem laws_eqIntS.mono_l : ∀ k, (∀ y0 y1 y2, LeO (laws_eqIntS.l0 k y0 y1 y2) (laws_eqIntS.l0 (k + 1) y0 y1 y2))
 | 0 => fun _ _ _ r h => by simp [laws_eqIntS.l0] at h
 | k + 1 => by
  have ih0 := laws_eqIntS.mono_l k
  ·intro y0 y1 y2
   unfold laws_eqIntS.l0
   repeat' first
   | (with_reducible exact ih0 _ _ _)
   | (with_reducible exact LeO.refl _)
   | (with_reducible exact LeO.none _)
   | (with_reducible refine LeO.ite ?_ ?_)
   | (with_reducible refine LeO.bind ?_ (fun _ => ?_))
   | exact ih0 _ _ _
   | exact LeO.none _
   | refine LeO.ite ?_ ?_
   | refine LeO.bind ?_ (fun _ => ?_)
theorem laws_eqIntS.mono : ∀ a0 a1 k, LeO (laws_eqIntS.f k a0 a1) (laws_eqIntS.f (k + 1) a0 a1) := by
 intro a0 a1 k
 have ih0 := laws_eqIntS.mono_l k
 unfold laws_eqIntS.f
 repeat' first
   | (with_reducible exact ih0 _ _ _)
   | (with_reducible exact LeO.refl _)
   | (with_reducible exact LeO.none _)
   | (with_reducible refine LeO.ite ?_ ?_)
   | (with_reducible refine LeO.bind ?_ (fun _ => ?_))
   | exact ih0 _ _ _
   | exact LeO.none _
   | refine LeO.ite ?_ ?_
   | refine LeO.bind ?_ (fun _ => ?_)
set_option maxHeartbeats 8000000 in
set_option maxRecDepth 100000 in
theorem laws_eqIntS.calls (k : Nat) (A0 : Option Addr) (c0 : Nat) (l0 : List Int) (A1 : Option Addr) (c1 : Nat) (l1 : List Int) (r : Bool) (w : World) (hr0 : Kd.C (Kd.int .i64) w A0 l0.length l0) (hc0 : l0.length ≤ c0) (hr1 : Kd.C (Kd.int .i64) w A1 l1.length l1) (hc1 : l1.length ≤ c1) (h : laws_eqIntS.f k l0 l1 = some r) :
  Calls Try.prog 25 #[.slice A0 l0.length c0, .slice A1 l1.length c1] w fun e w' => e = .returned (.bool r) ∧ Drawn0 w w' := by
 have HR0 := z1_A hr0
 have HC0 := z1_A hc0
 clear hr0 hc0
 have HR1 := z1_A hr1
 have HC1 := z1_A hc1
 clear hr1 hc1
 have H : (if (l0.length : Int) = (l1.length : Int) then (laws_eqIntS.l0 k l0 l1 0) else (some false)) = some r := h
 clear h
 by_cases c3 : (l0.length : Int) = (l1.length : Int)
 ·rw [if_pos c3] at H
  have c3b0 : ((l0.length : Int) == (l1.length : Int)) = true := beq_iff_eq.mpr c3
  have c3b1 : ((l0.length : Int) != (l1.length : Int)) = false := bne_eq_false_iff_eq.mpr c3
  have c3b2 : (l0.length == l1.length) = true := by first | simpa using c3 | (simp at c3 ⊢; omega)
  clear c3
  have H' := z1_A H
  clear H
  go_enter Try.func25, Try.ntmps25
  go_wp2
  repeat (go_quiet (fail); try go_wp2)
  go_loopg [5] k (fun kq v5 w' => ∃ (x5_1 : Int), v5 = .int .i64 x5_1 ∧ Aside0 (laws_eqIntS.l0 kq l0 l1 x5_1 = some r) ∧ Aside0 (kq ≤ k) ∧ Drawn0 w w')
  case atStart => exact ⟨(0), z1_11, H', ⟨Nat.le_refl _⟩, z1_17⟩
  case round =>
   clear H'
   (try clear c1); (try clear c3); (try clear c3b0); (try clear c3b1); (try clear c3b2)
   obtain ⟨x5_1, rfl, HA, HK1, ⟨m1, rfl⟩⟩ := hrel
   cases gk with
   | zero => exact absurd HA.out (by simp [laws_eqIntS.l0])
   | succ k1 =>
    have H := HA.out
    clear HA
    simp only [laws_eqIntS.l0] at H
    by_cases c4 : x5_1 < (l0.length : Int)
    ·rw [if_pos c4] at H
     have c4b0 : decide (x5_1 < (l0.length : Int)) = true := decide_eq_true c4
     clear c4
     by_cases c5 : 0 ≤ x5_1
     ·rw [if_pos c5] at H
      have c5b0 : decide (0 ≤ x5_1) = true := decide_eq_true c5
      clear c5
      by_cases c6 : x5_1 < (l1.length : Int)
      ·rw [if_pos c6] at H
       have c6b0 : decide (x5_1 < (l1.length : Int)) = true := decide_eq_true c6
       clear c6
       by_cases c7 : (rd l0 x5_1) = (rd l1 x5_1)
       ·rw [if_pos c7] at H
        have c7b0 : ((rd l0 x5_1) == (rd l1 x5_1)) = true := beq_iff_eq.mpr c7
        have c7b1 : ((rd l0 x5_1) != (rd l1 x5_1)) = false := bne_eq_false_iff_eq.mpr c7
        clear c7
        have H' := z1_A H
        clear H
        have p124 : 0 ≤ (x5_1 : Int) := of_decide_eq_true z1_9
        have q124 : x5_1 < (l0.length : Int) := of_decide_eq_true z1_9
        obtain ⟨ad124, e124, hx124_0⟩ := Kd.at_int HR0.out x5_1 p124 q124
        cases e124
        replace p124 := eq_true p124
        replace q124 := eq_true q124
        have p125 : 0 ≤ (x5_1 : Int) := of_decide_eq_true z1_9
        have q125 : x5_1 < (l1.length : Int) := of_decide_eq_true z1_9
        obtain ⟨ad125, e125, hx125_0⟩ := Kd.at_int HR1.out x5_1 p125 q125
        cases e125
        replace p125 := eq_true p125
        replace q125 := eq_true q125
        go_wp2
        repeat (go_quiet (fail); try go_wp2)
        go_roundg k1
        case measure => have := HK1.out; omega
        case rel => exact ⟨(wrap64 (x5_1 + 1)), z1_11, H', ⟨z1_33⟩, z1_17⟩
       ·rw [if_neg c7] at H
        have c7b0 : ((rd l0 x5_1) == (rd l1 x5_1)) = false := beq_eq_false_iff_ne.mpr c7
        have c7b1 : ((rd l0 x5_1) != (rd l1 x5_1)) = true := bne_iff_ne.mpr c7
        obtain rfl := Option.some.inj H
        have p124 : 0 ≤ (x5_1 : Int) := of_decide_eq_true z1_9
        have q124 : x5_1 < (l0.length : Int) := of_decide_eq_true z1_9
        obtain ⟨ad124, e124, hx124_0⟩ := Kd.at_int HR0.out x5_1 p124 q124
        cases e124
        replace p124 := eq_true p124
        replace q124 := eq_true q124
        have p125 : 0 ≤ (x5_1 : Int) := of_decide_eq_true z1_9
        have q125 : x5_1 < (l1.length : Int) := of_decide_eq_true z1_9
        obtain ⟨ad125, e125, hx125_0⟩ := Kd.at_int HR1.out x5_1 p125 q125
        cases e125
        replace p125 := eq_true p125
        replace q125 := eq_true q125
        go_wp2
        repeat (go_quiet (fail); try go_wp2)
        go_ret
        exact ⟨z1_11, z1_17⟩
      ·rw [if_neg c6] at H
       exact absurd H (by simp)
     ·rw [if_neg c5] at H
      exact absurd H (by simp)
    ·rw [if_neg c4] at H
     have c4b0 : decide (x5_1 < (l0.length : Int)) = false := decide_eq_false c4
     clear c4
     obtain rfl := Option.some.inj H
     go_wp2
     repeat (go_quiet (fail); try go_wp2)
     go_ret
     exact ⟨z1_11, z1_17⟩
 ·rw [if_neg c3] at H
  have c3b0 : ((l0.length : Int) == (l1.length : Int)) = false := beq_eq_false_iff_ne.mpr c3
  have c3b1 : ((l0.length : Int) != (l1.length : Int)) = true := bne_iff_ne.mpr c3
  have c3b2 : (l0.length == l1.length) = false := by first | simpa using c3 | (simp at c3 ⊢; omega)
  obtain rfl := Option.some.inj H
  go_enter Try.func25, Try.ntmps25
  go_wp2
  repeat (go_quiet (fail); try go_wp2)
  go_ret
  exact ⟨z1_11, z1_17⟩

/-! ### laws_eqProcess: function 19 -/
def laws_eqProcess.f (k : Nat) (a0_0 : Int) (l0_1 : List Int) (a0_2 : Int) (a0_3 : Int) (a0_4 : Int) (a0_5 : Int) (a1_0 : Int) (l1_1 : List Int) (a1_2 : Int) (a1_3 : Int) (a1_4 : Int) (a1_5 : Int) : Option (Bool) := if a0_0 = a1_0 then ((laws_eqIntS.f k l0_1 l1_1).bind fun t128 => (if t128 = true then (if a0_2 = a1_2 then (if a0_3 = a1_3 then (if a0_4 = a1_4 then (if a0_5 = a1_5 then (some true) else (some false)) else (some false)) else (some false)) else (some false)) else (some false))) else (some false)
theorem laws_eqProcess.mono : ∀ a0 a1 a2 a3 a4 a5 a6 a7 a8 a9 a10 a11 k, LeO (laws_eqProcess.f k a0 a1 a2 a3 a4 a5 a6 a7 a8 a9 a10 a11) (laws_eqProcess.f (k + 1) a0 a1 a2 a3 a4 a5 a6 a7 a8 a9 a10 a11) := by
 intro a0 a1 a2 a3 a4 a5 a6 a7 a8 a9 a10 a11 k
 unfold laws_eqProcess.f
 repeat' first
   | (with_reducible exact laws_eqIntS.mono _ _ _)
   | (with_reducible exact LeO.refl _)
   | (with_reducible exact LeO.none _)
   | (with_reducible refine LeO.ite ?_ ?_)
   | (with_reducible refine LeO.bind ?_ (fun _ => ?_))
   | exact laws_eqIntS.mono _ _ _
   | exact LeO.none _
   | refine LeO.ite ?_ ?_
   | refine LeO.bind ?_ (fun _ => ?_)
set_option maxHeartbeats 8000000 in
set_option maxRecDepth 100000 in
theorem laws_eqProcess.calls (k : Nat) (a0_0 : Int) (A0_1 : Option Addr) (c0_1 : Nat) (l0_1 : List Int) (a0_2 : Int) (a0_3 : Int) (a0_4 : Int) (a0_5 : Int) (a1_0 : Int) (A1_1 : Option Addr) (c1_1 : Nat) (l1_1 : List Int) (a1_2 : Int) (a1_3 : Int) (a1_4 : Int) (a1_5 : Int) (r : Bool) (w : World) (hr0_1 : Kd.C (Kd.int .i64) w A0_1 l0_1.length l0_1) (hc0_1 : l0_1.length ≤ c0_1) (hr1_1 : Kd.C (Kd.int .i64) w A1_1 l1_1.length l1_1) (hc1_1 : l1_1.length ≤ c1_1) (h : laws_eqProcess.f k a0_0 l0_1 a0_2 a0_3 a0_4 a0_5 a1_0 l1_1 a1_2 a1_3 a1_4 a1_5 = some r) :
  Calls Try.prog 19 #[.agg #[.int .i64 a0_0, .slice A0_1 l0_1.length c0_1, .int .i64 a0_2, .int .i64 a0_3, .int .i64 a0_4, .int .i64 a0_5], .agg #[.int .i64 a1_0, .slice A1_1 l1_1.length c1_1, .int .i64 a1_2, .int .i64 a1_3, .int .i64 a1_4, .int .i64 a1_5]] w fun e w' => e = .returned (.bool r) ∧ Below w.heap.size w w' := by
 have hu30 := Try.underlying30
 have HR0_1 := z1_A hr0_1
 have HC0_1 := z1_A hc0_1
 clear hr0_1 hc0_1
 have HR1_1 := z1_A hr1_1
 have HC1_1 := z1_A hc1_1
 clear hr1_1 hc1_1
 have HB := z1_A (Below.refl w.heap.size w)
 have H : (if a0_0 = a1_0 then ((laws_eqIntS.f k l0_1 l1_1).bind fun t128 => (if t128 = true then (if a0_2 = a1_2 then (if a0_3 = a1_3 then (if a0_4 = a1_4 then (if a0_5 = a1_5 then (some true) else (some false)) else (some false)) else (some false)) else (some false)) else (some false))) else (some false)) = some r := h
 clear h
 by_cases c3 : a0_0 = a1_0
 ·rw [if_pos c3] at H
  have c3b0 : (a0_0 == a1_0) = true := beq_iff_eq.mpr c3
  have c3b1 : (a0_0 != a1_0) = false := bne_eq_false_iff_eq.mpr c3
  clear c3
  replace H := Option.bind_eq_some_iff.mp H
  obtain ⟨t128, A40, H⟩ := H
  (try dsimp only at H)
  have A4 := z1_A A40
  clear A40
  by_cases c5 : t128 = true
  ·subst c5
   have H1 : (if a0_2 = a1_2 then (if a0_3 = a1_3 then (if a0_4 = a1_4 then (if a0_5 = a1_5 then (some true) else (some false)) else (some false)) else (some false)) else (some false)) = some r := by rw [if_pos rfl] at H; exact H
   clear H
   have H := H1
   clear H1
   by_cases c6 : a0_2 = a1_2
   ·rw [if_pos c6] at H
    have c6b0 : (a0_2 == a1_2) = true := beq_iff_eq.mpr c6
    have c6b1 : (a0_2 != a1_2) = false := bne_eq_false_iff_eq.mpr c6
    clear c6
    by_cases c7 : a0_3 = a1_3
    ·rw [if_pos c7] at H
     have c7b0 : (a0_3 == a1_3) = true := beq_iff_eq.mpr c7
     have c7b1 : (a0_3 != a1_3) = false := bne_eq_false_iff_eq.mpr c7
     clear c7
     by_cases c8 : a0_4 = a1_4
     ·rw [if_pos c8] at H
      have c8b0 : (a0_4 == a1_4) = true := beq_iff_eq.mpr c8
      have c8b1 : (a0_4 != a1_4) = false := bne_eq_false_iff_eq.mpr c8
      clear c8
      by_cases c9 : a0_5 = a1_5
      ·rw [if_pos c9] at H
       have c9b0 : (a0_5 == a1_5) = true := beq_iff_eq.mpr c9
       have c9b1 : (a0_5 != a1_5) = false := bne_eq_false_iff_eq.mpr c9
       clear c9
       obtain rfl := Option.some.inj H
       go_enter Try.func19, Try.ntmps19
       go_wp2_with (first | ((with_reducible refine gate_dst (N := 2) rfl ?_); refine box_event ?hg (N := 2) ?hd (cs := #[.int .i64 a0_0, .slice A0_1 l0_1.length c0_1, .int .i64 a0_2, .int .i64 a0_3, .int .i64 a0_4, .int .i64 a0_5]) (t := 30) ?hr ?_; (case hd => rfl); (case hg => rfl); (case hr => first | (go_simp; done) | (go_simp; rfl)); intro gb126 hg w10 hbox hb; have n0_ := z1_A (below_step z1_1 hb); have n1_ := z1_A (hbox); have n2_ := z1_A ((z1_14 : w.heap.size ≤ gb126)); have n3_ := z1_A ((z1_14 : w.heap.size ≤ gb126)); clear HB; revert n0_ n1_ n2_ n3_; intro HB BK126 GW126 GE126; clear hb hbox hg) | ((with_reducible refine gate_dst (N := 3) rfl ?_); refine box_event ?hg (N := 3) ?hd (cs := #[.int .i64 a1_0, .slice A1_1 l1_1.length c1_1, .int .i64 a1_2, .int .i64 a1_3, .int .i64 a1_4, .int .i64 a1_5]) (t := 30) ?hr ?_; (case hd => rfl); (case hg => rfl); (case hr => first | (go_simp; done) | (go_simp; rfl)); intro gb127 hg w11 hbox hb; have n0_ := z1_A (blk_below (g := gb126) (o := .cells #[.int .i64 a0_0, .slice A0_1 l0_1.length c0_1, .int .i64 a0_2, .int .i64 a0_3, .int .i64 a0_4, .int .i64 a0_5] 30 (0, 0)) z1_3 hb); have n1_ := z1_A (below_step z1_2 hb); have n2_ := z1_A (hbox); have n3_ := z1_A ((z1_18 : w.heap.size ≤ gb127)); have n4_ := z1_A ((z1_18 : w.heap.size ≤ gb127)); have n5_ := z1_A ((z1_7 : gb126 ≠ gb127)); have n6_ := z1_A ((z1_8 : gb127 ≠ gb126)); clear BK126 HB; revert n0_ n1_ n2_ n3_ n4_ n5_ n6_; intro BK126 HB BK127 GW127 GE127 NB126_127 NB127_126; clear hb hbox hg; have hnb12 := NB126_127.out; have hnc12 := NB127_126.out; have hcz13_0 : w11.cell? ⟨gb126, 0, none⟩ = some (.int .i64 a0_0) := bcz BK126.out 0 rfl; have hcz13_1 : w11.cell? ⟨gb126, 1, none⟩ = some (.slice A0_1 l0_1.length c0_1) := bcz BK126.out 1 rfl; have hcz13_2 : w11.cell? ⟨gb126, 2, none⟩ = some (.int .i64 a0_2) := bcz BK126.out 2 rfl; have hcz13_3 : w11.cell? ⟨gb126, 3, none⟩ = some (.int .i64 a0_3) := bcz BK126.out 3 rfl; have hcz13_4 : w11.cell? ⟨gb126, 4, none⟩ = some (.int .i64 a0_4) := bcz BK126.out 4 rfl; have hcz13_5 : w11.cell? ⟨gb126, 5, none⟩ = some (.int .i64 a0_5) := bcz BK126.out 5 rfl; obtain ⟨hfz13_0, hfz13_1, hfz13_2, hfz13_3⟩ := F4z (blk_frozen BK126.out); have hfz13_4 := blk_frozen BK126.out 4; have hfz13_5 := blk_frozen BK126.out 5; have hcz14_0 : w11.cell? ⟨gb127, 0, none⟩ = some (.int .i64 a1_0) := bcz BK127.out 0 rfl; have hcz14_1 : w11.cell? ⟨gb127, 1, none⟩ = some (.slice A1_1 l1_1.length c1_1) := bcz BK127.out 1 rfl; have hcz14_2 : w11.cell? ⟨gb127, 2, none⟩ = some (.int .i64 a1_2) := bcz BK127.out 2 rfl; have hcz14_3 : w11.cell? ⟨gb127, 3, none⟩ = some (.int .i64 a1_3) := bcz BK127.out 3 rfl; have hcz14_4 : w11.cell? ⟨gb127, 4, none⟩ = some (.int .i64 a1_4) := bcz BK127.out 4 rfl; have hcz14_5 : w11.cell? ⟨gb127, 5, none⟩ = some (.int .i64 a1_5) := bcz BK127.out 5 rfl; obtain ⟨hfz14_0, hfz14_1, hfz14_2, hfz14_3⟩ := F4z (blk_frozen BK127.out); have hfz14_4 := blk_frozen BK127.out 4; have hfz14_5 := blk_frozen BK127.out 5) | ((with_reducible refine gate_callee (f := 25) rfl ?_); refine goesL_ (some 14) rfl rfl Try.func25 z1_30 rfl #[.slice A0_1 l0_1.length c0_1, .slice A1_1 l1_1.length c1_1] rfl z1_4 ?_; (with_reducible refine (laws_eqIntS.calls k _ _ l0_1 _ _ l1_1 true _ ?side1 ?side2 ?side3 ?side4 A4.out).mono ?_); (case side1 => have zh := (Kd.C_below HR0_1.out HB.out); exact z1_C); (case side2 => exact HC0_1.out); (case side3 => have zh := (Kd.C_below HR1_1.out HB.out); exact z1_C); (case side4 => exact HC1_1.out); rintro e w' ⟨rfl, ⟨nd, rfl⟩⟩; refine ⟨_, rfl, ?_⟩))
       go_ret
       exact ⟨z1_6, z1_5⟩
      ·rw [if_neg c9] at H
       have c9b0 : (a0_5 == a1_5) = false := beq_eq_false_iff_ne.mpr c9
       have c9b1 : (a0_5 != a1_5) = true := bne_iff_ne.mpr c9
       obtain rfl := Option.some.inj H
       go_enter Try.func19, Try.ntmps19
       go_wp2_with (first | ((with_reducible refine gate_dst (N := 2) rfl ?_); refine box_event ?hg (N := 2) ?hd (cs := #[.int .i64 a0_0, .slice A0_1 l0_1.length c0_1, .int .i64 a0_2, .int .i64 a0_3, .int .i64 a0_4, .int .i64 a0_5]) (t := 30) ?hr ?_; (case hd => rfl); (case hg => rfl); (case hr => first | (go_simp; done) | (go_simp; rfl)); intro gb126 hg w15 hbox hb; have n0_ := z1_A (below_step z1_1 hb); have n1_ := z1_A (hbox); have n2_ := z1_A ((z1_14 : w.heap.size ≤ gb126)); have n3_ := z1_A ((z1_14 : w.heap.size ≤ gb126)); clear HB; revert n0_ n1_ n2_ n3_; intro HB BK126 GW126 GE126; clear hb hbox hg) | ((with_reducible refine gate_dst (N := 3) rfl ?_); refine box_event ?hg (N := 3) ?hd (cs := #[.int .i64 a1_0, .slice A1_1 l1_1.length c1_1, .int .i64 a1_2, .int .i64 a1_3, .int .i64 a1_4, .int .i64 a1_5]) (t := 30) ?hr ?_; (case hd => rfl); (case hg => rfl); (case hr => first | (go_simp; done) | (go_simp; rfl)); intro gb127 hg w16 hbox hb; have n0_ := z1_A (blk_below (g := gb126) (o := .cells #[.int .i64 a0_0, .slice A0_1 l0_1.length c0_1, .int .i64 a0_2, .int .i64 a0_3, .int .i64 a0_4, .int .i64 a0_5] 30 (0, 0)) z1_3 hb); have n1_ := z1_A (below_step z1_2 hb); have n2_ := z1_A (hbox); have n3_ := z1_A ((z1_18 : w.heap.size ≤ gb127)); have n4_ := z1_A ((z1_18 : w.heap.size ≤ gb127)); have n5_ := z1_A ((z1_7 : gb126 ≠ gb127)); have n6_ := z1_A ((z1_8 : gb127 ≠ gb126)); clear BK126 HB; revert n0_ n1_ n2_ n3_ n4_ n5_ n6_; intro BK126 HB BK127 GW127 GE127 NB126_127 NB127_126; clear hb hbox hg; have hnb17 := NB126_127.out; have hnc17 := NB127_126.out; have hcz18_0 : w16.cell? ⟨gb126, 0, none⟩ = some (.int .i64 a0_0) := bcz BK126.out 0 rfl; have hcz18_1 : w16.cell? ⟨gb126, 1, none⟩ = some (.slice A0_1 l0_1.length c0_1) := bcz BK126.out 1 rfl; have hcz18_2 : w16.cell? ⟨gb126, 2, none⟩ = some (.int .i64 a0_2) := bcz BK126.out 2 rfl; have hcz18_3 : w16.cell? ⟨gb126, 3, none⟩ = some (.int .i64 a0_3) := bcz BK126.out 3 rfl; have hcz18_4 : w16.cell? ⟨gb126, 4, none⟩ = some (.int .i64 a0_4) := bcz BK126.out 4 rfl; have hcz18_5 : w16.cell? ⟨gb126, 5, none⟩ = some (.int .i64 a0_5) := bcz BK126.out 5 rfl; obtain ⟨hfz18_0, hfz18_1, hfz18_2, hfz18_3⟩ := F4z (blk_frozen BK126.out); have hfz18_4 := blk_frozen BK126.out 4; have hfz18_5 := blk_frozen BK126.out 5; have hcz19_0 : w16.cell? ⟨gb127, 0, none⟩ = some (.int .i64 a1_0) := bcz BK127.out 0 rfl; have hcz19_1 : w16.cell? ⟨gb127, 1, none⟩ = some (.slice A1_1 l1_1.length c1_1) := bcz BK127.out 1 rfl; have hcz19_2 : w16.cell? ⟨gb127, 2, none⟩ = some (.int .i64 a1_2) := bcz BK127.out 2 rfl; have hcz19_3 : w16.cell? ⟨gb127, 3, none⟩ = some (.int .i64 a1_3) := bcz BK127.out 3 rfl; have hcz19_4 : w16.cell? ⟨gb127, 4, none⟩ = some (.int .i64 a1_4) := bcz BK127.out 4 rfl; have hcz19_5 : w16.cell? ⟨gb127, 5, none⟩ = some (.int .i64 a1_5) := bcz BK127.out 5 rfl; obtain ⟨hfz19_0, hfz19_1, hfz19_2, hfz19_3⟩ := F4z (blk_frozen BK127.out); have hfz19_4 := blk_frozen BK127.out 4; have hfz19_5 := blk_frozen BK127.out 5) | ((with_reducible refine gate_callee (f := 25) rfl ?_); refine goesL_ (some 14) rfl rfl Try.func25 z1_30 rfl #[.slice A0_1 l0_1.length c0_1, .slice A1_1 l1_1.length c1_1] rfl z1_4 ?_; (with_reducible refine (laws_eqIntS.calls k _ _ l0_1 _ _ l1_1 true _ ?side1 ?side2 ?side3 ?side4 A4.out).mono ?_); (case side1 => have zh := (Kd.C_below HR0_1.out HB.out); exact z1_C); (case side2 => exact HC0_1.out); (case side3 => have zh := (Kd.C_below HR1_1.out HB.out); exact z1_C); (case side4 => exact HC1_1.out); rintro e w' ⟨rfl, ⟨nd, rfl⟩⟩; refine ⟨_, rfl, ?_⟩))
       go_ret
       exact ⟨z1_6, z1_5⟩
     ·rw [if_neg c8] at H
      have c8b0 : (a0_4 == a1_4) = false := beq_eq_false_iff_ne.mpr c8
      have c8b1 : (a0_4 != a1_4) = true := bne_iff_ne.mpr c8
      obtain rfl := Option.some.inj H
      go_enter Try.func19, Try.ntmps19
      go_wp2_with (first | ((with_reducible refine gate_dst (N := 2) rfl ?_); refine box_event ?hg (N := 2) ?hd (cs := #[.int .i64 a0_0, .slice A0_1 l0_1.length c0_1, .int .i64 a0_2, .int .i64 a0_3, .int .i64 a0_4, .int .i64 a0_5]) (t := 30) ?hr ?_; (case hd => rfl); (case hg => rfl); (case hr => first | (go_simp; done) | (go_simp; rfl)); intro gb126 hg w20 hbox hb; have n0_ := z1_A (below_step z1_1 hb); have n1_ := z1_A (hbox); have n2_ := z1_A ((z1_14 : w.heap.size ≤ gb126)); have n3_ := z1_A ((z1_14 : w.heap.size ≤ gb126)); clear HB; revert n0_ n1_ n2_ n3_; intro HB BK126 GW126 GE126; clear hb hbox hg) | ((with_reducible refine gate_dst (N := 3) rfl ?_); refine box_event ?hg (N := 3) ?hd (cs := #[.int .i64 a1_0, .slice A1_1 l1_1.length c1_1, .int .i64 a1_2, .int .i64 a1_3, .int .i64 a1_4, .int .i64 a1_5]) (t := 30) ?hr ?_; (case hd => rfl); (case hg => rfl); (case hr => first | (go_simp; done) | (go_simp; rfl)); intro gb127 hg w21 hbox hb; have n0_ := z1_A (blk_below (g := gb126) (o := .cells #[.int .i64 a0_0, .slice A0_1 l0_1.length c0_1, .int .i64 a0_2, .int .i64 a0_3, .int .i64 a0_4, .int .i64 a0_5] 30 (0, 0)) z1_3 hb); have n1_ := z1_A (below_step z1_2 hb); have n2_ := z1_A (hbox); have n3_ := z1_A ((z1_18 : w.heap.size ≤ gb127)); have n4_ := z1_A ((z1_18 : w.heap.size ≤ gb127)); have n5_ := z1_A ((z1_7 : gb126 ≠ gb127)); have n6_ := z1_A ((z1_8 : gb127 ≠ gb126)); clear BK126 HB; revert n0_ n1_ n2_ n3_ n4_ n5_ n6_; intro BK126 HB BK127 GW127 GE127 NB126_127 NB127_126; clear hb hbox hg; have hnb22 := NB126_127.out; have hnc22 := NB127_126.out; have hcz23_0 : w21.cell? ⟨gb126, 0, none⟩ = some (.int .i64 a0_0) := bcz BK126.out 0 rfl; have hcz23_1 : w21.cell? ⟨gb126, 1, none⟩ = some (.slice A0_1 l0_1.length c0_1) := bcz BK126.out 1 rfl; have hcz23_2 : w21.cell? ⟨gb126, 2, none⟩ = some (.int .i64 a0_2) := bcz BK126.out 2 rfl; have hcz23_3 : w21.cell? ⟨gb126, 3, none⟩ = some (.int .i64 a0_3) := bcz BK126.out 3 rfl; have hcz23_4 : w21.cell? ⟨gb126, 4, none⟩ = some (.int .i64 a0_4) := bcz BK126.out 4 rfl; have hcz23_5 : w21.cell? ⟨gb126, 5, none⟩ = some (.int .i64 a0_5) := bcz BK126.out 5 rfl; obtain ⟨hfz23_0, hfz23_1, hfz23_2, hfz23_3⟩ := F4z (blk_frozen BK126.out); have hfz23_4 := blk_frozen BK126.out 4; have hfz23_5 := blk_frozen BK126.out 5; have hcz24_0 : w21.cell? ⟨gb127, 0, none⟩ = some (.int .i64 a1_0) := bcz BK127.out 0 rfl; have hcz24_1 : w21.cell? ⟨gb127, 1, none⟩ = some (.slice A1_1 l1_1.length c1_1) := bcz BK127.out 1 rfl; have hcz24_2 : w21.cell? ⟨gb127, 2, none⟩ = some (.int .i64 a1_2) := bcz BK127.out 2 rfl; have hcz24_3 : w21.cell? ⟨gb127, 3, none⟩ = some (.int .i64 a1_3) := bcz BK127.out 3 rfl; have hcz24_4 : w21.cell? ⟨gb127, 4, none⟩ = some (.int .i64 a1_4) := bcz BK127.out 4 rfl; have hcz24_5 : w21.cell? ⟨gb127, 5, none⟩ = some (.int .i64 a1_5) := bcz BK127.out 5 rfl; obtain ⟨hfz24_0, hfz24_1, hfz24_2, hfz24_3⟩ := F4z (blk_frozen BK127.out); have hfz24_4 := blk_frozen BK127.out 4; have hfz24_5 := blk_frozen BK127.out 5) | ((with_reducible refine gate_callee (f := 25) rfl ?_); refine goesL_ (some 14) rfl rfl Try.func25 z1_30 rfl #[.slice A0_1 l0_1.length c0_1, .slice A1_1 l1_1.length c1_1] rfl z1_4 ?_; (with_reducible refine (laws_eqIntS.calls k _ _ l0_1 _ _ l1_1 true _ ?side1 ?side2 ?side3 ?side4 A4.out).mono ?_); (case side1 => have zh := (Kd.C_below HR0_1.out HB.out); exact z1_C); (case side2 => exact HC0_1.out); (case side3 => have zh := (Kd.C_below HR1_1.out HB.out); exact z1_C); (case side4 => exact HC1_1.out); rintro e w' ⟨rfl, ⟨nd, rfl⟩⟩; refine ⟨_, rfl, ?_⟩))
      go_ret
      exact ⟨z1_6, z1_5⟩
    ·rw [if_neg c7] at H
     have c7b0 : (a0_3 == a1_3) = false := beq_eq_false_iff_ne.mpr c7
     have c7b1 : (a0_3 != a1_3) = true := bne_iff_ne.mpr c7
     obtain rfl := Option.some.inj H
     go_enter Try.func19, Try.ntmps19
     go_wp2_with (first | ((with_reducible refine gate_dst (N := 2) rfl ?_); refine box_event ?hg (N := 2) ?hd (cs := #[.int .i64 a0_0, .slice A0_1 l0_1.length c0_1, .int .i64 a0_2, .int .i64 a0_3, .int .i64 a0_4, .int .i64 a0_5]) (t := 30) ?hr ?_; (case hd => rfl); (case hg => rfl); (case hr => first | (go_simp; done) | (go_simp; rfl)); intro gb126 hg w25 hbox hb; have n0_ := z1_A (below_step z1_1 hb); have n1_ := z1_A (hbox); have n2_ := z1_A ((z1_14 : w.heap.size ≤ gb126)); have n3_ := z1_A ((z1_14 : w.heap.size ≤ gb126)); clear HB; revert n0_ n1_ n2_ n3_; intro HB BK126 GW126 GE126; clear hb hbox hg) | ((with_reducible refine gate_dst (N := 3) rfl ?_); refine box_event ?hg (N := 3) ?hd (cs := #[.int .i64 a1_0, .slice A1_1 l1_1.length c1_1, .int .i64 a1_2, .int .i64 a1_3, .int .i64 a1_4, .int .i64 a1_5]) (t := 30) ?hr ?_; (case hd => rfl); (case hg => rfl); (case hr => first | (go_simp; done) | (go_simp; rfl)); intro gb127 hg w26 hbox hb; have n0_ := z1_A (blk_below (g := gb126) (o := .cells #[.int .i64 a0_0, .slice A0_1 l0_1.length c0_1, .int .i64 a0_2, .int .i64 a0_3, .int .i64 a0_4, .int .i64 a0_5] 30 (0, 0)) z1_3 hb); have n1_ := z1_A (below_step z1_2 hb); have n2_ := z1_A (hbox); have n3_ := z1_A ((z1_18 : w.heap.size ≤ gb127)); have n4_ := z1_A ((z1_18 : w.heap.size ≤ gb127)); have n5_ := z1_A ((z1_7 : gb126 ≠ gb127)); have n6_ := z1_A ((z1_8 : gb127 ≠ gb126)); clear BK126 HB; revert n0_ n1_ n2_ n3_ n4_ n5_ n6_; intro BK126 HB BK127 GW127 GE127 NB126_127 NB127_126; clear hb hbox hg; have hnb27 := NB126_127.out; have hnc27 := NB127_126.out; have hcz28_0 : w26.cell? ⟨gb126, 0, none⟩ = some (.int .i64 a0_0) := bcz BK126.out 0 rfl; have hcz28_1 : w26.cell? ⟨gb126, 1, none⟩ = some (.slice A0_1 l0_1.length c0_1) := bcz BK126.out 1 rfl; have hcz28_2 : w26.cell? ⟨gb126, 2, none⟩ = some (.int .i64 a0_2) := bcz BK126.out 2 rfl; have hcz28_3 : w26.cell? ⟨gb126, 3, none⟩ = some (.int .i64 a0_3) := bcz BK126.out 3 rfl; have hcz28_4 : w26.cell? ⟨gb126, 4, none⟩ = some (.int .i64 a0_4) := bcz BK126.out 4 rfl; have hcz28_5 : w26.cell? ⟨gb126, 5, none⟩ = some (.int .i64 a0_5) := bcz BK126.out 5 rfl; obtain ⟨hfz28_0, hfz28_1, hfz28_2, hfz28_3⟩ := F4z (blk_frozen BK126.out); have hfz28_4 := blk_frozen BK126.out 4; have hfz28_5 := blk_frozen BK126.out 5; have hcz29_0 : w26.cell? ⟨gb127, 0, none⟩ = some (.int .i64 a1_0) := bcz BK127.out 0 rfl; have hcz29_1 : w26.cell? ⟨gb127, 1, none⟩ = some (.slice A1_1 l1_1.length c1_1) := bcz BK127.out 1 rfl; have hcz29_2 : w26.cell? ⟨gb127, 2, none⟩ = some (.int .i64 a1_2) := bcz BK127.out 2 rfl; have hcz29_3 : w26.cell? ⟨gb127, 3, none⟩ = some (.int .i64 a1_3) := bcz BK127.out 3 rfl; have hcz29_4 : w26.cell? ⟨gb127, 4, none⟩ = some (.int .i64 a1_4) := bcz BK127.out 4 rfl; have hcz29_5 : w26.cell? ⟨gb127, 5, none⟩ = some (.int .i64 a1_5) := bcz BK127.out 5 rfl; obtain ⟨hfz29_0, hfz29_1, hfz29_2, hfz29_3⟩ := F4z (blk_frozen BK127.out); have hfz29_4 := blk_frozen BK127.out 4; have hfz29_5 := blk_frozen BK127.out 5) | ((with_reducible refine gate_callee (f := 25) rfl ?_); refine goesL_ (some 14) rfl rfl Try.func25 z1_30 rfl #[.slice A0_1 l0_1.length c0_1, .slice A1_1 l1_1.length c1_1] rfl z1_4 ?_; (with_reducible refine (laws_eqIntS.calls k _ _ l0_1 _ _ l1_1 true _ ?side1 ?side2 ?side3 ?side4 A4.out).mono ?_); (case side1 => have zh := (Kd.C_below HR0_1.out HB.out); exact z1_C); (case side2 => exact HC0_1.out); (case side3 => have zh := (Kd.C_below HR1_1.out HB.out); exact z1_C); (case side4 => exact HC1_1.out); rintro e w' ⟨rfl, ⟨nd, rfl⟩⟩; refine ⟨_, rfl, ?_⟩))
     go_ret
     exact ⟨z1_6, z1_5⟩
   ·rw [if_neg c6] at H
    have c6b0 : (a0_2 == a1_2) = false := beq_eq_false_iff_ne.mpr c6
    have c6b1 : (a0_2 != a1_2) = true := bne_iff_ne.mpr c6
    obtain rfl := Option.some.inj H
    go_enter Try.func19, Try.ntmps19
    go_wp2_with (first | ((with_reducible refine gate_dst (N := 2) rfl ?_); refine box_event ?hg (N := 2) ?hd (cs := #[.int .i64 a0_0, .slice A0_1 l0_1.length c0_1, .int .i64 a0_2, .int .i64 a0_3, .int .i64 a0_4, .int .i64 a0_5]) (t := 30) ?hr ?_; (case hd => rfl); (case hg => rfl); (case hr => first | (go_simp; done) | (go_simp; rfl)); intro gb126 hg w30 hbox hb; have n0_ := z1_A (below_step z1_1 hb); have n1_ := z1_A (hbox); have n2_ := z1_A ((z1_14 : w.heap.size ≤ gb126)); have n3_ := z1_A ((z1_14 : w.heap.size ≤ gb126)); clear HB; revert n0_ n1_ n2_ n3_; intro HB BK126 GW126 GE126; clear hb hbox hg) | ((with_reducible refine gate_dst (N := 3) rfl ?_); refine box_event ?hg (N := 3) ?hd (cs := #[.int .i64 a1_0, .slice A1_1 l1_1.length c1_1, .int .i64 a1_2, .int .i64 a1_3, .int .i64 a1_4, .int .i64 a1_5]) (t := 30) ?hr ?_; (case hd => rfl); (case hg => rfl); (case hr => first | (go_simp; done) | (go_simp; rfl)); intro gb127 hg w31 hbox hb; have n0_ := z1_A (blk_below (g := gb126) (o := .cells #[.int .i64 a0_0, .slice A0_1 l0_1.length c0_1, .int .i64 a0_2, .int .i64 a0_3, .int .i64 a0_4, .int .i64 a0_5] 30 (0, 0)) z1_3 hb); have n1_ := z1_A (below_step z1_2 hb); have n2_ := z1_A (hbox); have n3_ := z1_A ((z1_18 : w.heap.size ≤ gb127)); have n4_ := z1_A ((z1_18 : w.heap.size ≤ gb127)); have n5_ := z1_A ((z1_7 : gb126 ≠ gb127)); have n6_ := z1_A ((z1_8 : gb127 ≠ gb126)); clear BK126 HB; revert n0_ n1_ n2_ n3_ n4_ n5_ n6_; intro BK126 HB BK127 GW127 GE127 NB126_127 NB127_126; clear hb hbox hg; have hnb32 := NB126_127.out; have hnc32 := NB127_126.out; have hcz33_0 : w31.cell? ⟨gb126, 0, none⟩ = some (.int .i64 a0_0) := bcz BK126.out 0 rfl; have hcz33_1 : w31.cell? ⟨gb126, 1, none⟩ = some (.slice A0_1 l0_1.length c0_1) := bcz BK126.out 1 rfl; have hcz33_2 : w31.cell? ⟨gb126, 2, none⟩ = some (.int .i64 a0_2) := bcz BK126.out 2 rfl; have hcz33_3 : w31.cell? ⟨gb126, 3, none⟩ = some (.int .i64 a0_3) := bcz BK126.out 3 rfl; have hcz33_4 : w31.cell? ⟨gb126, 4, none⟩ = some (.int .i64 a0_4) := bcz BK126.out 4 rfl; have hcz33_5 : w31.cell? ⟨gb126, 5, none⟩ = some (.int .i64 a0_5) := bcz BK126.out 5 rfl; obtain ⟨hfz33_0, hfz33_1, hfz33_2, hfz33_3⟩ := F4z (blk_frozen BK126.out); have hfz33_4 := blk_frozen BK126.out 4; have hfz33_5 := blk_frozen BK126.out 5; have hcz34_0 : w31.cell? ⟨gb127, 0, none⟩ = some (.int .i64 a1_0) := bcz BK127.out 0 rfl; have hcz34_1 : w31.cell? ⟨gb127, 1, none⟩ = some (.slice A1_1 l1_1.length c1_1) := bcz BK127.out 1 rfl; have hcz34_2 : w31.cell? ⟨gb127, 2, none⟩ = some (.int .i64 a1_2) := bcz BK127.out 2 rfl; have hcz34_3 : w31.cell? ⟨gb127, 3, none⟩ = some (.int .i64 a1_3) := bcz BK127.out 3 rfl; have hcz34_4 : w31.cell? ⟨gb127, 4, none⟩ = some (.int .i64 a1_4) := bcz BK127.out 4 rfl; have hcz34_5 : w31.cell? ⟨gb127, 5, none⟩ = some (.int .i64 a1_5) := bcz BK127.out 5 rfl; obtain ⟨hfz34_0, hfz34_1, hfz34_2, hfz34_3⟩ := F4z (blk_frozen BK127.out); have hfz34_4 := blk_frozen BK127.out 4; have hfz34_5 := blk_frozen BK127.out 5) | ((with_reducible refine gate_callee (f := 25) rfl ?_); refine goesL_ (some 14) rfl rfl Try.func25 z1_30 rfl #[.slice A0_1 l0_1.length c0_1, .slice A1_1 l1_1.length c1_1] rfl z1_4 ?_; (with_reducible refine (laws_eqIntS.calls k _ _ l0_1 _ _ l1_1 true _ ?side1 ?side2 ?side3 ?side4 A4.out).mono ?_); (case side1 => have zh := (Kd.C_below HR0_1.out HB.out); exact z1_C); (case side2 => exact HC0_1.out); (case side3 => have zh := (Kd.C_below HR1_1.out HB.out); exact z1_C); (case side4 => exact HC1_1.out); rintro e w' ⟨rfl, ⟨nd, rfl⟩⟩; refine ⟨_, rfl, ?_⟩))
    go_ret
    exact ⟨z1_6, z1_5⟩
  ·replace c5 := Bool.eq_false_iff.mpr c5
   subst c5
   have H1 : (some false) = some r := by rw [if_neg (show ¬ (false = true) by decide)] at H; exact H
   clear H
   have H := H1
   clear H1
   obtain rfl := Option.some.inj H
   go_enter Try.func19, Try.ntmps19
   go_wp2_with (first | ((with_reducible refine gate_dst (N := 2) rfl ?_); refine box_event ?hg (N := 2) ?hd (cs := #[.int .i64 a0_0, .slice A0_1 l0_1.length c0_1, .int .i64 a0_2, .int .i64 a0_3, .int .i64 a0_4, .int .i64 a0_5]) (t := 30) ?hr ?_; (case hd => rfl); (case hg => rfl); (case hr => first | (go_simp; done) | (go_simp; rfl)); intro gb126 hg w35 hbox hb; have n0_ := z1_A (below_step z1_1 hb); have n1_ := z1_A (hbox); have n2_ := z1_A ((z1_14 : w.heap.size ≤ gb126)); have n3_ := z1_A ((z1_14 : w.heap.size ≤ gb126)); clear HB; revert n0_ n1_ n2_ n3_; intro HB BK126 GW126 GE126; clear hb hbox hg) | ((with_reducible refine gate_dst (N := 3) rfl ?_); refine box_event ?hg (N := 3) ?hd (cs := #[.int .i64 a1_0, .slice A1_1 l1_1.length c1_1, .int .i64 a1_2, .int .i64 a1_3, .int .i64 a1_4, .int .i64 a1_5]) (t := 30) ?hr ?_; (case hd => rfl); (case hg => rfl); (case hr => first | (go_simp; done) | (go_simp; rfl)); intro gb127 hg w36 hbox hb; have n0_ := z1_A (blk_below (g := gb126) (o := .cells #[.int .i64 a0_0, .slice A0_1 l0_1.length c0_1, .int .i64 a0_2, .int .i64 a0_3, .int .i64 a0_4, .int .i64 a0_5] 30 (0, 0)) z1_3 hb); have n1_ := z1_A (below_step z1_2 hb); have n2_ := z1_A (hbox); have n3_ := z1_A ((z1_18 : w.heap.size ≤ gb127)); have n4_ := z1_A ((z1_18 : w.heap.size ≤ gb127)); have n5_ := z1_A ((z1_7 : gb126 ≠ gb127)); have n6_ := z1_A ((z1_8 : gb127 ≠ gb126)); clear BK126 HB; revert n0_ n1_ n2_ n3_ n4_ n5_ n6_; intro BK126 HB BK127 GW127 GE127 NB126_127 NB127_126; clear hb hbox hg; have hnb37 := NB126_127.out; have hnc37 := NB127_126.out; have hcz38_0 : w36.cell? ⟨gb126, 0, none⟩ = some (.int .i64 a0_0) := bcz BK126.out 0 rfl; have hcz38_1 : w36.cell? ⟨gb126, 1, none⟩ = some (.slice A0_1 l0_1.length c0_1) := bcz BK126.out 1 rfl; have hcz38_2 : w36.cell? ⟨gb126, 2, none⟩ = some (.int .i64 a0_2) := bcz BK126.out 2 rfl; have hcz38_3 : w36.cell? ⟨gb126, 3, none⟩ = some (.int .i64 a0_3) := bcz BK126.out 3 rfl; have hcz38_4 : w36.cell? ⟨gb126, 4, none⟩ = some (.int .i64 a0_4) := bcz BK126.out 4 rfl; have hcz38_5 : w36.cell? ⟨gb126, 5, none⟩ = some (.int .i64 a0_5) := bcz BK126.out 5 rfl; obtain ⟨hfz38_0, hfz38_1, hfz38_2, hfz38_3⟩ := F4z (blk_frozen BK126.out); have hfz38_4 := blk_frozen BK126.out 4; have hfz38_5 := blk_frozen BK126.out 5; have hcz39_0 : w36.cell? ⟨gb127, 0, none⟩ = some (.int .i64 a1_0) := bcz BK127.out 0 rfl; have hcz39_1 : w36.cell? ⟨gb127, 1, none⟩ = some (.slice A1_1 l1_1.length c1_1) := bcz BK127.out 1 rfl; have hcz39_2 : w36.cell? ⟨gb127, 2, none⟩ = some (.int .i64 a1_2) := bcz BK127.out 2 rfl; have hcz39_3 : w36.cell? ⟨gb127, 3, none⟩ = some (.int .i64 a1_3) := bcz BK127.out 3 rfl; have hcz39_4 : w36.cell? ⟨gb127, 4, none⟩ = some (.int .i64 a1_4) := bcz BK127.out 4 rfl; have hcz39_5 : w36.cell? ⟨gb127, 5, none⟩ = some (.int .i64 a1_5) := bcz BK127.out 5 rfl; obtain ⟨hfz39_0, hfz39_1, hfz39_2, hfz39_3⟩ := F4z (blk_frozen BK127.out); have hfz39_4 := blk_frozen BK127.out 4; have hfz39_5 := blk_frozen BK127.out 5) | ((with_reducible refine gate_callee (f := 25) rfl ?_); refine goesL_ (some 14) rfl rfl Try.func25 z1_30 rfl #[.slice A0_1 l0_1.length c0_1, .slice A1_1 l1_1.length c1_1] rfl z1_4 ?_; (with_reducible refine (laws_eqIntS.calls k _ _ l0_1 _ _ l1_1 false _ ?side1 ?side2 ?side3 ?side4 A4.out).mono ?_); (case side1 => have zh := (Kd.C_below HR0_1.out HB.out); exact z1_C); (case side2 => exact HC0_1.out); (case side3 => have zh := (Kd.C_below HR1_1.out HB.out); exact z1_C); (case side4 => exact HC1_1.out); rintro e w' ⟨rfl, ⟨nd, rfl⟩⟩; refine ⟨_, rfl, ?_⟩))
   go_ret
   exact ⟨z1_6, z1_5⟩
 ·rw [if_neg c3] at H
  have c3b0 : (a0_0 == a1_0) = false := beq_eq_false_iff_ne.mpr c3
  have c3b1 : (a0_0 != a1_0) = true := bne_iff_ne.mpr c3
  obtain rfl := Option.some.inj H
  go_enter Try.func19, Try.ntmps19
  go_wp2_with (first | ((with_reducible refine gate_dst (N := 2) rfl ?_); refine box_event ?hg (N := 2) ?hd (cs := #[.int .i64 a0_0, .slice A0_1 l0_1.length c0_1, .int .i64 a0_2, .int .i64 a0_3, .int .i64 a0_4, .int .i64 a0_5]) (t := 30) ?hr ?_; (case hd => rfl); (case hg => rfl); (case hr => first | (go_simp; done) | (go_simp; rfl)); intro gb126 hg w40 hbox hb; have n0_ := z1_A (below_step z1_1 hb); have n1_ := z1_A (hbox); have n2_ := z1_A ((z1_14 : w.heap.size ≤ gb126)); have n3_ := z1_A ((z1_14 : w.heap.size ≤ gb126)); clear HB; revert n0_ n1_ n2_ n3_; intro HB BK126 GW126 GE126; clear hb hbox hg) | ((with_reducible refine gate_dst (N := 3) rfl ?_); refine box_event ?hg (N := 3) ?hd (cs := #[.int .i64 a1_0, .slice A1_1 l1_1.length c1_1, .int .i64 a1_2, .int .i64 a1_3, .int .i64 a1_4, .int .i64 a1_5]) (t := 30) ?hr ?_; (case hd => rfl); (case hg => rfl); (case hr => first | (go_simp; done) | (go_simp; rfl)); intro gb127 hg w41 hbox hb; have n0_ := z1_A (blk_below (g := gb126) (o := .cells #[.int .i64 a0_0, .slice A0_1 l0_1.length c0_1, .int .i64 a0_2, .int .i64 a0_3, .int .i64 a0_4, .int .i64 a0_5] 30 (0, 0)) z1_3 hb); have n1_ := z1_A (below_step z1_2 hb); have n2_ := z1_A (hbox); have n3_ := z1_A ((z1_18 : w.heap.size ≤ gb127)); have n4_ := z1_A ((z1_18 : w.heap.size ≤ gb127)); have n5_ := z1_A ((z1_7 : gb126 ≠ gb127)); have n6_ := z1_A ((z1_8 : gb127 ≠ gb126)); clear BK126 HB; revert n0_ n1_ n2_ n3_ n4_ n5_ n6_; intro BK126 HB BK127 GW127 GE127 NB126_127 NB127_126; clear hb hbox hg; have hnb42 := NB126_127.out; have hnc42 := NB127_126.out; have hcz43_0 : w41.cell? ⟨gb126, 0, none⟩ = some (.int .i64 a0_0) := bcz BK126.out 0 rfl; have hcz43_1 : w41.cell? ⟨gb126, 1, none⟩ = some (.slice A0_1 l0_1.length c0_1) := bcz BK126.out 1 rfl; have hcz43_2 : w41.cell? ⟨gb126, 2, none⟩ = some (.int .i64 a0_2) := bcz BK126.out 2 rfl; have hcz43_3 : w41.cell? ⟨gb126, 3, none⟩ = some (.int .i64 a0_3) := bcz BK126.out 3 rfl; have hcz43_4 : w41.cell? ⟨gb126, 4, none⟩ = some (.int .i64 a0_4) := bcz BK126.out 4 rfl; have hcz43_5 : w41.cell? ⟨gb126, 5, none⟩ = some (.int .i64 a0_5) := bcz BK126.out 5 rfl; obtain ⟨hfz43_0, hfz43_1, hfz43_2, hfz43_3⟩ := F4z (blk_frozen BK126.out); have hfz43_4 := blk_frozen BK126.out 4; have hfz43_5 := blk_frozen BK126.out 5; have hcz44_0 : w41.cell? ⟨gb127, 0, none⟩ = some (.int .i64 a1_0) := bcz BK127.out 0 rfl; have hcz44_1 : w41.cell? ⟨gb127, 1, none⟩ = some (.slice A1_1 l1_1.length c1_1) := bcz BK127.out 1 rfl; have hcz44_2 : w41.cell? ⟨gb127, 2, none⟩ = some (.int .i64 a1_2) := bcz BK127.out 2 rfl; have hcz44_3 : w41.cell? ⟨gb127, 3, none⟩ = some (.int .i64 a1_3) := bcz BK127.out 3 rfl; have hcz44_4 : w41.cell? ⟨gb127, 4, none⟩ = some (.int .i64 a1_4) := bcz BK127.out 4 rfl; have hcz44_5 : w41.cell? ⟨gb127, 5, none⟩ = some (.int .i64 a1_5) := bcz BK127.out 5 rfl; obtain ⟨hfz44_0, hfz44_1, hfz44_2, hfz44_3⟩ := F4z (blk_frozen BK127.out); have hfz44_4 := blk_frozen BK127.out 4; have hfz44_5 := blk_frozen BK127.out 5))
  go_ret
  exact ⟨z1_6, z1_5⟩

end Go.Proofs.Ytmekmkhdhakohaa.PFnExactPolicyWorth
