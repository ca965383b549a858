-- A text of this session (its program hook.py, over the kit's print.py): not a print of print.sh
-- THIN: one blank for two
import Derived.Test.YtgkjnhajomjhcaaPFnExactBestFreshx0
import Derived.Test.YtgkjnhajomjhcaaPFnExactBestFreshx4
import Derived.Test.YtgkjnhajomjhcaaPFnExactBestFreshx5
namespace Go.Proofs.Ytgkjnhajomjhcaa.PFnExactBestFresh
open Go.RowKit Go.Proofs.YtgkjnhajomjhcaaW.PrintWords Go.Proofs.YtgkjnhajomjhcaaW.PrintLast Go.Proofs.YtgkjnhajomjhcaaW.PrintMore
attribute [local go_sem] max2_int min2_int max_two min_two max_three min_three max_four min_four   -- for this text's walks alone
set_option linter.unusedVariables false
set_option linter.unusedSimpArgs false

-- SQUEEZED
theorem z6_A {p : Prop} (h : p) : Aside0 p := Aside0.mk h
theorem z6_C {p : Prop} (h : p := by repeat (first | exact zh | (with_reducible refine Kd.C_alloc ?_ _) | (with_reducible refine Kd.C_drewN ?_ _) | (with_reducible refine Kd.C_drew ?_))) : p := h
theorem z6_1 {p : Prop} (h : p := by repeat (first | (with_reducible first | exact HB.out | apply below_alloc | apply pw_below_drewN | apply below_drew1 | refine below_set ?_ GE213.out) | exact HB.out)) : p := h
theorem z6_2 {p : Prop} (h : p := by repeat (first | (with_reducible first | exact HB.out | apply below_alloc | apply pw_below_drewN | apply below_drew1) | exact HB.out)) : p := h
theorem z6_3 {p : Prop} (h : p := by repeat (first | (with_reducible first | exact HB.out | apply below_alloc | apply pw_below_drewN | apply below_drew1 | refine below_set ?_ GE230.out) | exact HB.out)) : p := h
theorem z6_4 {p : Prop} (h : p := by repeat (first | (with_reducible first | exact HB.out | apply below_alloc | apply pw_below_drewN | apply below_drew1 | refine below_set ?_ GE220.out) | exact HB.out)) : p := h
theorem z6_5 {p : Prop} (h : p := by (try simp only [List.map_toArray, List.map_cons, List.map_nil]); first | done | rfl | (simp only [List.length_drop, List.length_take]; rfl)) : p := h
theorem z6_6 {p : Prop} (h : p := by first | rfl | (simp; done) | (simp [*]; done)) : p := h
theorem z6_7 {p : Prop} (h : p := by repeat (first | (with_reducible exact HR227_0.out) | (with_reducible refine Kd.C_alloc ?_ _) | (with_reducible refine Kd.C_drewN ?_ _) | (with_reducible refine Kd.C_drew ?_) | exact HR227_0.out)) : p := h
theorem z6_8 {p : Prop} (h : p := by (with_reducible repeat (first | refine blk_drewN ?_ _ | refine blk_drew ?_ | refine blk_alloc ?_ _)); exact BK220.out) : p := h
theorem z6_9 {p : Prop} (h : p := by (with_reducible repeat (first | refine blk_drewN ?_ _ | refine blk_drew ?_ | refine blk_alloc ?_ _)); exact BK213.out) : p := h
theorem z6_10 {p : Prop} (h : p := by first | (with_reducible assumption) | assumption) : p := h
theorem z6_11 {p : Prop} (h : p := by (with_reducible repeat (first | apply Kd.R_alloc | apply Kd.R_drewN | apply Kd.R_drew)); exact HO_6.out) : p := h
theorem z6_12 {p : Prop} (h : p := by first | rfl | (simp [errW_none, errW_some] <;> rfl) | (simp [*, errW_none, errW_some] <;> rfl)) : p := h
theorem z6_13 {p : Prop} (h : p := by (with_reducible repeat (first | apply Kd.S_alloc | apply Kd.S_drewN | apply Kd.S_drew)); exact HO_16.out) : p := h
theorem z6_14 {p : Prop} (h : p := by (with_reducible repeat (first | refine blk_drewN ?_ _ | refine blk_drew ?_ | refine blk_alloc ?_ _)); exact BK230.out) : p := h
theorem z6_15 {p : Prop} (h : p := by rw [hg]; exact (below_size z6_2)) : p := h
theorem z6_16 {p : Prop} (h : p := by (with_reducible repeat (first | apply Kd.R_alloc | apply Kd.R_drewN | apply Kd.R_drew)); exact HL227_0.out) : p := h
theorem z6_17 {p : Prop} (h : p := by (with_reducible repeat (first | apply Kd.R_alloc | apply Kd.R_drewN | apply Kd.R_drew)); exact HO223.out) : p := h
theorem z6_18 {p : Prop} (h : p := by first | exact q227 | exact of_decide_eq_true z6_10 | (have e_ := (Kd.S_reads' HO_16.out).1; omega)) : p := h
theorem z6_19 {p : Prop} (h : p := by rw [if_neg (show ¬ (false = true) by decide)] at H; exact H) : p := h
theorem z6_20 {p : Prop} (h : p := by have := HK1.out; have := HK2.out; have := HK3.out; omega) : p := h
theorem z6_21 {p : Prop} (h : p := by first | exact Kd.R_nil _ _ _ _ _ | exact Kd.N_nil _ _ _ _ _ | exact Kd.V_nil _ _ _ _ _ | exact Kd.Q_nil _ _ _ _ _ | exact Kd.S_nil _ _ _ _ _) : p := h
theorem z6_22 {p : Prop} (h : p := by kernel_rfl) : p := h

/-! ### impl_Case_fresh: function 109 -/
mutual
def impl_Case_fresh.l0 : Nat → Int → List Int → Int → List Int → Int → Int → List Int → List Int → List Int → List Int → Option (Int × Bool)
 | 0, _, _, _, _, _, _, _, _, _, _ => none
 | k + 1, x1, x2, x8, x16, x17, x18, x214000, x214001, x214002, x214003 => if x18 < x17 then (if 0 ≤ x18 then (if x18 < (x16.length : Int) then (if 0 ≤ (rd x16 x18) then (if (rd x16 x18) < (x214001.length : Int) then (impl_Case_fresh.l0 k x1 x2 (wrap64 (x8 + (rd x214001 (rd x16 x18)))) x16 x17 (wrap64 (x18 + 1)) x214000 x214001 x214002 x214003) else (none)) else (none)) else (none)) else (none)) else (impl_Case_fresh.l1 k x1 x2 x8 x214000 (x214000.length : Int) 0 x214000 x214001 x214002 x214003)
def impl_Case_fresh.l1 : Nat → Int → List Int → Int → List Int → Int → Int → List Int → List Int → List Int → List Int → Option (Int × Bool)
 | 0, _, _, _, _, _, _, _, _, _, _ => none
 | k + 1, x1, x2, x8, x31, x32, x33, x214000, x214001, x214002, x214003 => if x33 < x32 then (if 0 ≤ x33 then (if x33 < (x31.length : Int) then (impl_Case_fresh.l2 k x1 x2 x8 x33 (rd x31 x33) 1099511627776 x31 x32 x33 x2 (x2.length : Int) 0 x214000 x214001 x214002 x214003) else (none)) else (none)) else (some (x8, true))
def impl_Case_fresh.l2 : Nat → Int → List Int → Int → Int → Int → Int → List Int → Int → Int → List Int → Int → Int → List Int → List Int → List Int → List Int → Option (Int × Bool)
 | 0, _, _, _, _, _, _, _, _, _, _, _, _, _, _, _, _ => none
 | k + 1, x1, x2, x8, x11, x12, x13, x31, x32, x33, x38, x39, x40, x214000, x214001, x214002, x214003 => if x40 < x39 then (if 0 ≤ x40 then (if x40 < (x38.length : Int) then ((impl_within.f (rd x38 x40) (wrap64 ((wrap64 (x11 - x1)) + 1)) x11).bind fun t218 => (if t218 = true then ((impl_Case_rate.f k x214000 x214001 x214002 x214003 (rd x38 x40) x11).bind fun t219 => (impl_Case_fresh.l2 k x1 x2 x8 x11 x12 (mn x13 t219) x31 x32 x33 x38 x39 (wrap64 (x40 + 1)) x214000 x214001 x214002 x214003)) else (impl_Case_fresh.l2 k x1 x2 x8 x11 x12 x13 x31 x32 x33 x38 x39 (wrap64 (x40 + 1)) x214000 x214001 x214002 x214003))) else (none)) else (none)) else (if x12 > 0 then (if x13 = 1099511627776 then (some (0, false)) else (impl_Case_fresh.l1 k x1 x2 (wrap64 (x8 + (wrap64 (x12 * x13)))) x31 x32 (wrap64 (x33 + 1)) x214000 x214001 x214002 x214003)) else (impl_Case_fresh.l1 k x1 x2 x8 x31 x32 (wrap64 (x33 + 1)) x214000 x214001 x214002 x214003))
end
def impl_Case_fresh.f (k : Nat) (l0_0 : List Int) (l0_1 : List Int) (l0_2 : List Int) (l0_3 : List Int) (a1 : Int) (l2 : List Int) : Option (Int × Bool) := impl_Case_fresh.l0 k a1 l2 0 l2 (l2.length : Int) 0 l0_0 l0_1 l0_2 l0_3
theorem impl_Case_fresh.mono_l : ∀ k, (∀ y0 y1 y2 y3 y4 y5 y6 y7 y8 y9, LeO (impl_Case_fresh.l0 k y0 y1 y2 y3 y4 y5 y6 y7 y8 y9) (impl_Case_fresh.l0 (k + 1) y0 y1 y2 y3 y4 y5 y6 y7 y8 y9)) ∧ (∀ y0 y1 y2 y3 y4 y5 y6 y7 y8 y9, LeO (impl_Case_fresh.l1 k y0 y1 y2 y3 y4 y5 y6 y7 y8 y9) (impl_Case_fresh.l1 (k + 1) y0 y1 y2 y3 y4 y5 y6 y7 y8 y9)) ∧ (∀ y0 y1 y2 y3 y4 y5 y6 y7 y8 y9 y10 y11 y12 y13 y14 y15, LeO (impl_Case_fresh.l2 k y0 y1 y2 y3 y4 y5 y6 y7 y8 y9 y10 y11 y12 y13 y14 y15) (impl_Case_fresh.l2 (k + 1) y0 y1 y2 y3 y4 y5 y6 y7 y8 y9 y10 y11 y12 y13 y14 y15))
 | 0 => ⟨fun _ _ _ _ _ _ _ _ _ _ r h => by simp [impl_Case_fresh.l0] at h, fun _ _ _ _ _ _ _ _ _ _ r h => by simp [impl_Case_fresh.l1] at h, fun _ _ _ _ _ _ _ _ _ _ _ _ _ _ _ _ r h => by simp [impl_Case_fresh.l2] at h⟩
 | k + 1 => by
  obtain ⟨ih0, ih1, ih2⟩ := impl_Case_fresh.mono_l k
  refine ⟨?_, ?_, ?_⟩ <;> intros <;> (first | unfold impl_Case_fresh.l0 | unfold impl_Case_fresh.l1 | unfold impl_Case_fresh.l2) <;> repeat' first
   | (with_reducible exact ih0 _ _ _ _ _ _ _ _ _ _)
   | (with_reducible exact ih1 _ _ _ _ _ _ _ _ _ _)
   | (with_reducible exact ih2 _ _ _ _ _ _ _ _ _ _ _ _ _ _ _ _)
   | (with_reducible exact impl_Case_rate.mono _ _ _ _ _ _ _)
   | (with_reducible exact LeO.refl _)
   | (with_reducible exact LeO.none _)
   | (with_reducible refine LeO.ite ?_ ?_)
   | (with_reducible refine LeO.bind ?_ (fun _ => ?_))
   | exact ih0 _ _ _ _ _ _ _ _ _ _
   | exact ih1 _ _ _ _ _ _ _ _ _ _
   | exact ih2 _ _ _ _ _ _ _ _ _ _ _ _ _ _ _ _
   | exact impl_Case_rate.mono _ _ _ _ _ _ _
   | exact LeO.none _
   | refine LeO.ite ?_ ?_
   | refine LeO.bind ?_ (fun _ => ?_)
theorem impl_Case_fresh.mono : ∀ a0 a1 a2 a3 a4 a5 k, LeO (impl_Case_fresh.f k a0 a1 a2 a3 a4 a5) (impl_Case_fresh.f (k + 1) a0 a1 a2 a3 a4 a5) := by
 intro a0 a1 a2 a3 a4 a5 k
 obtain ⟨ih0, ih1, ih2⟩ := impl_Case_fresh.mono_l k
 unfold impl_Case_fresh.f
 repeat' first
   | (with_reducible exact ih0 _ _ _ _ _ _ _ _ _ _)
   | (with_reducible exact ih1 _ _ _ _ _ _ _ _ _ _)
   | (with_reducible exact ih2 _ _ _ _ _ _ _ _ _ _ _ _ _ _ _ _)
   | (with_reducible exact impl_Case_rate.mono _ _ _ _ _ _ _)
   | (with_reducible exact LeO.refl _)
   | (with_reducible exact LeO.none _)
   | (with_reducible refine LeO.ite ?_ ?_)
   | (with_reducible refine LeO.bind ?_ (fun _ => ?_))
   | exact ih0 _ _ _ _ _ _ _ _ _ _
   | exact ih1 _ _ _ _ _ _ _ _ _ _
   | exact ih2 _ _ _ _ _ _ _ _ _ _ _ _ _ _ _ _
   | exact impl_Case_rate.mono _ _ _ _ _ _ _
   | exact LeO.none _
   | refine LeO.ite ?_ ?_
   | refine LeO.bind ?_ (fun _ => ?_)
set_option maxHeartbeats 8000000 in
set_option maxRecDepth 100000 in
theorem impl_Case_fresh.calls (k : Nat) (A0_0 : Option Addr) (c0_0 : Nat) (l0_0 : List Int) (A0_1 : Option Addr) (c0_1 : Nat) (l0_1 : List Int) (A0_2 : Option Addr) (c0_2 : Nat) (l0_2 : List Int) (A0_3 : Option Addr) (c0_3 : Nat) (l0_3 : List Int) (a1 : Int) (A2 : Option Addr) (c2 : Nat) (l2 : List Int) (r1 : Int) (r2 : Bool) (w : World) (hr0_0 : Kd.C (Kd.int .i64) w A0_0 l0_0.length l0_0) (hc0_0 : l0_0.length ≤ c0_0) (hr0_1 : Kd.C (Kd.int .i64) w A0_1 l0_1.length l0_1) (hc0_1 : l0_1.length ≤ c0_1) (hr0_2 : Kd.C (Kd.int .i64) w A0_2 l0_2.length l0_2) (hc0_2 : l0_2.length ≤ c0_2) (hr0_3 : Kd.C (Kd.int .i64) w A0_3 l0_3.length l0_3) (hc0_3 : l0_3.length ≤ c0_3) (hr2 : Kd.C (Kd.int .i64) w A2 l2.length l2) (hc2 : l2.length ≤ c2) (h : impl_Case_fresh.f k l0_0 l0_1 l0_2 l0_3 a1 l2 = some (r1, r2)) :
  Calls Try.prog 109 #[.agg #[.slice A0_0 l0_0.length c0_0, .slice A0_1 l0_1.length c0_1, .slice A0_2 l0_2.length c0_2, .slice A0_3 l0_3.length c0_3], .int .i64 a1, .slice A2 l2.length c2] w fun e w' => e = .returned (.tuple #[.int .i64 r1, .bool r2]) ∧ Below w.heap.size w w' := by
 have hu50 := Try.underlying50
 have HR0_0 := z6_A hr0_0
 have HC0_0 := z6_A hc0_0
 clear hr0_0 hc0_0
 have HR0_1 := z6_A hr0_1
 have HC0_1 := z6_A hc0_1
 clear hr0_1 hc0_1
 have HR0_2 := z6_A hr0_2
 have HC0_2 := z6_A hc0_2
 clear hr0_2 hc0_2
 have HR0_3 := z6_A hr0_3
 have HC0_3 := z6_A hc0_3
 clear hr0_3 hc0_3
 have HR2 := z6_A hr2
 have HC2 := z6_A hc2
 clear hr2 hc2
 have HB := z6_A (Below.refl w.heap.size w)
 have H : (impl_Case_fresh.l0 k a1 l2 0 l2 (l2.length : Int) 0 l0_0 l0_1 l0_2 l0_3) = some (r1, r2) := h
 clear h
 have H' := z6_A H
 clear H
 go_enter Try.func109, Try.ntmps109
 go_wp2_with (first | ((with_reducible refine gate_dst (N := 3) rfl ?_); refine box_event ?hg (N := 3) ?hd (cs := #[.slice A0_0 l0_0.length c0_0, .slice A0_1 l0_1.length c0_1, .slice A0_2 l0_2.length c0_2, .slice A0_3 l0_3.length c0_3]) (t := 50) ?hr ?_; (case hd => rfl); (case hg => rfl); (case hr => first | (go_simp; done) | (go_simp; rfl)); intro gb213 hg w4 hbox hb; have n0_ := z6_A (below_step z6_2 hb); have n1_ := z6_A (hbox); have n2_ := z6_A ((z6_15 : w.heap.size ≤ gb213)); have n3_ := z6_A ((z6_15 : w.heap.size ≤ gb213)); clear HB; revert n0_ n1_ n2_ n3_; intro HB BK213 GW213 GE213; clear hb hbox hg))
 go_loopg [8, 18] k (fun kq v8 v18 w' => ∃ (x8_1 : Int) (x18_1 : Int), v8 = .int .i64 x8_1 ∧ v18 = .int .i64 x18_1 ∧ Aside0 (impl_Case_fresh.l0 kq a1 l2 x8_1 l2 (l2.length : Int) x18_1 l0_0 l0_1 l0_2 l0_3 = some (r1, r2)) ∧ Aside0 (kq ≤ k) ∧ Aside0 (w'.heap[gb213]? = some (.cells #[(.slice A0_0 l0_0.length c0_0), (.slice A0_1 l0_1.length c0_1), (.slice A0_2 l0_2.length c0_2), (.slice A0_3 l0_3.length c0_3)] 50 (0, 0))) ∧ Aside0 (Below w.heap.size w w'))
 case atStart => exact ⟨(0), (0), z6_6, z6_6, H', ⟨Nat.le_refl _⟩, ⟨z6_9⟩, ⟨z6_1⟩⟩
 case round =>
  clear H'
  (try clear c2)
  obtain ⟨x8_1, x18_1, rfl, rfl, HA, HK1, BK213, HB⟩ := hrel
  cases gk with
  | zero => exact absurd HA.out (by simp [impl_Case_fresh.l0])
  | succ k1 =>
   have H := HA.out
   clear HA
   simp only [impl_Case_fresh.l0] at H
   by_cases c5 : x18_1 < (l2.length : Int)
   ·rw [if_pos c5] at H
    have c5b0 : decide (x18_1 < (l2.length : Int)) = true := decide_eq_true c5
    clear c5
    by_cases c6 : 0 ≤ x18_1
    ·rw [if_pos c6] at H
     have c6b0 : decide (0 ≤ x18_1) = true := decide_eq_true c6
     clear c6
     by_cases c7 : x18_1 < (l2.length : Int)
     ·rw [if_pos c7] at H
      have c7b0 : decide (x18_1 < (l2.length : Int)) = true := decide_eq_true c7
      clear c7
      by_cases c8 : 0 ≤ (rd l2 x18_1)
      ·rw [if_pos c8] at H
       have c8b0 : decide (0 ≤ (rd l2 x18_1)) = true := decide_eq_true c8
       clear c8
       by_cases c9 : (rd l2 x18_1) < (l0_1.length : Int)
       ·rw [if_pos c9] at H
        have c9b0 : decide ((rd l2 x18_1) < (l0_1.length : Int)) = true := decide_eq_true c9
        clear c9
        have H' := z6_A H
        clear H
        have p214 : 0 ≤ (x18_1 : Int) := of_decide_eq_true z6_10
        have q214 : x18_1 < (l2.length : Int) := of_decide_eq_true z6_10
        obtain ⟨ad214, e214, hx214_0⟩ := Kd.at_int HR2.out x18_1 p214 q214
        cases e214
        replace hx214_0 := (HB.out.cell (World.block_lt_of_cell? w _ hx214_0)).trans hx214_0
        replace p214 := eq_true p214
        replace q214 := eq_true q214
        have hcz10_0 : wr.cell? ⟨gb213, 0, none⟩ = some (.slice A0_0 l0_0.length c0_0) := (blk_cell BK213.out 0).trans rfl
        have hcz10_1 : wr.cell? ⟨gb213, 1, none⟩ = some (.slice A0_1 l0_1.length c0_1) := (blk_cell BK213.out 1).trans rfl
        have hcz10_2 : wr.cell? ⟨gb213, 2, none⟩ = some (.slice A0_2 l0_2.length c0_2) := (blk_cell BK213.out 2).trans rfl
        have hcz10_3 : wr.cell? ⟨gb213, 3, none⟩ = some (.slice A0_3 l0_3.length c0_3) := (blk_cell BK213.out 3).trans rfl
        have hfz10_0 := blk_frozen BK213.out 0
        have hfz10_1 := blk_frozen BK213.out 1
        have hfz10_2 := blk_frozen BK213.out 2
        have hfz10_3 := blk_frozen BK213.out 3
        have p215 : 0 ≤ ((rd l2 x18_1) : Int) := of_decide_eq_true z6_10
        have q215 : (rd l2 x18_1) < (l0_1.length : Int) := of_decide_eq_true z6_10
        obtain ⟨ad215, e215, hx215_0⟩ := Kd.at_int HR0_1.out (rd l2 x18_1) p215 q215
        cases e215
        replace hx215_0 := (HB.out.cell (World.block_lt_of_cell? w _ hx215_0)).trans hx215_0
        replace p215 := eq_true p215
        replace q215 := eq_true q215
        go_wp2
        go_roundg k1
        case measure => have := HK1.out; omega
        case rel => exact ⟨(wrap64 (x8_1 + (rd l0_1 (rd l2 x18_1)))), (wrap64 (x18_1 + 1)), z6_6, z6_6, H', ⟨by have := HK1.out; omega⟩, ⟨z6_9⟩, ⟨z6_1⟩⟩
       ·rw [if_neg c9] at H
        exact absurd H (by simp)
      ·rw [if_neg c8] at H
       exact absurd H (by simp)
     ·rw [if_neg c7] at H
      exact absurd H (by simp)
    ·rw [if_neg c6] at H
     exact absurd H (by simp)
   ·rw [if_neg c5] at H
    have c5b0 : decide (x18_1 < (l2.length : Int)) = false := decide_eq_false c5
    clear c5
    have H' := z6_A H
    clear H
    have hcz11_0 : wr.cell? ⟨gb213, 0, none⟩ = some (.slice A0_0 l0_0.length c0_0) := (blk_cell BK213.out 0).trans rfl
    have hcz11_1 : wr.cell? ⟨gb213, 1, none⟩ = some (.slice A0_1 l0_1.length c0_1) := (blk_cell BK213.out 1).trans rfl
    have hcz11_2 : wr.cell? ⟨gb213, 2, none⟩ = some (.slice A0_2 l0_2.length c0_2) := (blk_cell BK213.out 2).trans rfl
    have hcz11_3 : wr.cell? ⟨gb213, 3, none⟩ = some (.slice A0_3 l0_3.length c0_3) := (blk_cell BK213.out 3).trans rfl
    have hfz11_0 := blk_frozen BK213.out 0
    have hfz11_1 := blk_frozen BK213.out 1
    have hfz11_2 := blk_frozen BK213.out 2
    have hfz11_3 := blk_frozen BK213.out 3
    go_wp2
    go_loopg [8, 33] k1 (fun kq v8 v33 w' => ∃ (x8_2 : Int) (x33_2 : Int), v8 = .int .i64 x8_2 ∧ v33 = .int .i64 x33_2 ∧ Aside0 (impl_Case_fresh.l1 kq a1 l2 x8_2 l0_0 (l0_0.length : Int) x33_2 l0_0 l0_1 l0_2 l0_3 = some (r1, r2)) ∧ Aside0 (kq ≤ k1) ∧ Aside0 (w'.heap[gb213]? = some (.cells #[(.slice A0_0 l0_0.length c0_0), (.slice A0_1 l0_1.length c0_1), (.slice A0_2 l0_2.length c0_2), (.slice A0_3 l0_3.length c0_3)] 50 (0, 0))) ∧ Aside0 (Below w.heap.size w w'))
    case atStart => exact ⟨(x8_1), (0), z6_6, z6_6, H', ⟨Nat.le_refl _⟩, ⟨z6_9⟩, ⟨z6_1⟩⟩
    case round =>
     clear H'
     (try clear q2); (try clear hx2); (try clear c5); (try clear c5b0); (try clear c6); (try clear c6b0); (try clear p6); (try clear c7); (try clear c7b0); (try clear c8); (try clear c8b0); (try clear c9); (try clear c9b0); (try clear c10); (try clear hcz10_0); (try clear hcz10_1); (try clear hcz10_2); (try clear hcz10_3); (try clear hcz11_0); (try clear hcz11_1); (try clear hcz11_2); (try clear hcz11_3); (try clear hfz10_0); (try clear hfz10_1); (try clear hfz10_2); (try clear hfz10_3); (try clear hfz11_0); (try clear hfz11_1); (try clear hfz11_2); (try clear hfz11_3); (try clear hx214_0); (try clear hx215_0); (try clear p214); (try clear p215); (try clear q214); (try clear q215)
     obtain ⟨x8_2, x33_2, rfl, rfl, HA, HK2, BK213, HB⟩ := hrel
     cases gk with
     | zero => exact absurd HA.out (by simp [impl_Case_fresh.l1])
     | succ k2 =>
      have H := HA.out
      clear HA
      simp only [impl_Case_fresh.l1] at H
      by_cases c12 : x33_2 < (l0_0.length : Int)
      ·rw [if_pos c12] at H
       have c12b0 : decide (x33_2 < (l0_0.length : Int)) = true := decide_eq_true c12
       clear c12
       by_cases c13 : 0 ≤ x33_2
       ·rw [if_pos c13] at H
        have c13b0 : decide (0 ≤ x33_2) = true := decide_eq_true c13
        clear c13
        by_cases c14 : x33_2 < (l0_0.length : Int)
        ·rw [if_pos c14] at H
         have c14b0 : decide (x33_2 < (l0_0.length : Int)) = true := decide_eq_true c14
         clear c14
         have H' := z6_A H
         clear H
         have p216 : 0 ≤ (x33_2 : Int) := of_decide_eq_true z6_10
         have q216 : x33_2 < (l0_0.length : Int) := of_decide_eq_true z6_10
         obtain ⟨ad216, e216, hx216_0⟩ := Kd.at_int HR0_0.out x33_2 p216 q216
         cases e216
         replace hx216_0 := (HB.out.cell (World.block_lt_of_cell? w _ hx216_0)).trans hx216_0
         replace p216 := eq_true p216
         replace q216 := eq_true q216
         go_wp2
         go_loopg [13, 40] k2 (fun kq v13 v40 w' => ∃ (x13_3 : Int) (x40_3 : Int), v13 = .int .i64 x13_3 ∧ v40 = .int .i64 x40_3 ∧ Aside0 (impl_Case_fresh.l2 kq a1 l2 x8_2 x33_2 (rd l0_0 x33_2) x13_3 l0_0 (l0_0.length : Int) x33_2 l2 (l2.length : Int) x40_3 l0_0 l0_1 l0_2 l0_3 = some (r1, r2)) ∧ Aside0 (kq ≤ k2) ∧ Aside0 (w'.heap[gb213]? = some (.cells #[(.slice (some ad216) l0_0.length c0_0), (.slice A0_1 l0_1.length c0_1), (.slice A0_2 l0_2.length c0_2), (.slice A0_3 l0_3.length c0_3)] 50 (0, 0))) ∧ Aside0 (Below w.heap.size w w'))
         case atStart => exact ⟨(1099511627776), (0), z6_6, z6_6, H', ⟨Nat.le_refl _⟩, ⟨z6_9⟩, ⟨z6_1⟩⟩
         case round =>
          clear H'
          (try clear c12); (try clear c12b0); (try clear c13); (try clear c13b0); (try clear c14); (try clear c14b0); (try clear hx216_0); (try clear p216); (try clear q216)
          obtain ⟨x13_3, x40_3, rfl, rfl, HA, HK3, BK213, HB⟩ := hrel
          cases gk with
          | zero => exact absurd HA.out (by simp [impl_Case_fresh.l2])
          | succ k3 =>
           have H := HA.out
           clear HA
           simp only [impl_Case_fresh.l2] at H
           by_cases c15 : x40_3 < (l2.length : Int)
           ·rw [if_pos c15] at H
            have c15b0 : decide (x40_3 < (l2.length : Int)) = true := decide_eq_true c15
            clear c15
            by_cases c16 : 0 ≤ x40_3
            ·rw [if_pos c16] at H
             have c16b0 : decide (0 ≤ x40_3) = true := decide_eq_true c16
             clear c16
             by_cases c17 : x40_3 < (l2.length : Int)
             ·rw [if_pos c17] at H
              have c17b0 : decide (x40_3 < (l2.length : Int)) = true := decide_eq_true c17
              clear c17
              replace H := Option.bind_eq_some_iff.mp H
              obtain ⟨t218, A180, H⟩ := H
              (try dsimp only at H)
              have A18 := z6_A A180
              clear A180
              by_cases c19 : t218 = true
              ·subst c19
               have H1 : ((impl_Case_rate.f k3 l0_0 l0_1 l0_2 l0_3 (rd l2 x40_3) x33_2).bind fun t219 => (impl_Case_fresh.l2 k3 a1 l2 x8_2 x33_2 (rd l0_0 x33_2) (mn x13_3 t219) l0_0 (l0_0.length : Int) x33_2 l2 (l2.length : Int) (wrap64 (x40_3 + 1)) l0_0 l0_1 l0_2 l0_3)) = some (r1, r2) := by rw [if_pos rfl] at H; exact H
               clear H
               have H := H1
               clear H1
               replace H := Option.bind_eq_some_iff.mp H
               obtain ⟨t219, A200, H⟩ := H
               (try dsimp only at H)
               have A20 := z6_A A200
               clear A200
               obtain ⟨ji21, hji21⟩ : ∃ j_ : Int, (mn x13_3 t219) = j_ := ⟨_, rfl⟩
               replace H : (impl_Case_fresh.l2 k3 a1 l2 x8_2 x33_2 (rd l0_0 x33_2) ji21 l0_0 (l0_0.length : Int) x33_2 l2 (l2.length : Int) (wrap64 (x40_3 + 1)) l0_0 l0_1 l0_2 l0_3) = some (r1, r2) := by first | (rw [hji21] at H; exact H) | (simp only [hji21] at H ⊢; exact H)
               (try rw [hji21] at A18)
               (try rw [hji21] at A20)
               have hji21_ : (if t219 < x13_3 then t219 else x13_3) = ji21 := hji21
               have H' := z6_A H
               clear H
               have p217 : 0 ≤ (x40_3 : Int) := of_decide_eq_true z6_10
               have q217 : x40_3 < (l2.length : Int) := of_decide_eq_true z6_10
               obtain ⟨ad217, e217, hx217_0⟩ := Kd.at_int HR2.out x40_3 p217 q217
               cases e217
               replace hx217_0 := (HB.out.cell (World.block_lt_of_cell? w _ hx217_0)).trans hx217_0
               replace p217 := eq_true p217
               replace q217 := eq_true q217
               go_wp2_with (first | ((with_reducible refine gate_callee (f := 71) rfl ?_); refine goesL_ (some 50) rfl rfl Try.func71 z6_22 rfl #[.int .i64 (rd l2 x40_3), .int .i64 (wrap64 ((wrap64 (x33_2 - a1)) + 1)), .int .i64 x33_2] rfl z6_5 ?_; (with_reducible refine (impl_within.calls (rd l2 x40_3) (wrap64 ((wrap64 (x33_2 - a1)) + 1)) x33_2 true _ A18.out).mono ?_); rintro e w' ⟨rfl, ⟨nd, rfl⟩⟩; refine ⟨_, rfl, ?_⟩; have hcz22_0 : wr.cell? ⟨gb213, 0, none⟩ = some (.slice (some ad216) l0_0.length c0_0) := (blk_cell BK213.out 0).trans rfl; have hcz22_1 : wr.cell? ⟨gb213, 1, none⟩ = some (.slice A0_1 l0_1.length c0_1) := (blk_cell BK213.out 1).trans rfl; have hcz22_2 : wr.cell? ⟨gb213, 2, none⟩ = some (.slice A0_2 l0_2.length c0_2) := (blk_cell BK213.out 2).trans rfl; have hcz22_3 : wr.cell? ⟨gb213, 3, none⟩ = some (.slice A0_3 l0_3.length c0_3) := (blk_cell BK213.out 3).trans rfl; have hfz22_0 := blk_frozen BK213.out 0; have hfz22_1 := blk_frozen BK213.out 1; have hfz22_2 := blk_frozen BK213.out 2; have hfz22_3 := blk_frozen BK213.out 3) | ((with_reducible refine gate_callee (f := 119) rfl ?_); refine goesL_ (some 55) rfl rfl Try.func119 z6_22 rfl #[.agg #[.slice (some ad216) l0_0.length c0_0, .slice A0_1 l0_1.length c0_1, .slice A0_2 l0_2.length c0_2, .slice A0_3 l0_3.length c0_3], .int .i64 (rd l2 x40_3), .int .i64 x33_2] rfl z6_5 ?_; (with_reducible refine (impl_Case_rate.calls k3 _ _ l0_0 _ _ l0_1 _ _ l0_2 _ _ l0_3 (rd l2 x40_3) x33_2 t219 _ ?side1 ?side2 ?side3 ?side4 ?side5 ?side6 ?side7 ?side8 A20.out).mono ?_); (case side1 => repeat (first | exact (Kd.C_below HR0_0.out z6_1) | (with_reducible refine Kd.C_alloc ?_ _) | (with_reducible refine Kd.C_drewN ?_ _) | (with_reducible refine Kd.C_drew ?_))); (case side2 => exact HC0_0.out); (case side3 => repeat (first | exact (Kd.C_below HR0_1.out z6_1) | (with_reducible refine Kd.C_alloc ?_ _) | (with_reducible refine Kd.C_drewN ?_ _) | (with_reducible refine Kd.C_drew ?_))); (case side4 => exact HC0_1.out); (case side5 => repeat (first | exact (Kd.C_below HR0_2.out z6_1) | (with_reducible refine Kd.C_alloc ?_ _) | (with_reducible refine Kd.C_drewN ?_ _) | (with_reducible refine Kd.C_drew ?_))); (case side6 => exact HC0_2.out); (case side7 => repeat (first | exact (Kd.C_below HR0_3.out z6_1) | (with_reducible refine Kd.C_alloc ?_ _) | (with_reducible refine Kd.C_drewN ?_ _) | (with_reducible refine Kd.C_drew ?_))); (case side8 => exact HC0_3.out); rintro e w23 ⟨rfl, hb⟩; refine ⟨_, rfl, ?_⟩; have n0_ := z6_A (blk_below (g := gb213) (o := .cells #[.slice (some ad216) l0_0.length c0_0, .slice A0_1 l0_1.length c0_1, .slice A0_2 l0_2.length c0_2, .slice A0_3 l0_3.length c0_3] 50 (0, 0)) z6_9 hb); have n1_ := z6_A (below_step z6_1 hb); clear BK213 HB; revert n0_ n1_; intro BK213 HB; (try clear hb); (try clear hb2); (try clear hk); (try clear hi)))
               go_roundg k3
               case measure => have := HK1.out; have := HK2.out; have := HK3.out; omega
               case rel => exact ⟨(ji21), (wrap64 (x40_3 + 1)), (by first | rfl | (simp; done) | (simp only [← hji21] <;> (first | rfl | simp)) | (simp [*]; done)), z6_6, H', ⟨z6_20⟩, ⟨z6_9⟩, ⟨z6_1⟩⟩
              ·replace c19 := Bool.eq_false_iff.mpr c19
               subst c19
               have H1 : (impl_Case_fresh.l2 k3 a1 l2 x8_2 x33_2 (rd l0_0 x33_2) x13_3 l0_0 (l0_0.length : Int) x33_2 l2 (l2.length : Int) (wrap64 (x40_3 + 1)) l0_0 l0_1 l0_2 l0_3) = some (r1, r2) := z6_19
               clear H
               have H := H1
               clear H1
               have H' := z6_A H
               clear H
               have p217 : 0 ≤ (x40_3 : Int) := of_decide_eq_true z6_10
               have q217 : x40_3 < (l2.length : Int) := of_decide_eq_true z6_10
               obtain ⟨ad217, e217, hx217_0⟩ := Kd.at_int HR2.out x40_3 p217 q217
               cases e217
               replace hx217_0 := (HB.out.cell (World.block_lt_of_cell? w _ hx217_0)).trans hx217_0
               replace p217 := eq_true p217
               replace q217 := eq_true q217
               go_wp2_with (first | ((with_reducible refine gate_callee (f := 71) rfl ?_); refine goesL_ (some 50) rfl rfl Try.func71 z6_22 rfl #[.int .i64 (rd l2 x40_3), .int .i64 (wrap64 ((wrap64 (x33_2 - a1)) + 1)), .int .i64 x33_2] rfl z6_5 ?_; (with_reducible refine (impl_within.calls (rd l2 x40_3) (wrap64 ((wrap64 (x33_2 - a1)) + 1)) x33_2 false _ A18.out).mono ?_); rintro e w' ⟨rfl, ⟨nd, rfl⟩⟩; refine ⟨_, rfl, ?_⟩))
               go_roundg k3
               case measure => have := HK1.out; have := HK2.out; have := HK3.out; omega
               case rel => exact ⟨(x13_3), (wrap64 (x40_3 + 1)), z6_6, z6_6, H', ⟨z6_20⟩, ⟨z6_9⟩, ⟨z6_1⟩⟩
             ·rw [if_neg c17] at H
              exact absurd H (by simp)
            ·rw [if_neg c16] at H
             exact absurd H (by simp)
           ·rw [if_neg c15] at H
            have c15b0 : decide (x40_3 < (l2.length : Int)) = false := decide_eq_false c15
            clear c15
            by_cases c24 : (rd l0_0 x33_2) > 0
            ·rw [if_pos c24] at H
             have c24b0 : decide (0 < (rd l0_0 x33_2)) = true := decide_eq_true c24
             clear c24
             by_cases c25 : x13_3 = 1099511627776
             ·rw [if_pos c25] at H
              have c25b0 : (x13_3 == 1099511627776) = true := beq_iff_eq.mpr c25
              have c25b1 : (x13_3 != 1099511627776) = false := bne_eq_false_iff_eq.mpr c25
              clear c25
              simp only [Option.some.injEq, Prod.mk.injEq] at H
              obtain ⟨rfl, rfl⟩ := H
              go_wp2
              go_ret2
              exact ⟨z6_12, z6_1⟩
             ·rw [if_neg c25] at H
              have c25b0 : (x13_3 == 1099511627776) = false := beq_eq_false_iff_ne.mpr c25
              have c25b1 : (x13_3 != 1099511627776) = true := bne_iff_ne.mpr c25
              have H' := z6_A H
              clear H
              go_wp2
              go_roundg k3
              case measure => have := HK1.out; have := HK2.out; have := HK3.out; omega
              case rel => exact ⟨(wrap64 (x8_2 + (wrap64 ((rd l0_0 x33_2) * x13_3)))), (wrap64 (x33_2 + 1)), z6_6, z6_6, H', ⟨z6_20⟩, ⟨z6_9⟩, ⟨z6_1⟩⟩
            ·rw [if_neg c24] at H
             have c24b0 : decide (0 < (rd l0_0 x33_2)) = false := decide_eq_false c24
             clear c24
             have H' := z6_A H
             clear H
             go_wp2
             go_roundg k3
             case measure => have := HK1.out; have := HK2.out; have := HK3.out; omega
             case rel => exact ⟨(x8_2), (wrap64 (x33_2 + 1)), z6_6, z6_6, H', ⟨z6_20⟩, ⟨z6_9⟩, ⟨z6_1⟩⟩
        ·rw [if_neg c14] at H
         exact absurd H (by simp)
       ·rw [if_neg c13] at H
        exact absurd H (by simp)
      ·rw [if_neg c12] at H
       have c12b0 : decide (x33_2 < (l0_0.length : Int)) = false := decide_eq_false c12
       clear c12
       simp only [Option.some.injEq, Prod.mk.injEq] at H
       obtain ⟨rfl, rfl⟩ := H
       go_wp2
       go_ret2
       exact ⟨z6_12, z6_1⟩

/-! ### impl_Case_bestFresh: function 82 -/
def impl_Case_bestFresh.l0 : Nat → Int → List Int → Int → List (List Int) → Int → Int → List Int → List Int → List Int → List Int → Option (List Int × Int)
 | 0, _, _, _, _, _, _, _, _, _, _ => none
 | k + 1, x1, x6, x7, x16, x17, x18, x221000, x221001, x221002, x221003 => if x18 < x17 then (if 0 ≤ x18 then (if x18 < (x16.length : Int) then ((impl_Case_fresh.f k x221000 x221001 x221002 x221003 x1 (rd_L1 x16 x18)).bind fun bt228 => (if bt228.2 = true then (if bt228.1 < x7 then (impl_Case_bestFresh.l0 k x1 (rd_L1 x16 x18) bt228.1 x16 x17 (wrap64 (x18 + 1)) x221000 x221001 x221002 x221003) else (impl_Case_bestFresh.l0 k x1 x6 x7 x16 x17 (wrap64 (x18 + 1)) x221000 x221001 x221002 x221003)) else (impl_Case_bestFresh.l0 k x1 x6 x7 x16 x17 (wrap64 (x18 + 1)) x221000 x221001 x221002 x221003))) else (none)) else (none)) else (some (x6, x7))
def impl_Case_bestFresh.f (k : Nat) (l0_0 : List Int) (l0_1 : List Int) (l0_2 : List Int) (l0_3 : List Int) (a1 : Int) : Option (List Int × Int) := (impl_sets.f k (l0_0.length : Int)).bind fun t224 => (impl_Case_bestFresh.l0 k a1 (([] : List Int)) 1099511627776 t224 (t224.length : Int) 0 l0_0 l0_1 l0_2 l0_3)
theorem impl_Case_bestFresh.mono_l : ∀ k, (∀ y0 y1 y2 y3 y4 y5 y6 y7 y8 y9, LeO (impl_Case_bestFresh.l0 k y0 y1 y2 y3 y4 y5 y6 y7 y8 y9) (impl_Case_bestFresh.l0 (k + 1) y0 y1 y2 y3 y4 y5 y6 y7 y8 y9))
 | 0 => fun _ _ _ _ _ _ _ _ _ _ r h => by simp [impl_Case_bestFresh.l0] at h
 | k + 1 => by
  have ih0 := impl_Case_bestFresh.mono_l k
  ·intro y0 y1 y2 y3 y4 y5 y6 y7 y8 y9
   unfold impl_Case_bestFresh.l0
   repeat' first
   | (with_reducible exact ih0 _ _ _ _ _ _ _ _ _ _)
   | (with_reducible exact impl_Case_fresh.mono _ _ _ _ _ _ _)
   | (with_reducible exact impl_sets.mono _ _)
   | (with_reducible exact LeO.refl _)
   | (with_reducible exact LeO.none _)
   | (with_reducible refine LeO.ite ?_ ?_)
   | (with_reducible refine LeO.bind ?_ (fun _ => ?_))
   | exact ih0 _ _ _ _ _ _ _ _ _ _
   | exact impl_Case_fresh.mono _ _ _ _ _ _ _
   | exact impl_sets.mono _ _
   | exact LeO.none _
   | refine LeO.ite ?_ ?_
   | refine LeO.bind ?_ (fun _ => ?_)
theorem impl_Case_bestFresh.mono : ∀ a0 a1 a2 a3 a4 k, LeO (impl_Case_bestFresh.f k a0 a1 a2 a3 a4) (impl_Case_bestFresh.f (k + 1) a0 a1 a2 a3 a4) := by
 intro a0 a1 a2 a3 a4 k
 have ih0 := impl_Case_bestFresh.mono_l k
 unfold impl_Case_bestFresh.f
 repeat' first
   | (with_reducible exact ih0 _ _ _ _ _ _ _ _ _ _)
   | (with_reducible exact impl_Case_fresh.mono _ _ _ _ _ _ _)
   | (with_reducible exact impl_sets.mono _ _)
   | (with_reducible exact LeO.refl _)
   | (with_reducible exact LeO.none _)
   | (with_reducible refine LeO.ite ?_ ?_)
   | (with_reducible refine LeO.bind ?_ (fun _ => ?_))
   | exact ih0 _ _ _ _ _ _ _ _ _ _
   | exact impl_Case_fresh.mono _ _ _ _ _ _ _
   | exact impl_sets.mono _ _
   | exact LeO.none _
   | refine LeO.ite ?_ ?_
   | refine LeO.bind ?_ (fun _ => ?_)
set_option maxHeartbeats 8000000 in
set_option maxRecDepth 100000 in
theorem impl_Case_bestFresh.calls (k : Nat) (A0_0 : Option Addr) (c0_0 : Nat) (l0_0 : List Int) (A0_1 : Option Addr) (c0_1 : Nat) (l0_1 : List Int) (A0_2 : Option Addr) (c0_2 : Nat) (l0_2 : List Int) (A0_3 : Option Addr) (c0_3 : Nat) (l0_3 : List Int) (a1 : Int) (r1 : List Int) (r2 : Int) (w : World) (hr0_0 : Kd.C (Kd.int .i64) w A0_0 l0_0.length l0_0) (hc0_0 : l0_0.length ≤ c0_0) (hr0_1 : Kd.C (Kd.int .i64) w A0_1 l0_1.length l0_1) (hc0_1 : l0_1.length ≤ c0_1) (hr0_2 : Kd.C (Kd.int .i64) w A0_2 l0_2.length l0_2) (hc0_2 : l0_2.length ≤ c0_2) (hr0_3 : Kd.C (Kd.int .i64) w A0_3 l0_3.length l0_3) (hc0_3 : l0_3.length ≤ c0_3) (h : impl_Case_bestFresh.f k l0_0 l0_1 l0_2 l0_3 a1 = some (r1, r2)) :
  Calls Try.prog 82 #[.agg #[.slice A0_0 l0_0.length c0_0, .slice A0_1 l0_1.length c0_1, .slice A0_2 l0_2.length c0_2, .slice A0_3 l0_3.length c0_3], .int .i64 a1] w fun e w' => ∃ v0_ : Value, e = .returned (.tuple #[v0_, .int .i64 r2]) ∧ Kd.R (Kd.int .i64) 3 w' w.heap.size (fun _ => True) v0_ r1 ∧ Below w.heap.size w w' := by
 have hu50 := Try.underlying50
 have HR0_0 := z6_A hr0_0
 have HC0_0 := z6_A hc0_0
 clear hr0_0 hc0_0
 have HR0_1 := z6_A hr0_1
 have HC0_1 := z6_A hc0_1
 clear hr0_1 hc0_1
 have HR0_2 := z6_A hr0_2
 have HC0_2 := z6_A hc0_2
 clear hr0_2 hc0_2
 have HR0_3 := z6_A hr0_3
 have HC0_3 := z6_A hc0_3
 clear hr0_3 hc0_3
 have HB := z6_A (Below.refl w.heap.size w)
 have H : ((impl_sets.f k (l0_0.length : Int)).bind fun t224 => (impl_Case_bestFresh.l0 k a1 (([] : List Int)) 1099511627776 t224 (t224.length : Int) 0 l0_0 l0_1 l0_2 l0_3)) = some (r1, r2) := h
 clear h
 obtain ⟨y221, hy221⟩ : ∃ y_ : List Int, y_ = (([] : List Int)) := ⟨_, rfl⟩
 replace H : ((impl_sets.f k (l0_0.length : Int)).bind fun t224 => (impl_Case_bestFresh.l0 k a1 y221 1099511627776 t224 (t224.length : Int) 0 l0_0 l0_1 l0_2 l0_3)) = some (r1, r2) := by first | (rw [hy221]; with_reducible exact H) | (have H2_ := (Option.bind_some _ _).symm.trans H; rw [hy221]; with_reducible exact H2_) | (have H2_ := (Option.bind_some _ _).symm.trans H; with_reducible exact H2_) | with_reducible exact H | (rw [hy221]; exact H) | exact H
 have Ny221 := z6_A hy221
 clear hy221
 replace H := Option.bind_eq_some_iff.mp H
 obtain ⟨t224, A30, H⟩ := H
 (try dsimp only at H)
 have A3 := z6_A A30
 clear A30
 have H' := z6_A H
 clear H
 go_enter Try.func82, Try.ntmps82
 go_wp2_with (first | ((with_reducible refine gate_dst (N := 2) rfl ?_); refine box_event ?hg (N := 2) ?hd (cs := #[.slice A0_0 l0_0.length c0_0, .slice A0_1 l0_1.length c0_1, .slice A0_2 l0_2.length c0_2, .slice A0_3 l0_3.length c0_3]) (t := 50) ?hr ?_; (case hd => rfl); (case hg => rfl); (case hr => first | (go_simp; done) | (go_simp; rfl)); intro gb220 hg w4 hbox hb; have n0_ := z6_A (below_step z6_2 hb); have n1_ := z6_A (hbox); have n2_ := z6_A ((z6_15 : w.heap.size ≤ gb220)); have n3_ := z6_A ((z6_15 : w.heap.size ≤ gb220)); clear HB; revert n0_ n1_ n2_ n3_; intro HB BK220 GW220 GE220; clear hb hbox hg) | ((with_reducible refine gate_dst (N := 12) rfl ?_); refine Kd.R_lit (Kd.int .i64) _ 3 ?hg (N := 12) ?hd (xs := ([] : List Int)) (inner := []) (ok := fun _ => True) (okp := fun _ => True) ?hr ?hp (fun _ hk => hk) trivial (Below.refl _ _) (Nat.le_refl _) (by simp) ?_; (case hd => rfl); (case hg => rfl); (case hr => first | (go_simp; done) | (go_simp; rfl)); (case hp => exact (Reps.none _ _)); intro v222 w5 ho6 hb hg_ hnew_; clear hg_ hnew_; (first | rw [← Ny221.out] at ho6 | (simp only [Int.reduceToNat] at ho6; rw [← Ny221.out] at ho6)); have n0_ := z6_A (Kd.R_lower ho6 (below_size z6_4)); have n1_ := z6_A (blk_below (g := gb220) (o := .cells #[.slice A0_0 l0_0.length c0_0, .slice A0_1 l0_1.length c0_1, .slice A0_2 l0_2.length c0_2, .slice A0_3 l0_3.length c0_3] 50 (0, 0)) z6_8 hb); have n2_ := z6_A (below_step z6_4 hb); clear BK220 HB; revert n0_ n1_ n2_; intro HO223 BK220 HB; clear hb ho6; have hcz7_0 : w5.cell? ⟨gb220, 0, none⟩ = some (.slice A0_0 l0_0.length c0_0) := (blk_cell BK220.out 0).trans rfl; have hcz7_1 : w5.cell? ⟨gb220, 1, none⟩ = some (.slice A0_1 l0_1.length c0_1) := (blk_cell BK220.out 1).trans rfl; have hcz7_2 : w5.cell? ⟨gb220, 2, none⟩ = some (.slice A0_2 l0_2.length c0_2) := (blk_cell BK220.out 2).trans rfl; have hcz7_3 : w5.cell? ⟨gb220, 3, none⟩ = some (.slice A0_3 l0_3.length c0_3) := (blk_cell BK220.out 3).trans rfl; have hfz7_0 := blk_frozen BK220.out 0; have hfz7_1 := blk_frozen BK220.out 1; have hfz7_2 := blk_frozen BK220.out 2; have hfz7_3 := blk_frozen BK220.out 3) | ((with_reducible refine gate_callee (f := 76) rfl ?_); refine goesL_ (some 16) rfl rfl Try.func76 z6_22 rfl #[.int .i64 (l0_0.length : Int)] rfl z6_5 ?_; (with_reducible refine (impl_sets.calls k (l0_0.length : Int) t224 _ A3.out).mono ?_); rintro e w8 ⟨v225, rfl, ho0, hb⟩; refine ⟨_, rfl, ?_⟩; have n0_ := z6_A (Kd.R_below z6_17 hb); have n1_ := z6_A (Kd.S_lower (Kd.S_new' ho0 (Kd.R_lt z6_17)) (below_size z6_4)); have n2_ := z6_A (blk_below (g := gb220) (o := .cells #[.slice A0_0 l0_0.length c0_0, .slice A0_1 l0_1.length c0_1, .slice A0_2 l0_2.length c0_2, .slice A0_3 l0_3.length c0_3] 50 (0, 0)) z6_8 hb); have n3_ := z6_A (below_step z6_4 hb); clear HO223 BK220 HB; revert n0_ n1_ n2_ n3_; intro HO223 HO226 BK220 HB; (try clear hb); (try clear hb2); (try clear hk); (try clear hi); (try clear ho0); obtain ⟨Ao9, co9, eo9⟩ := Kd.S_slice HO226.out; subst eo9))
 go_loopg [6, 7, 18] k (fun kq v6 v7 v18 w' => ∃ (x6_1 : List Int) (x7_1 : Int) (x18_1 : Int), v7 = .int .i64 x7_1 ∧ v18 = .int .i64 x18_1 ∧ Aside0 (impl_Case_bestFresh.l0 kq a1 x6_1 x7_1 t224 (t224.length : Int) x18_1 l0_0 l0_1 l0_2 l0_3 = some (r1, r2)) ∧ Aside0 (kq ≤ k) ∧ Aside0 (Kd.R (Kd.int .i64) 3 w' w.heap.size (fun _ => True) v6 x6_1) ∧ Aside0 (Kd.S (Kd.slice 3 (Kd.int .i64)) 22 w' w.heap.size (fun _ => True) (.slice Ao9 t224.length co9) t224) ∧ Aside0 (w'.heap[gb220]? = some (.cells #[(.slice A0_0 l0_0.length c0_0), (.slice A0_1 l0_1.length c0_1), (.slice A0_2 l0_2.length c0_2), (.slice A0_3 l0_3.length c0_3)] 50 (0, 0))) ∧ Aside0 (Below w.heap.size w w'))
 case atStart => exact ⟨(y221), (1099511627776), (0), z6_6, z6_6, H', ⟨Nat.le_refl _⟩, ⟨z6_17⟩, ⟨by (with_reducible repeat (first | apply Kd.S_alloc | apply Kd.S_drewN | apply Kd.S_drew)); exact Kd.S_mono HO226.out (fun _ hk => trivial)⟩, ⟨z6_8⟩, ⟨z6_4⟩⟩
 case round =>
  clear H'
  (try clear hcz7_0); (try clear hcz7_1); (try clear hcz7_2); (try clear hcz7_3); (try clear hfz7_0); (try clear hfz7_1); (try clear hfz7_2); (try clear hfz7_3)
  obtain ⟨x6_1, x7_1, x18_1, rfl, rfl, HA, HK1, HO_6, HO_16, BK220, HB⟩ := hrel
  cases gk with
  | zero => exact absurd HA.out (by simp [impl_Case_bestFresh.l0])
  | succ k1 =>
   have H := HA.out
   clear HA
   simp only [impl_Case_bestFresh.l0] at H
   by_cases c10 : x18_1 < (t224.length : Int)
   ·rw [if_pos c10] at H
    have c10b0 : decide (x18_1 < (t224.length : Int)) = true := decide_eq_true c10
    clear c10
    by_cases c11 : 0 ≤ x18_1
    ·rw [if_pos c11] at H
     have c11b0 : decide (0 ≤ x18_1) = true := decide_eq_true c11
     clear c11
     by_cases c12 : x18_1 < (t224.length : Int)
     ·rw [if_pos c12] at H
      have c12b0 : decide (x18_1 < (t224.length : Int)) = true := decide_eq_true c12
      clear c12
      replace H := Option.bind_eq_some_iff.mp H
      obtain ⟨⟨t228, t229⟩, A130, H⟩ := H
      (try dsimp only at H)
      have A13 := z6_A A130
      clear A130
      by_cases c14 : t229 = true
      ·subst c14
       have H1 : (if t228 < x7_1 then (impl_Case_bestFresh.l0 k1 a1 (rd_L1 t224 x18_1) t228 t224 (t224.length : Int) (wrap64 (x18_1 + 1)) l0_0 l0_1 l0_2 l0_3) else (impl_Case_bestFresh.l0 k1 a1 x6_1 x7_1 t224 (t224.length : Int) (wrap64 (x18_1 + 1)) l0_0 l0_1 l0_2 l0_3)) = some (r1, r2) := by rw [if_pos rfl] at H; exact H
       clear H
       have H := H1
       clear H1
       by_cases c15 : t228 < x7_1
       ·rw [if_pos c15] at H
        have c15b0 : decide (t228 < x7_1) = true := decide_eq_true c15
        clear c15
        have H' := z6_A H
        clear H
        have p227 : 0 ≤ (x18_1 : Int) := of_decide_eq_true z6_10
        have q227 : x18_1 < (t224.length : Int) := of_decide_eq_true z6_10
        obtain ⟨ad227, A227_0, c227_0, e227, hx227_0, hl227_0, hi227_0⟩ := at_L1 (Kd.S_reads' HO_16.out).2.2 x18_1 p227 q227
        cases e227
        obtain ⟨ce227, hce227, hMe227, hcc227⟩ := Kd.S_get HO_16.out [] x18_1 p227 z6_18
        obtain ⟨ve227_0, rfl, ge227_0⟩ := hMe227
        have hv227_0 := hcc227 0 _ rfl
        rw [Nat.add_zero, show ((Kd.slice 3 (Kd.int .i64))).sz = 1 from rfl, Nat.mul_one] at hv227_0
        replace hv227_0 := Option.some.inj (hv227_0.symm.trans hx227_0)
        rw [hv227_0] at ge227_0
        have HL227_0 := z6_A (show Kd.R (Kd.int .i64) 3 _ _ _ _ (rd_L1 t224 x18_1) from ge227_0)
        clear hv227_0 ge227_0
        clear hcc227 hce227
        have HR227_0 := z6_A hi227_0
        have HC227_0 := z6_A hl227_0
        clear hi227_0 hl227_0
        replace p227 := eq_true p227
        replace q227 := eq_true q227
        have hcz16_0 : wr.cell? ⟨gb220, 0, none⟩ = some (.slice A0_0 l0_0.length c0_0) := (blk_cell BK220.out 0).trans rfl
        have hcz16_1 : wr.cell? ⟨gb220, 1, none⟩ = some (.slice A0_1 l0_1.length c0_1) := (blk_cell BK220.out 1).trans rfl
        have hcz16_2 : wr.cell? ⟨gb220, 2, none⟩ = some (.slice A0_2 l0_2.length c0_2) := (blk_cell BK220.out 2).trans rfl
        have hcz16_3 : wr.cell? ⟨gb220, 3, none⟩ = some (.slice A0_3 l0_3.length c0_3) := (blk_cell BK220.out 3).trans rfl
        have hfz16_0 := blk_frozen BK220.out 0
        have hfz16_1 := blk_frozen BK220.out 1
        have hfz16_2 := blk_frozen BK220.out 2
        have hfz16_3 := blk_frozen BK220.out 3
        go_wp2_with (first | ((with_reducible refine gate_callee (f := 109) rfl ?_); refine goesL_ (some 26) rfl rfl Try.func109 z6_22 rfl #[.agg #[.slice A0_0 l0_0.length c0_0, .slice A0_1 l0_1.length c0_1, .slice A0_2 l0_2.length c0_2, .slice A0_3 l0_3.length c0_3], .int .i64 a1, .slice A227_0 (rd_L1 t224 x18_1).length c227_0] rfl z6_5 ?_; (with_reducible refine (impl_Case_fresh.calls k1 _ _ l0_0 _ _ l0_1 _ _ l0_2 _ _ l0_3 a1 _ _ (rd_L1 t224 x18_1) t228 true _ ?side1 ?side2 ?side3 ?side4 ?side5 ?side6 ?side7 ?side8 ?side9 ?side10 A13.out).mono ?_); (case side1 => have zh := (Kd.C_below HR0_0.out HB.out); exact z6_C); (case side2 => exact HC0_0.out); (case side3 => have zh := (Kd.C_below HR0_1.out HB.out); exact z6_C); (case side4 => exact HC0_1.out); (case side5 => have zh := (Kd.C_below HR0_2.out HB.out); exact z6_C); (case side6 => exact HC0_2.out); (case side7 => have zh := (Kd.C_below HR0_3.out HB.out); exact z6_C); (case side8 => exact HC0_3.out); (case side9 => repeat (first | exact z6_7 | (with_reducible refine Kd.C_alloc ?_ _) | (with_reducible refine Kd.C_drewN ?_ _) | (with_reducible refine Kd.C_drew ?_))); (case side10 => exact HC227_0.out); rintro e w17 ⟨rfl, hb⟩; refine ⟨_, rfl, ?_⟩; have n0_ := z6_A (Kd.R_below z6_11 hb); have n1_ := z6_A (Kd.S_below z6_13 hb); have n2_ := z6_A (Kd.R_below z6_16 hb); have n3_ := z6_A (blk_below (g := gb220) (o := .cells #[.slice A0_0 l0_0.length c0_0, .slice A0_1 l0_1.length c0_1, .slice A0_2 l0_2.length c0_2, .slice A0_3 l0_3.length c0_3] 50 (0, 0)) z6_8 hb); have n4_ := z6_A (Kd.C_below z6_7 hb); have n5_ := z6_A (below_step z6_4 hb); clear HO_6 HO_16 HL227_0 BK220 HR227_0 HB; revert n0_ n1_ n2_ n3_ n4_ n5_; intro HO_6 HO_16 HL227_0 BK220 HR227_0 HB; (try clear hb); (try clear hb2); (try clear hk); (try clear hi)))
        go_roundg k1
        case measure => have := HK1.out; omega
        case rel => exact ⟨(rd_L1 t224 x18_1), (t228), (wrap64 (x18_1 + 1)), z6_6, z6_6, H', ⟨by have := HK1.out; omega⟩, ⟨by (with_reducible repeat (first | apply Kd.R_alloc | apply Kd.R_drewN | apply Kd.R_drew)); exact Kd.R_mono HL227_0.out (fun _ hk => trivial)⟩, ⟨by (with_reducible repeat (first | apply Kd.S_alloc | apply Kd.S_drewN | apply Kd.S_drew)); exact Kd.S_mono HO_16.out (fun _ hk => trivial)⟩, ⟨z6_8⟩, ⟨z6_4⟩⟩
       ·rw [if_neg c15] at H
        have c15b0 : decide (t228 < x7_1) = false := decide_eq_false c15
        clear c15
        have H' := z6_A H
        clear H
        have p227 : 0 ≤ (x18_1 : Int) := of_decide_eq_true z6_10
        have q227 : x18_1 < (t224.length : Int) := of_decide_eq_true z6_10
        obtain ⟨ad227, A227_0, c227_0, e227, hx227_0, hl227_0, hi227_0⟩ := at_L1 (Kd.S_reads' HO_16.out).2.2 x18_1 p227 q227
        cases e227
        obtain ⟨ce227, hce227, hMe227, hcc227⟩ := Kd.S_get HO_16.out [] x18_1 p227 z6_18
        obtain ⟨ve227_0, rfl, ge227_0⟩ := hMe227
        have hv227_0 := hcc227 0 _ rfl
        rw [Nat.add_zero, show ((Kd.slice 3 (Kd.int .i64))).sz = 1 from rfl, Nat.mul_one] at hv227_0
        replace hv227_0 := Option.some.inj (hv227_0.symm.trans hx227_0)
        rw [hv227_0] at ge227_0
        have HL227_0 := z6_A (show Kd.R (Kd.int .i64) 3 _ _ _ _ (rd_L1 t224 x18_1) from ge227_0)
        clear hv227_0 ge227_0
        clear hcc227 hce227
        have HR227_0 := z6_A hi227_0
        have HC227_0 := z6_A hl227_0
        clear hi227_0 hl227_0
        replace p227 := eq_true p227
        replace q227 := eq_true q227
        have hcz18_0 : wr.cell? ⟨gb220, 0, none⟩ = some (.slice A0_0 l0_0.length c0_0) := (blk_cell BK220.out 0).trans rfl
        have hcz18_1 : wr.cell? ⟨gb220, 1, none⟩ = some (.slice A0_1 l0_1.length c0_1) := (blk_cell BK220.out 1).trans rfl
        have hcz18_2 : wr.cell? ⟨gb220, 2, none⟩ = some (.slice A0_2 l0_2.length c0_2) := (blk_cell BK220.out 2).trans rfl
        have hcz18_3 : wr.cell? ⟨gb220, 3, none⟩ = some (.slice A0_3 l0_3.length c0_3) := (blk_cell BK220.out 3).trans rfl
        have hfz18_0 := blk_frozen BK220.out 0
        have hfz18_1 := blk_frozen BK220.out 1
        have hfz18_2 := blk_frozen BK220.out 2
        have hfz18_3 := blk_frozen BK220.out 3
        go_wp2_with (first | ((with_reducible refine gate_callee (f := 109) rfl ?_); refine goesL_ (some 26) rfl rfl Try.func109 z6_22 rfl #[.agg #[.slice A0_0 l0_0.length c0_0, .slice A0_1 l0_1.length c0_1, .slice A0_2 l0_2.length c0_2, .slice A0_3 l0_3.length c0_3], .int .i64 a1, .slice A227_0 (rd_L1 t224 x18_1).length c227_0] rfl z6_5 ?_; (with_reducible refine (impl_Case_fresh.calls k1 _ _ l0_0 _ _ l0_1 _ _ l0_2 _ _ l0_3 a1 _ _ (rd_L1 t224 x18_1) t228 true _ ?side1 ?side2 ?side3 ?side4 ?side5 ?side6 ?side7 ?side8 ?side9 ?side10 A13.out).mono ?_); (case side1 => have zh := (Kd.C_below HR0_0.out HB.out); exact z6_C); (case side2 => exact HC0_0.out); (case side3 => have zh := (Kd.C_below HR0_1.out HB.out); exact z6_C); (case side4 => exact HC0_1.out); (case side5 => have zh := (Kd.C_below HR0_2.out HB.out); exact z6_C); (case side6 => exact HC0_2.out); (case side7 => have zh := (Kd.C_below HR0_3.out HB.out); exact z6_C); (case side8 => exact HC0_3.out); (case side9 => repeat (first | exact z6_7 | (with_reducible refine Kd.C_alloc ?_ _) | (with_reducible refine Kd.C_drewN ?_ _) | (with_reducible refine Kd.C_drew ?_))); (case side10 => exact HC227_0.out); rintro e w19 ⟨rfl, hb⟩; refine ⟨_, rfl, ?_⟩; have n0_ := z6_A (Kd.R_below z6_11 hb); have n1_ := z6_A (Kd.S_below z6_13 hb); have n2_ := z6_A (Kd.R_below z6_16 hb); have n3_ := z6_A (blk_below (g := gb220) (o := .cells #[.slice A0_0 l0_0.length c0_0, .slice A0_1 l0_1.length c0_1, .slice A0_2 l0_2.length c0_2, .slice A0_3 l0_3.length c0_3] 50 (0, 0)) z6_8 hb); have n4_ := z6_A (Kd.C_below z6_7 hb); have n5_ := z6_A (below_step z6_4 hb); clear HO_6 HO_16 HL227_0 BK220 HR227_0 HB; revert n0_ n1_ n2_ n3_ n4_ n5_; intro HO_6 HO_16 HL227_0 BK220 HR227_0 HB; (try clear hb); (try clear hb2); (try clear hk); (try clear hi)))
        go_roundg k1
        case measure => have := HK1.out; omega
        case rel => exact ⟨(x6_1), (x7_1), (wrap64 (x18_1 + 1)), z6_6, z6_6, H', ⟨by have := HK1.out; omega⟩, ⟨z6_11⟩, ⟨z6_13⟩, ⟨z6_8⟩, ⟨z6_4⟩⟩
      ·replace c14 := Bool.eq_false_iff.mpr c14
       subst c14
       have H1 : (impl_Case_bestFresh.l0 k1 a1 x6_1 x7_1 t224 (t224.length : Int) (wrap64 (x18_1 + 1)) l0_0 l0_1 l0_2 l0_3) = some (r1, r2) := z6_19
       clear H
       have H := H1
       clear H1
       have H' := z6_A H
       clear H
       have p227 : 0 ≤ (x18_1 : Int) := of_decide_eq_true z6_10
       have q227 : x18_1 < (t224.length : Int) := of_decide_eq_true z6_10
       obtain ⟨ad227, A227_0, c227_0, e227, hx227_0, hl227_0, hi227_0⟩ := at_L1 (Kd.S_reads' HO_16.out).2.2 x18_1 p227 q227
       cases e227
       obtain ⟨ce227, hce227, hMe227, hcc227⟩ := Kd.S_get HO_16.out [] x18_1 p227 z6_18
       obtain ⟨ve227_0, rfl, ge227_0⟩ := hMe227
       have hv227_0 := hcc227 0 _ rfl
       rw [Nat.add_zero, show ((Kd.slice 3 (Kd.int .i64))).sz = 1 from rfl, Nat.mul_one] at hv227_0
       replace hv227_0 := Option.some.inj (hv227_0.symm.trans hx227_0)
       rw [hv227_0] at ge227_0
       have HL227_0 := z6_A (show Kd.R (Kd.int .i64) 3 _ _ _ _ (rd_L1 t224 x18_1) from ge227_0)
       clear hv227_0 ge227_0
       clear hcc227 hce227
       have HR227_0 := z6_A hi227_0
       have HC227_0 := z6_A hl227_0
       clear hi227_0 hl227_0
       replace p227 := eq_true p227
       replace q227 := eq_true q227
       have hcz20_0 : wr.cell? ⟨gb220, 0, none⟩ = some (.slice A0_0 l0_0.length c0_0) := (blk_cell BK220.out 0).trans rfl
       have hcz20_1 : wr.cell? ⟨gb220, 1, none⟩ = some (.slice A0_1 l0_1.length c0_1) := (blk_cell BK220.out 1).trans rfl
       have hcz20_2 : wr.cell? ⟨gb220, 2, none⟩ = some (.slice A0_2 l0_2.length c0_2) := (blk_cell BK220.out 2).trans rfl
       have hcz20_3 : wr.cell? ⟨gb220, 3, none⟩ = some (.slice A0_3 l0_3.length c0_3) := (blk_cell BK220.out 3).trans rfl
       have hfz20_0 := blk_frozen BK220.out 0
       have hfz20_1 := blk_frozen BK220.out 1
       have hfz20_2 := blk_frozen BK220.out 2
       have hfz20_3 := blk_frozen BK220.out 3
       go_wp2_with (first | ((with_reducible refine gate_callee (f := 109) rfl ?_); refine goesL_ (some 26) rfl rfl Try.func109 z6_22 rfl #[.agg #[.slice A0_0 l0_0.length c0_0, .slice A0_1 l0_1.length c0_1, .slice A0_2 l0_2.length c0_2, .slice A0_3 l0_3.length c0_3], .int .i64 a1, .slice A227_0 (rd_L1 t224 x18_1).length c227_0] rfl z6_5 ?_; (with_reducible refine (impl_Case_fresh.calls k1 _ _ l0_0 _ _ l0_1 _ _ l0_2 _ _ l0_3 a1 _ _ (rd_L1 t224 x18_1) t228 false _ ?side1 ?side2 ?side3 ?side4 ?side5 ?side6 ?side7 ?side8 ?side9 ?side10 A13.out).mono ?_); (case side1 => have zh := (Kd.C_below HR0_0.out HB.out); exact z6_C); (case side2 => exact HC0_0.out); (case side3 => have zh := (Kd.C_below HR0_1.out HB.out); exact z6_C); (case side4 => exact HC0_1.out); (case side5 => have zh := (Kd.C_below HR0_2.out HB.out); exact z6_C); (case side6 => exact HC0_2.out); (case side7 => have zh := (Kd.C_below HR0_3.out HB.out); exact z6_C); (case side8 => exact HC0_3.out); (case side9 => repeat (first | exact z6_7 | (with_reducible refine Kd.C_alloc ?_ _) | (with_reducible refine Kd.C_drewN ?_ _) | (with_reducible refine Kd.C_drew ?_))); (case side10 => exact HC227_0.out); rintro e w21 ⟨rfl, hb⟩; refine ⟨_, rfl, ?_⟩; have n0_ := z6_A (Kd.R_below z6_11 hb); have n1_ := z6_A (Kd.S_below z6_13 hb); have n2_ := z6_A (Kd.R_below z6_16 hb); have n3_ := z6_A (blk_below (g := gb220) (o := .cells #[.slice A0_0 l0_0.length c0_0, .slice A0_1 l0_1.length c0_1, .slice A0_2 l0_2.length c0_2, .slice A0_3 l0_3.length c0_3] 50 (0, 0)) z6_8 hb); have n4_ := z6_A (Kd.C_below z6_7 hb); have n5_ := z6_A (below_step z6_4 hb); clear HO_6 HO_16 HL227_0 BK220 HR227_0 HB; revert n0_ n1_ n2_ n3_ n4_ n5_; intro HO_6 HO_16 HL227_0 BK220 HR227_0 HB; (try clear hb); (try clear hb2); (try clear hk); (try clear hi)))
       go_roundg k1
       case measure => have := HK1.out; omega
       case rel => exact ⟨(x6_1), (x7_1), (wrap64 (x18_1 + 1)), z6_6, z6_6, H', ⟨by have := HK1.out; omega⟩, ⟨z6_11⟩, ⟨z6_13⟩, ⟨z6_8⟩, ⟨z6_4⟩⟩
     ·rw [if_neg c12] at H
      exact absurd H (by simp)
    ·rw [if_neg c11] at H
     exact absurd H (by simp)
   ·rw [if_neg c10] at H
    have c10b0 : decide (x18_1 < (t224.length : Int)) = false := decide_eq_false c10
    clear c10
    simp only [Option.some.injEq, Prod.mk.injEq] at H
    obtain ⟨rfl, rfl⟩ := H
    go_wp2
    go_ret2
    exact ⟨_, z6_12, z6_11, z6_4⟩

/-! ### impl_BestFresh: function 36 -/
def impl_BestFresh.f (k : Nat) (l0_0 : List Int) (l0_1 : List Int) (l0_2 : List Int) (l0_3 : List Int) (a1 : Int) : Option (List Int × Int × Bool) := (impl_IsCase.f k l0_0 l0_1 l0_2 l0_3).bind fun t231 => (if t231 = true then ((impl_isLife.f a1).bind fun t232 => (if t232 = true then ((impl_Case_bestFresh.f k l0_0 l0_1 l0_2 l0_3 a1).bind fun bt233 => (some (bt233.1, bt233.2, true))) else (some (([] : List Int), 0, false)))) else (some (([] : List Int), 0, false)))
theorem impl_BestFresh.mono : ∀ a0 a1 a2 a3 a4 k, LeO (impl_BestFresh.f k a0 a1 a2 a3 a4) (impl_BestFresh.f (k + 1) a0 a1 a2 a3 a4) := by
 intro a0 a1 a2 a3 a4 k
 unfold impl_BestFresh.f
 repeat' first
   | (with_reducible exact impl_Case_bestFresh.mono _ _ _ _ _ _)
   | (with_reducible exact impl_IsCase.mono _ _ _ _ _)
   | (with_reducible exact LeO.refl _)
   | (with_reducible exact LeO.none _)
   | (with_reducible refine LeO.ite ?_ ?_)
   | (with_reducible refine LeO.bind ?_ (fun _ => ?_))
   | exact impl_Case_bestFresh.mono _ _ _ _ _ _
   | exact impl_IsCase.mono _ _ _ _ _
   | exact LeO.none _
   | refine LeO.ite ?_ ?_
   | refine LeO.bind ?_ (fun _ => ?_)
set_option maxHeartbeats 8000000 in
set_option maxRecDepth 100000 in
theorem impl_BestFresh.calls (k : Nat) (A0_0 : Option Addr) (c0_0 : Nat) (l0_0 : List Int) (A0_1 : Option Addr) (c0_1 : Nat) (l0_1 : List Int) (A0_2 : Option Addr) (c0_2 : Nat) (l0_2 : List Int) (A0_3 : Option Addr) (c0_3 : Nat) (l0_3 : List Int) (a1 : Int) (r1 : List Int) (r2 : Int) (r3 : Bool) (w : World) (hr0_0 : Kd.C (Kd.int .i64) w A0_0 l0_0.length l0_0) (hc0_0 : l0_0.length ≤ c0_0) (hr0_1 : Kd.C (Kd.int .i64) w A0_1 l0_1.length l0_1) (hc0_1 : l0_1.length ≤ c0_1) (hr0_2 : Kd.C (Kd.int .i64) w A0_2 l0_2.length l0_2) (hc0_2 : l0_2.length ≤ c0_2) (hr0_3 : Kd.C (Kd.int .i64) w A0_3 l0_3.length l0_3) (hc0_3 : l0_3.length ≤ c0_3) (h : impl_BestFresh.f k l0_0 l0_1 l0_2 l0_3 a1 = some (r1, r2, r3)) :
  Calls Try.prog 36 #[.agg #[.slice A0_0 l0_0.length c0_0, .slice A0_1 l0_1.length c0_1, .slice A0_2 l0_2.length c0_2, .slice A0_3 l0_3.length c0_3], .int .i64 a1] w fun e w' => ∃ v0_ : Value, e = .returned (.tuple #[v0_, .int .i64 r2, .bool r3]) ∧ Kd.R (Kd.int .i64) 3 w' w.heap.size (fun _ => True) v0_ r1 ∧ Below w.heap.size w w' := by
 have hu50 := Try.underlying50
 have HR0_0 := z6_A hr0_0
 have HC0_0 := z6_A hc0_0
 clear hr0_0 hc0_0
 have HR0_1 := z6_A hr0_1
 have HC0_1 := z6_A hc0_1
 clear hr0_1 hc0_1
 have HR0_2 := z6_A hr0_2
 have HC0_2 := z6_A hc0_2
 clear hr0_2 hc0_2
 have HR0_3 := z6_A hr0_3
 have HC0_3 := z6_A hc0_3
 clear hr0_3 hc0_3
 have HB := z6_A (Below.refl w.heap.size w)
 have H : ((impl_IsCase.f k l0_0 l0_1 l0_2 l0_3).bind fun t231 => (if t231 = true then ((impl_isLife.f a1).bind fun t232 => (if t232 = true then ((impl_Case_bestFresh.f k l0_0 l0_1 l0_2 l0_3 a1).bind fun bt233 => (some (bt233.1, bt233.2, true))) else (some (([] : List Int), 0, false)))) else (some (([] : List Int), 0, false)))) = some (r1, r2, r3) := h
 clear h
 replace H := Option.bind_eq_some_iff.mp H
 obtain ⟨t231, A30, H⟩ := H
 (try dsimp only at H)
 have A3 := z6_A A30
 clear A30
 by_cases c4 : t231 = true
 ·subst c4
  have H1 : ((impl_isLife.f a1).bind fun t232 => (if t232 = true then ((impl_Case_bestFresh.f k l0_0 l0_1 l0_2 l0_3 a1).bind fun bt233 => (some (bt233.1, bt233.2, true))) else (some (([] : List Int), 0, false)))) = some (r1, r2, r3) := by rw [if_pos rfl] at H; exact H
  clear H
  have H := H1
  clear H1
  replace H := Option.bind_eq_some_iff.mp H
  obtain ⟨t232, A50, H⟩ := H
  (try dsimp only at H)
  have A5 := z6_A A50
  clear A50
  by_cases c6 : t232 = true
  ·subst c6
   have H1 : ((impl_Case_bestFresh.f k l0_0 l0_1 l0_2 l0_3 a1).bind fun bt233 => (some (bt233.1, bt233.2, true))) = some (r1, r2, r3) := by rw [if_pos rfl] at H; exact H
   clear H
   have H := H1
   clear H1
   replace H := Option.bind_eq_some_iff.mp H
   obtain ⟨⟨t233, t236⟩, A70, H⟩ := H
   (try dsimp only at H)
   have A7 := z6_A A70
   clear A70
   simp only [Option.some.injEq, Prod.mk.injEq] at H
   obtain ⟨rfl, rfl, rfl⟩ := H
   go_enter Try.func36, Try.ntmps36
   go_wp2_with (first | ((with_reducible refine gate_dst (N := 2) rfl ?_); refine box_event ?hg (N := 2) ?hd (cs := #[.slice A0_0 l0_0.length c0_0, .slice A0_1 l0_1.length c0_1, .slice A0_2 l0_2.length c0_2, .slice A0_3 l0_3.length c0_3]) (t := 50) ?hr ?_; (case hd => rfl); (case hg => rfl); (case hr => first | (go_simp; done) | (go_simp; rfl)); intro gb230 hg w8 hbox hb; have n0_ := z6_A (below_step z6_2 hb); have n1_ := z6_A (hbox); have n2_ := z6_A ((z6_15 : w.heap.size ≤ gb230)); have n3_ := z6_A ((z6_15 : w.heap.size ≤ gb230)); clear HB; revert n0_ n1_ n2_ n3_; intro HB BK230 GW230 GE230; clear hb hbox hg; have hcz9_0 : w8.cell? ⟨gb230, 0, none⟩ = some (.slice A0_0 l0_0.length c0_0) := (blk_cell BK230.out 0).trans rfl; have hcz9_1 : w8.cell? ⟨gb230, 1, none⟩ = some (.slice A0_1 l0_1.length c0_1) := (blk_cell BK230.out 1).trans rfl; have hcz9_2 : w8.cell? ⟨gb230, 2, none⟩ = some (.slice A0_2 l0_2.length c0_2) := (blk_cell BK230.out 2).trans rfl; have hcz9_3 : w8.cell? ⟨gb230, 3, none⟩ = some (.slice A0_3 l0_3.length c0_3) := (blk_cell BK230.out 3).trans rfl; have hfz9_0 := blk_frozen BK230.out 0; have hfz9_1 := blk_frozen BK230.out 1; have hfz9_2 := blk_frozen BK230.out 2; have hfz9_3 := blk_frozen BK230.out 3) | ((with_reducible refine gate_callee (f := 80) rfl ?_); refine goesL_ (some 10) rfl rfl Try.func80 z6_22 rfl #[.agg #[.slice A0_0 l0_0.length c0_0, .slice A0_1 l0_1.length c0_1, .slice A0_2 l0_2.length c0_2, .slice A0_3 l0_3.length c0_3]] rfl z6_5 ?_; (with_reducible refine (impl_IsCase.calls k _ _ l0_0 _ _ l0_1 _ _ l0_2 _ _ l0_3 true _ ?side1 ?side2 ?side3 ?side4 ?side5 ?side6 ?side7 ?side8 A3.out).mono ?_); (case side1 => have zh := (Kd.C_below HR0_0.out HB.out); exact z6_C); (case side2 => exact HC0_0.out); (case side3 => have zh := (Kd.C_below HR0_1.out HB.out); exact z6_C); (case side4 => exact HC0_1.out); (case side5 => have zh := (Kd.C_below HR0_2.out HB.out); exact z6_C); (case side6 => exact HC0_2.out); (case side7 => have zh := (Kd.C_below HR0_3.out HB.out); exact z6_C); (case side8 => exact HC0_3.out); rintro e w10 ⟨rfl, hb⟩; refine ⟨_, rfl, ?_⟩; have n0_ := z6_A (blk_below (g := gb230) (o := .cells #[.slice A0_0 l0_0.length c0_0, .slice A0_1 l0_1.length c0_1, .slice A0_2 l0_2.length c0_2, .slice A0_3 l0_3.length c0_3] 50 (0, 0)) z6_14 hb); have n1_ := z6_A (below_step z6_3 hb); clear BK230 HB; revert n0_ n1_; intro BK230 HB; (try clear hb); (try clear hb2); (try clear hk); (try clear hi)) | (go_at_call 81; (with_reducible refine (impl_isLife.calls a1 true _ A5.out).mono ?_); rintro e w' ⟨rfl, ⟨nd, rfl⟩⟩; have hcz11_0 : w10.cell? ⟨gb230, 0, none⟩ = some (.slice A0_0 l0_0.length c0_0) := (blk_cell BK230.out 0).trans rfl; have hcz11_1 : w10.cell? ⟨gb230, 1, none⟩ = some (.slice A0_1 l0_1.length c0_1) := (blk_cell BK230.out 1).trans rfl; have hcz11_2 : w10.cell? ⟨gb230, 2, none⟩ = some (.slice A0_2 l0_2.length c0_2) := (blk_cell BK230.out 2).trans rfl; have hcz11_3 : w10.cell? ⟨gb230, 3, none⟩ = some (.slice A0_3 l0_3.length c0_3) := (blk_cell BK230.out 3).trans rfl; have hfz11_0 := blk_frozen BK230.out 0; have hfz11_1 := blk_frozen BK230.out 1; have hfz11_2 := blk_frozen BK230.out 2; have hfz11_3 := blk_frozen BK230.out 3) | ((with_reducible refine gate_callee (f := 82) rfl ?_); refine goesL_ (some 20) rfl rfl Try.func82 z6_22 rfl #[.agg #[.slice A0_0 l0_0.length c0_0, .slice A0_1 l0_1.length c0_1, .slice A0_2 l0_2.length c0_2, .slice A0_3 l0_3.length c0_3], .int .i64 a1] rfl z6_5 ?_; (with_reducible refine (impl_Case_bestFresh.calls k _ _ l0_0 _ _ l0_1 _ _ l0_2 _ _ l0_3 a1 t233 t236 _ ?side1 ?side2 ?side3 ?side4 ?side5 ?side6 ?side7 ?side8 A7.out).mono ?_); (case side1 => repeat (first | exact (Kd.C_below HR0_0.out z6_3) | (with_reducible refine Kd.C_alloc ?_ _) | (with_reducible refine Kd.C_drewN ?_ _) | (with_reducible refine Kd.C_drew ?_))); (case side2 => exact HC0_0.out); (case side3 => repeat (first | exact (Kd.C_below HR0_1.out z6_3) | (with_reducible refine Kd.C_alloc ?_ _) | (with_reducible refine Kd.C_drewN ?_ _) | (with_reducible refine Kd.C_drew ?_))); (case side4 => exact HC0_1.out); (case side5 => repeat (first | exact (Kd.C_below HR0_2.out z6_3) | (with_reducible refine Kd.C_alloc ?_ _) | (with_reducible refine Kd.C_drewN ?_ _) | (with_reducible refine Kd.C_drew ?_))); (case side6 => exact HC0_2.out); (case side7 => repeat (first | exact (Kd.C_below HR0_3.out z6_3) | (with_reducible refine Kd.C_alloc ?_ _) | (with_reducible refine Kd.C_drewN ?_ _) | (with_reducible refine Kd.C_drew ?_))); (case side8 => exact HC0_3.out); rintro e w12 ⟨v234, rfl, ho0, hb⟩; refine ⟨_, rfl, ?_⟩; have n0_ := z6_A (Kd.R_lower ho0 (below_size z6_3)); have n1_ := z6_A (blk_below (g := gb230) (o := .cells #[.slice A0_0 l0_0.length c0_0, .slice A0_1 l0_1.length c0_1, .slice A0_2 l0_2.length c0_2, .slice A0_3 l0_3.length c0_3] 50 (0, 0)) z6_14 hb); have n2_ := z6_A (below_step z6_3 hb); clear BK230 HB; revert n0_ n1_ n2_; intro HO235 BK230 HB; (try clear hb); (try clear hb2); (try clear hk); (try clear hi); (try clear ho0)))
   go_ret3
   exact ⟨_, z6_12, by (with_reducible repeat (first | apply Kd.R_alloc | apply Kd.R_drewN | apply Kd.R_drew)); exact HO235.out, z6_3⟩
  ·replace c6 := Bool.eq_false_iff.mpr c6
   subst c6
   have H1 : (some (([] : List Int), 0, false)) = some (r1, r2, r3) := z6_19
   clear H
   have H := H1
   clear H1
   simp only [Option.some.injEq, Prod.mk.injEq] at H
   obtain ⟨rfl, rfl, rfl⟩ := H
   go_enter Try.func36, Try.ntmps36
   go_wp2_with (first | ((with_reducible refine gate_dst (N := 2) rfl ?_); refine box_event ?hg (N := 2) ?hd (cs := #[.slice A0_0 l0_0.length c0_0, .slice A0_1 l0_1.length c0_1, .slice A0_2 l0_2.length c0_2, .slice A0_3 l0_3.length c0_3]) (t := 50) ?hr ?_; (case hd => rfl); (case hg => rfl); (case hr => first | (go_simp; done) | (go_simp; rfl)); intro gb230 hg w13 hbox hb; have n0_ := z6_A (below_step z6_2 hb); have n1_ := z6_A (hbox); have n2_ := z6_A ((z6_15 : w.heap.size ≤ gb230)); have n3_ := z6_A ((z6_15 : w.heap.size ≤ gb230)); clear HB; revert n0_ n1_ n2_ n3_; intro HB BK230 GW230 GE230; clear hb hbox hg; have hcz14_0 : w13.cell? ⟨gb230, 0, none⟩ = some (.slice A0_0 l0_0.length c0_0) := (blk_cell BK230.out 0).trans rfl; have hcz14_1 : w13.cell? ⟨gb230, 1, none⟩ = some (.slice A0_1 l0_1.length c0_1) := (blk_cell BK230.out 1).trans rfl; have hcz14_2 : w13.cell? ⟨gb230, 2, none⟩ = some (.slice A0_2 l0_2.length c0_2) := (blk_cell BK230.out 2).trans rfl; have hcz14_3 : w13.cell? ⟨gb230, 3, none⟩ = some (.slice A0_3 l0_3.length c0_3) := (blk_cell BK230.out 3).trans rfl; have hfz14_0 := blk_frozen BK230.out 0; have hfz14_1 := blk_frozen BK230.out 1; have hfz14_2 := blk_frozen BK230.out 2; have hfz14_3 := blk_frozen BK230.out 3) | ((with_reducible refine gate_callee (f := 80) rfl ?_); refine goesL_ (some 10) rfl rfl Try.func80 z6_22 rfl #[.agg #[.slice A0_0 l0_0.length c0_0, .slice A0_1 l0_1.length c0_1, .slice A0_2 l0_2.length c0_2, .slice A0_3 l0_3.length c0_3]] rfl z6_5 ?_; (with_reducible refine (impl_IsCase.calls k _ _ l0_0 _ _ l0_1 _ _ l0_2 _ _ l0_3 true _ ?side1 ?side2 ?side3 ?side4 ?side5 ?side6 ?side7 ?side8 A3.out).mono ?_); (case side1 => have zh := (Kd.C_below HR0_0.out HB.out); exact z6_C); (case side2 => exact HC0_0.out); (case side3 => have zh := (Kd.C_below HR0_1.out HB.out); exact z6_C); (case side4 => exact HC0_1.out); (case side5 => have zh := (Kd.C_below HR0_2.out HB.out); exact z6_C); (case side6 => exact HC0_2.out); (case side7 => have zh := (Kd.C_below HR0_3.out HB.out); exact z6_C); (case side8 => exact HC0_3.out); rintro e w15 ⟨rfl, hb⟩; refine ⟨_, rfl, ?_⟩; have n0_ := z6_A (blk_below (g := gb230) (o := .cells #[.slice A0_0 l0_0.length c0_0, .slice A0_1 l0_1.length c0_1, .slice A0_2 l0_2.length c0_2, .slice A0_3 l0_3.length c0_3] 50 (0, 0)) z6_14 hb); have n1_ := z6_A (below_step z6_3 hb); clear BK230 HB; revert n0_ n1_; intro BK230 HB; (try clear hb); (try clear hb2); (try clear hk); (try clear hi)) | (go_at_call 81; (with_reducible refine (impl_isLife.calls a1 false _ A5.out).mono ?_); rintro e w' ⟨rfl, ⟨nd, rfl⟩⟩))
   go_ret3
   exact ⟨_, z6_12, z6_21, z6_3⟩
 ·replace c4 := Bool.eq_false_iff.mpr c4
  subst c4
  have H1 : (some (([] : List Int), 0, false)) = some (r1, r2, r3) := z6_19
  clear H
  have H := H1
  clear H1
  simp only [Option.some.injEq, Prod.mk.injEq] at H
  obtain ⟨rfl, rfl, rfl⟩ := H
  go_enter Try.func36, Try.ntmps36
  go_wp2_with (first | ((with_reducible refine gate_dst (N := 2) rfl ?_); refine box_event ?hg (N := 2) ?hd (cs := #[.slice A0_0 l0_0.length c0_0, .slice A0_1 l0_1.length c0_1, .slice A0_2 l0_2.length c0_2, .slice A0_3 l0_3.length c0_3]) (t := 50) ?hr ?_; (case hd => rfl); (case hg => rfl); (case hr => first | (go_simp; done) | (go_simp; rfl)); intro gb230 hg w16 hbox hb; have n0_ := z6_A (below_step z6_2 hb); have n1_ := z6_A (hbox); have n2_ := z6_A ((z6_15 : w.heap.size ≤ gb230)); have n3_ := z6_A ((z6_15 : w.heap.size ≤ gb230)); clear HB; revert n0_ n1_ n2_ n3_; intro HB BK230 GW230 GE230; clear hb hbox hg; have hcz17_0 : w16.cell? ⟨gb230, 0, none⟩ = some (.slice A0_0 l0_0.length c0_0) := (blk_cell BK230.out 0).trans rfl; have hcz17_1 : w16.cell? ⟨gb230, 1, none⟩ = some (.slice A0_1 l0_1.length c0_1) := (blk_cell BK230.out 1).trans rfl; have hcz17_2 : w16.cell? ⟨gb230, 2, none⟩ = some (.slice A0_2 l0_2.length c0_2) := (blk_cell BK230.out 2).trans rfl; have hcz17_3 : w16.cell? ⟨gb230, 3, none⟩ = some (.slice A0_3 l0_3.length c0_3) := (blk_cell BK230.out 3).trans rfl; have hfz17_0 := blk_frozen BK230.out 0; have hfz17_1 := blk_frozen BK230.out 1; have hfz17_2 := blk_frozen BK230.out 2; have hfz17_3 := blk_frozen BK230.out 3) | ((with_reducible refine gate_callee (f := 80) rfl ?_); refine goesL_ (some 10) rfl rfl Try.func80 z6_22 rfl #[.agg #[.slice A0_0 l0_0.length c0_0, .slice A0_1 l0_1.length c0_1, .slice A0_2 l0_2.length c0_2, .slice A0_3 l0_3.length c0_3]] rfl z6_5 ?_; (with_reducible refine (impl_IsCase.calls k _ _ l0_0 _ _ l0_1 _ _ l0_2 _ _ l0_3 false _ ?side1 ?side2 ?side3 ?side4 ?side5 ?side6 ?side7 ?side8 A3.out).mono ?_); (case side1 => have zh := (Kd.C_below HR0_0.out HB.out); exact z6_C); (case side2 => exact HC0_0.out); (case side3 => have zh := (Kd.C_below HR0_1.out HB.out); exact z6_C); (case side4 => exact HC0_1.out); (case side5 => have zh := (Kd.C_below HR0_2.out HB.out); exact z6_C); (case side6 => exact HC0_2.out); (case side7 => have zh := (Kd.C_below HR0_3.out HB.out); exact z6_C); (case side8 => exact HC0_3.out); rintro e w18 ⟨rfl, hb⟩; refine ⟨_, rfl, ?_⟩; have n0_ := z6_A (blk_below (g := gb230) (o := .cells #[.slice A0_0 l0_0.length c0_0, .slice A0_1 l0_1.length c0_1, .slice A0_2 l0_2.length c0_2, .slice A0_3 l0_3.length c0_3] 50 (0, 0)) z6_14 hb); have n1_ := z6_A (below_step z6_3 hb); clear BK230 HB; revert n0_ n1_; intro BK230 HB; (try clear hb); (try clear hb2); (try clear hk); (try clear hi)))
  go_ret3
  exact ⟨_, z6_12, z6_21, z6_3⟩

end Go.Proofs.Ytgkjnhajomjhcaa.PFnExactBestFresh
