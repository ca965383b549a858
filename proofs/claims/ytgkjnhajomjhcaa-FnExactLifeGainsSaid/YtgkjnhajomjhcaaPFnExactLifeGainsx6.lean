-- A text of this session (its program hook.py, over the kit's print.py): not a print of print.sh
-- THIN: one blank for two
import Derived.Test.YtgkjnhajomjhcaaPFnExactLifeGainsx0
import Derived.Test.YtgkjnhajomjhcaaPFnExactLifeGainsx4
import Derived.Test.YtgkjnhajomjhcaaPFnExactLifeGainsx5
namespace Go.Proofs.Ytgkjnhajomjhcaa.PFnExactLifeGains
open Go.RowKit Go.Proofs.YtgkjnhajomjhcaaW.PrintWords Go.Proofs.YtgkjnhajomjhcaaW.PrintLast Go.Proofs.YtgkjnhajomjhcaaW.PrintMore
attribute [local go_sem] max2_int min2_int max_two min_two max_three min_three max_four min_four   -- for this text's walks alone
set_option linter.unusedVariables false
set_option linter.unusedSimpArgs false

-- SQUEEZED
abbrev z6_V (k : Nat) (v : Value) : Prop := some k ≠ v.ownBlock
theorem z6_A {p : Prop} (h : p) : Aside0 p := Aside0.mk h
theorem z6_C {p : Prop} (h : p := by repeat (first | exact zh | (with_reducible refine Kd.C_alloc ?_ _) | (with_reducible refine Kd.C_drewN ?_ _) | (with_reducible refine Kd.C_drew ?_))) : p := h
theorem z6_1 {p : Prop} (h : p := by repeat (first | (with_reducible first | exact HB.out | apply below_alloc | apply pw_below_drewN | apply below_drew1 | refine below_set ?_ GE231.out) | exact HB.out)) : p := h
theorem z6_2 {p : Prop} (h : p := by repeat (first | (with_reducible first | exact HB.out | apply below_alloc | apply pw_below_drewN | apply below_drew1 | refine below_set ?_ GE248.out) | exact HB.out)) : p := h
theorem z6_3 {p : Prop} (h : p := by repeat (first | (with_reducible first | exact HB.out | apply below_alloc | apply pw_below_drewN | apply below_drew1 | refine below_set ?_ GE238.out) | exact HB.out)) : p := h
theorem z6_4 {p : Prop} (h : p := by repeat (first | (with_reducible first | exact HB.out | apply below_alloc | apply pw_below_drewN | apply below_drew1) | exact HB.out)) : p := h
theorem z6_5 {p : Prop} (h : p := by (try simp only [List.map_toArray, List.map_cons, List.map_nil]); first | done | rfl | (simp only [List.length_drop, List.length_take]; rfl)) : p := h
theorem z6_6 {p : Prop} (h : p := by first | rfl | (simp; done) | (simp [*]; done)) : p := h
theorem z6_7 {p : Prop} (h : p := by repeat (first | (with_reducible exact HR245_0.out) | (with_reducible refine Kd.C_alloc ?_ _) | (with_reducible refine Kd.C_drewN ?_ _) | (with_reducible refine Kd.C_drew ?_) | exact HR245_0.out)) : p := h
theorem z6_8 {p : Prop} (h : p := by (with_reducible repeat (first | refine blk_drewN ?_ _ | refine blk_drew ?_ | refine blk_alloc ?_ _)); exact BK238.out) : p := h
theorem z6_9 {p : Prop} (h : p := by (with_reducible repeat (first | refine blk_drewN ?_ _ | refine blk_drew ?_ | refine blk_alloc ?_ _)); exact BK231.out) : p := h
theorem z6_10 {p : Prop} (h : p := by first | (with_reducible assumption) | assumption) : p := h
theorem z6_11 {p : Prop} (h : p := by (with_reducible repeat (first | refine blk_drewN ?_ _ | refine blk_drew ?_ | refine blk_alloc ?_ _)); exact BK248.out) : p := h
theorem z6_12 {p : Prop} (h : p := by (with_reducible repeat (first | apply Kd.R_alloc | apply Kd.R_drewN | apply Kd.R_drew)); exact HO_6.out) : p := h
theorem z6_13 {p : Prop} (h : p := by (with_reducible repeat (first | apply Kd.S_alloc | apply Kd.S_drewN | apply Kd.S_drew)); exact HO_16.out) : p := h
theorem z6_14 {p : Prop} (h : p := by (with_reducible repeat (first | apply Kd.R_alloc | apply Kd.R_drewN | apply Kd.R_drew)); exact HO_4.out) : p := h
theorem z6_15 {p : Prop} (h : p := by first | rfl | (simp [errW_none, errW_some] <;> rfl) | (simp [*, errW_none, errW_some] <;> rfl)) : p := h
theorem z6_16 {p : Prop} (h : p := by rw [hg]; exact (below_size z6_4)) : p := h
theorem z6_17 {p : Prop} (h : p := by (with_reducible repeat (first | apply Kd.R_alloc | apply Kd.R_drewN | apply Kd.R_drew)); exact HL245_0.out) : p := h
theorem z6_18 {p : Prop} (h : p := by (with_reducible repeat (first | apply Kd.R_alloc | apply Kd.R_drewN | apply Kd.R_drew)); exact HO255.out) : p := h
theorem z6_19 {p : Prop} (h : p := by (with_reducible repeat (first | apply Kd.R_alloc | apply Kd.R_drewN | apply Kd.R_drew)); exact HO241.out) : p := h
theorem z6_20 {p : Prop} (h : p := by first | exact q245 | exact of_decide_eq_true z6_10 | (have e_ := (Kd.S_reads' HO_16.out).1; omega)) : p := h
theorem z6_21 {p : Prop} (h : p := by have := HK1.out; have := HK2.out; have := HK3.out; omega) : p := h
theorem z6_22 {p : Prop} (h : p := by rw [if_neg (show ¬ (false = true) by decide)] at H; exact H) : p := h
theorem z6_23 {p : Prop} (h : p := by kernel_rfl) : p := h
theorem z6_24 {p : Prop} (h : p := by have := HK1.out; omega) : p := h

/-! ### impl_Case_fresh: function 109 -/
mutual
def impl_Case_fresh.l0 : Nat → Int → List Int → Int → List Int → Int → Int → List Int → List Int → List Int → List Int → Option (Int × Bool)
 | 0, _, _, _, _, _, _, _, _, _, _ => none
 | k + 1, x1, x2, x8, x16, x17, x18, x232000, x232001, x232002, x232003 => if x18 < x17 then (if 0 ≤ x18 then (if x18 < (x16.length : Int) then (if 0 ≤ (rd x16 x18) then (if (rd x16 x18) < (x232001.length : Int) then (impl_Case_fresh.l0 k x1 x2 (wrap64 (x8 + (rd x232001 (rd x16 x18)))) x16 x17 (wrap64 (x18 + 1)) x232000 x232001 x232002 x232003) else (none)) else (none)) else (none)) else (none)) else (impl_Case_fresh.l1 k x1 x2 x8 x232000 (x232000.length : Int) 0 x232000 x232001 x232002 x232003)
def impl_Case_fresh.l1 : Nat → Int → List Int → Int → List Int → Int → Int → List Int → List Int → List Int → List Int → Option (Int × Bool)
 | 0, _, _, _, _, _, _, _, _, _, _ => none
 | k + 1, x1, x2, x8, x31, x32, x33, x232000, x232001, x232002, x232003 => if x33 < x32 then (if 0 ≤ x33 then (if x33 < (x31.length : Int) then (impl_Case_fresh.l2 k x1 x2 x8 x33 (rd x31 x33) 1099511627776 x31 x32 x33 x2 (x2.length : Int) 0 x232000 x232001 x232002 x232003) else (none)) else (none)) else (some (x8, true))
def impl_Case_fresh.l2 : Nat → Int → List Int → Int → Int → Int → Int → List Int → Int → Int → List Int → Int → Int → List Int → List Int → List Int → List Int → Option (Int × Bool)
 | 0, _, _, _, _, _, _, _, _, _, _, _, _, _, _, _, _ => none
 | k + 1, x1, x2, x8, x11, x12, x13, x31, x32, x33, x38, x39, x40, x232000, x232001, x232002, x232003 => if x40 < x39 then (if 0 ≤ x40 then (if x40 < (x38.length : Int) then ((impl_within.f (rd x38 x40) (wrap64 ((wrap64 (x11 - x1)) + 1)) x11).bind fun t236 => (if t236 = true then ((impl_Case_rate.f k x232000 x232001 x232002 x232003 (rd x38 x40) x11).bind fun t237 => (impl_Case_fresh.l2 k x1 x2 x8 x11 x12 (mn x13 t237) x31 x32 x33 x38 x39 (wrap64 (x40 + 1)) x232000 x232001 x232002 x232003)) else (impl_Case_fresh.l2 k x1 x2 x8 x11 x12 x13 x31 x32 x33 x38 x39 (wrap64 (x40 + 1)) x232000 x232001 x232002 x232003))) else (none)) else (none)) else (if x12 > 0 then (if x13 = 1099511627776 then (some (0, false)) else (impl_Case_fresh.l1 k x1 x2 (wrap64 (x8 + (wrap64 (x12 * x13)))) x31 x32 (wrap64 (x33 + 1)) x232000 x232001 x232002 x232003)) else (impl_Case_fresh.l1 k x1 x2 x8 x31 x32 (wrap64 (x33 + 1)) x232000 x232001 x232002 x232003))
end
def impl_Case_fresh.f (k : Nat) (l0_0 : List Int) (l0_1 : List Int) (l0_2 : List Int) (l0_3 : List Int) (a1 : Int) (l2 : List Int) : Option (Int × Bool) := impl_Case_fresh.l0 k a1 l2 0 l2 (l2.length : Int) 0 l0_0 l0_1 l0_2 l0_3
theorem impl_Case_fresh.mono_l : ∀ k, (∀ y0 y1 y2 y3 y4 y5 y6 y7 y8 y9, LeO (impl_Case_fresh.l0 k y0 y1 y2 y3 y4 y5 y6 y7 y8 y9) (impl_Case_fresh.l0 (k + 1) y0 y1 y2 y3 y4 y5 y6 y7 y8 y9)) ∧ (∀ y0 y1 y2 y3 y4 y5 y6 y7 y8 y9, LeO (impl_Case_fresh.l1 k y0 y1 y2 y3 y4 y5 y6 y7 y8 y9) (impl_Case_fresh.l1 (k + 1) y0 y1 y2 y3 y4 y5 y6 y7 y8 y9)) ∧ (∀ y0 y1 y2 y3 y4 y5 y6 y7 y8 y9 y10 y11 y12 y13 y14 y15, LeO (impl_Case_fresh.l2 k y0 y1 y2 y3 y4 y5 y6 y7 y8 y9 y10 y11 y12 y13 y14 y15) (impl_Case_fresh.l2 (k + 1) y0 y1 y2 y3 y4 y5 y6 y7 y8 y9 y10 y11 y12 y13 y14 y15))
 | 0 => ⟨fun _ _ _ _ _ _ _ _ _ _ r h => by simp [impl_Case_fresh.l0] at h, fun _ _ _ _ _ _ _ _ _ _ r h => by simp [impl_Case_fresh.l1] at h, fun _ _ _ _ _ _ _ _ _ _ _ _ _ _ _ _ r h => by simp [impl_Case_fresh.l2] at h⟩
 | k + 1 => by
  obtain ⟨ih0, ih1, ih2⟩ := impl_Case_fresh.mono_l k
  refine ⟨?_, ?_, ?_⟩ <;> intros <;> (first | unfold impl_Case_fresh.l0 | unfold impl_Case_fresh.l1 | unfold impl_Case_fresh.l2) <;> repeat' first
   | (with_reducible exact ih0 _ _ _ _ _ _ _ _ _ _)
   | (with_reducible exact ih1 _ _ _ _ _ _ _ _ _ _)
   | (with_reducible exact ih2 _ _ _ _ _ _ _ _ _ _ _ _ _ _ _ _)
   | (with_reducible exact impl_Case_rate.mono _ _ _ _ _ _ _)
   | (with_reducible exact LeO.refl _)
   | (with_reducible exact LeO.none _)
   | (with_reducible refine LeO.ite ?_ ?_)
   | (with_reducible refine LeO.bind ?_ (fun _ => ?_))
   | exact ih0 _ _ _ _ _ _ _ _ _ _
   | exact ih1 _ _ _ _ _ _ _ _ _ _
   | exact ih2 _ _ _ _ _ _ _ _ _ _ _ _ _ _ _ _
   | exact impl_Case_rate.mono _ _ _ _ _ _ _
   | exact LeO.none _
   | refine LeO.ite ?_ ?_
   | refine LeO.bind ?_ (fun _ => ?_)
theorem impl_Case_fresh.mono : ∀ a0 a1 a2 a3 a4 a5 k, LeO (impl_Case_fresh.f k a0 a1 a2 a3 a4 a5) (impl_Case_fresh.f (k + 1) a0 a1 a2 a3 a4 a5) := by
 intro a0 a1 a2 a3 a4 a5 k
 obtain ⟨ih0, ih1, ih2⟩ := impl_Case_fresh.mono_l k
 unfold impl_Case_fresh.f
 repeat' first
   | (with_reducible exact ih0 _ _ _ _ _ _ _ _ _ _)
   | (with_reducible exact ih1 _ _ _ _ _ _ _ _ _ _)
   | (with_reducible exact ih2 _ _ _ _ _ _ _ _ _ _ _ _ _ _ _ _)
   | (with_reducible exact impl_Case_rate.mono _ _ _ _ _ _ _)
   | (with_reducible exact LeO.refl _)
   | (with_reducible exact LeO.none _)
   | (with_reducible refine LeO.ite ?_ ?_)
   | (with_reducible refine LeO.bind ?_ (fun _ => ?_))
   | exact ih0 _ _ _ _ _ _ _ _ _ _
   | exact ih1 _ _ _ _ _ _ _ _ _ _
   | exact ih2 _ _ _ _ _ _ _ _ _ _ _ _ _ _ _ _
   | exact impl_Case_rate.mono _ _ _ _ _ _ _
   | exact LeO.none _
   | refine LeO.ite ?_ ?_
   | refine LeO.bind ?_ (fun _ => ?_)
set_option maxHeartbeats 8000000 in
set_option maxRecDepth 100000 in
theorem impl_Case_fresh.calls (k : Nat) (A0_0 : Option Addr) (c0_0 : Nat) (l0_0 : List Int) (A0_1 : Option Addr) (c0_1 : Nat) (l0_1 : List Int) (A0_2 : Option Addr) (c0_2 : Nat) (l0_2 : List Int) (A0_3 : Option Addr) (c0_3 : Nat) (l0_3 : List Int) (a1 : Int) (A2 : Option Addr) (c2 : Nat) (l2 : List Int) (r1 : Int) (r2 : Bool) (w : World) (hr0_0 : Kd.C (Kd.int .i64) w A0_0 l0_0.length l0_0) (hc0_0 : l0_0.length ≤ c0_0) (hr0_1 : Kd.C (Kd.int .i64) w A0_1 l0_1.length l0_1) (hc0_1 : l0_1.length ≤ c0_1) (hr0_2 : Kd.C (Kd.int .i64) w A0_2 l0_2.length l0_2) (hc0_2 : l0_2.length ≤ c0_2) (hr0_3 : Kd.C (Kd.int .i64) w A0_3 l0_3.length l0_3) (hc0_3 : l0_3.length ≤ c0_3) (hr2 : Kd.C (Kd.int .i64) w A2 l2.length l2) (hc2 : l2.length ≤ c2) (h : impl_Case_fresh.f k l0_0 l0_1 l0_2 l0_3 a1 l2 = some (r1, r2)) :
  Calls Try.prog 109 #[.agg #[.slice A0_0 l0_0.length c0_0, .slice A0_1 l0_1.length c0_1, .slice A0_2 l0_2.length c0_2, .slice A0_3 l0_3.length c0_3], .int .i64 a1, .slice A2 l2.length c2] w fun e w' => e = .returned (.tuple #[.int .i64 r1, .bool r2]) ∧ Below w.heap.size w w' := by
 have hu50 := Try.underlying50
 have HR0_0 := z6_A hr0_0
 have HC0_0 := z6_A hc0_0
 clear hr0_0 hc0_0
 have HR0_1 := z6_A hr0_1
 have HC0_1 := z6_A hc0_1
 clear hr0_1 hc0_1
 have HR0_2 := z6_A hr0_2
 have HC0_2 := z6_A hc0_2
 clear hr0_2 hc0_2
 have HR0_3 := z6_A hr0_3
 have HC0_3 := z6_A hc0_3
 clear hr0_3 hc0_3
 have HR2 := z6_A hr2
 have HC2 := z6_A hc2
 clear hr2 hc2
 have HB := z6_A (Below.refl w.heap.size w)
 have H : (impl_Case_fresh.l0 k a1 l2 0 l2 (l2.length : Int) 0 l0_0 l0_1 l0_2 l0_3) = some (r1, r2) := h
 clear h
 have H' := z6_A H
 clear H
 go_enter Try.func109, Try.ntmps109
 go_wp2_with (first | ((with_reducible refine gate_dst (N := 3) rfl ?_); refine box_event ?hg (N := 3) ?hd (cs := #[.slice A0_0 l0_0.length c0_0, .slice A0_1 l0_1.length c0_1, .slice A0_2 l0_2.length c0_2, .slice A0_3 l0_3.length c0_3]) (t := 50) ?hr ?_; (case hd => rfl); (case hg => rfl); (case hr => first | (go_simp; done) | (go_simp; rfl)); intro gb231 hg w4 hbox hb; have n0_ := z6_A (below_step z6_4 hb); have n1_ := z6_A (hbox); have n2_ := z6_A ((z6_16 : w.heap.size ≤ gb231)); have n3_ := z6_A ((z6_16 : w.heap.size ≤ gb231)); clear HB; revert n0_ n1_ n2_ n3_; intro HB BK231 GW231 GE231; clear hb hbox hg))
 go_loopg [8, 18] k (fun kq v8 v18 w' => ∃ (x8_1 : Int) (x18_1 : Int), v8 = .int .i64 x8_1 ∧ v18 = .int .i64 x18_1 ∧ Aside0 (impl_Case_fresh.l0 kq a1 l2 x8_1 l2 (l2.length : Int) x18_1 l0_0 l0_1 l0_2 l0_3 = some (r1, r2)) ∧ Aside0 (kq ≤ k) ∧ Aside0 (w'.heap[gb231]? = some (.cells #[(.slice A0_0 l0_0.length c0_0), (.slice A0_1 l0_1.length c0_1), (.slice A0_2 l0_2.length c0_2), (.slice A0_3 l0_3.length c0_3)] 50 (0, 0))) ∧ Aside0 (Below w.heap.size w w'))
 case atStart => exact ⟨(0), (0), z6_6, z6_6, H', ⟨Nat.le_refl _⟩, ⟨z6_9⟩, ⟨z6_1⟩⟩
 case round =>
  clear H'
  (try clear c2)
  obtain ⟨x8_1, x18_1, rfl, rfl, HA, HK1, BK231, HB⟩ := hrel
  cases gk with
  | zero => exact absurd HA.out (by simp [impl_Case_fresh.l0])
  | succ k1 =>
   have H := HA.out
   clear HA
   simp only [impl_Case_fresh.l0] at H
   by_cases c5 : x18_1 < (l2.length : Int)
   ·rw [if_pos c5] at H
    have c5b0 : decide (x18_1 < (l2.length : Int)) = true := decide_eq_true c5
    clear c5
    by_cases c6 : 0 ≤ x18_1
    ·rw [if_pos c6] at H
     have c6b0 : decide (0 ≤ x18_1) = true := decide_eq_true c6
     clear c6
     by_cases c7 : x18_1 < (l2.length : Int)
     ·rw [if_pos c7] at H
      have c7b0 : decide (x18_1 < (l2.length : Int)) = true := decide_eq_true c7
      clear c7
      by_cases c8 : 0 ≤ (rd l2 x18_1)
      ·rw [if_pos c8] at H
       have c8b0 : decide (0 ≤ (rd l2 x18_1)) = true := decide_eq_true c8
       clear c8
       by_cases c9 : (rd l2 x18_1) < (l0_1.length : Int)
       ·rw [if_pos c9] at H
        have c9b0 : decide ((rd l2 x18_1) < (l0_1.length : Int)) = true := decide_eq_true c9
        clear c9
        have H' := z6_A H
        clear H
        have p232 : 0 ≤ (x18_1 : Int) := of_decide_eq_true z6_10
        have q232 : x18_1 < (l2.length : Int) := of_decide_eq_true z6_10
        obtain ⟨ad232, e232, hx232_0⟩ := Kd.at_int HR2.out x18_1 p232 q232
        cases e232
        replace hx232_0 := (HB.out.cell (World.block_lt_of_cell? w _ hx232_0)).trans hx232_0
        replace p232 := eq_true p232
        replace q232 := eq_true q232
        have hcz10_0 : wr.cell? ⟨gb231, 0, none⟩ = some (.slice A0_0 l0_0.length c0_0) := (blk_cell BK231.out 0).trans rfl
        have hcz10_1 : wr.cell? ⟨gb231, 1, none⟩ = some (.slice A0_1 l0_1.length c0_1) := (blk_cell BK231.out 1).trans rfl
        have hcz10_2 : wr.cell? ⟨gb231, 2, none⟩ = some (.slice A0_2 l0_2.length c0_2) := (blk_cell BK231.out 2).trans rfl
        have hcz10_3 : wr.cell? ⟨gb231, 3, none⟩ = some (.slice A0_3 l0_3.length c0_3) := (blk_cell BK231.out 3).trans rfl
        have hfz10_0 := blk_frozen BK231.out 0
        have hfz10_1 := blk_frozen BK231.out 1
        have hfz10_2 := blk_frozen BK231.out 2
        have hfz10_3 := blk_frozen BK231.out 3
        have p233 : 0 ≤ ((rd l2 x18_1) : Int) := of_decide_eq_true z6_10
        have q233 : (rd l2 x18_1) < (l0_1.length : Int) := of_decide_eq_true z6_10
        obtain ⟨ad233, e233, hx233_0⟩ := Kd.at_int HR0_1.out (rd l2 x18_1) p233 q233
        cases e233
        replace hx233_0 := (HB.out.cell (World.block_lt_of_cell? w _ hx233_0)).trans hx233_0
        replace p233 := eq_true p233
        replace q233 := eq_true q233
        go_wp2
        go_roundg k1
        case measure => have := HK1.out; omega
        case rel => exact ⟨(wrap64 (x8_1 + (rd l0_1 (rd l2 x18_1)))), (wrap64 (x18_1 + 1)), z6_6, z6_6, H', ⟨z6_24⟩, ⟨z6_9⟩, ⟨z6_1⟩⟩
       ·rw [if_neg c9] at H
        exact absurd H (by simp)
      ·rw [if_neg c8] at H
       exact absurd H (by simp)
     ·rw [if_neg c7] at H
      exact absurd H (by simp)
    ·rw [if_neg c6] at H
     exact absurd H (by simp)
   ·rw [if_neg c5] at H
    have c5b0 : decide (x18_1 < (l2.length : Int)) = false := decide_eq_false c5
    clear c5
    have H' := z6_A H
    clear H
    have hcz11_0 : wr.cell? ⟨gb231, 0, none⟩ = some (.slice A0_0 l0_0.length c0_0) := (blk_cell BK231.out 0).trans rfl
    have hcz11_1 : wr.cell? ⟨gb231, 1, none⟩ = some (.slice A0_1 l0_1.length c0_1) := (blk_cell BK231.out 1).trans rfl
    have hcz11_2 : wr.cell? ⟨gb231, 2, none⟩ = some (.slice A0_2 l0_2.length c0_2) := (blk_cell BK231.out 2).trans rfl
    have hcz11_3 : wr.cell? ⟨gb231, 3, none⟩ = some (.slice A0_3 l0_3.length c0_3) := (blk_cell BK231.out 3).trans rfl
    have hfz11_0 := blk_frozen BK231.out 0
    have hfz11_1 := blk_frozen BK231.out 1
    have hfz11_2 := blk_frozen BK231.out 2
    have hfz11_3 := blk_frozen BK231.out 3
    go_wp2
    go_loopg [8, 33] k1 (fun kq v8 v33 w' => ∃ (x8_2 : Int) (x33_2 : Int), v8 = .int .i64 x8_2 ∧ v33 = .int .i64 x33_2 ∧ Aside0 (impl_Case_fresh.l1 kq a1 l2 x8_2 l0_0 (l0_0.length : Int) x33_2 l0_0 l0_1 l0_2 l0_3 = some (r1, r2)) ∧ Aside0 (kq ≤ k1) ∧ Aside0 (w'.heap[gb231]? = some (.cells #[(.slice A0_0 l0_0.length c0_0), (.slice A0_1 l0_1.length c0_1), (.slice A0_2 l0_2.length c0_2), (.slice A0_3 l0_3.length c0_3)] 50 (0, 0))) ∧ Aside0 (Below w.heap.size w w'))
    case atStart => exact ⟨(x8_1), (0), z6_6, z6_6, H', ⟨Nat.le_refl _⟩, ⟨z6_9⟩, ⟨z6_1⟩⟩
    case round =>
     clear H'
     (try clear q2); (try clear hx2); (try clear c5); (try clear c5b0); (try clear c6); (try clear c6b0); (try clear p6); (try clear c7); (try clear c7b0); (try clear c8); (try clear c8b0); (try clear c9); (try clear c9b0); (try clear c10); (try clear hcz10_0); (try clear hcz10_1); (try clear hcz10_2); (try clear hcz10_3); (try clear hcz11_0); (try clear hcz11_1); (try clear hcz11_2); (try clear hcz11_3); (try clear hfz10_0); (try clear hfz10_1); (try clear hfz10_2); (try clear hfz10_3); (try clear hfz11_0); (try clear hfz11_1); (try clear hfz11_2); (try clear hfz11_3); (try clear hx232_0); (try clear hx233_0); (try clear p232); (try clear p233); (try clear q232); (try clear q233)
     obtain ⟨x8_2, x33_2, rfl, rfl, HA, HK2, BK231, HB⟩ := hrel
     cases gk with
     | zero => exact absurd HA.out (by simp [impl_Case_fresh.l1])
     | succ k2 =>
      have H := HA.out
      clear HA
      simp only [impl_Case_fresh.l1] at H
      by_cases c12 : x33_2 < (l0_0.length : Int)
      ·rw [if_pos c12] at H
       have c12b0 : decide (x33_2 < (l0_0.length : Int)) = true := decide_eq_true c12
       clear c12
       by_cases c13 : 0 ≤ x33_2
       ·rw [if_pos c13] at H
        have c13b0 : decide (0 ≤ x33_2) = true := decide_eq_true c13
        clear c13
        by_cases c14 : x33_2 < (l0_0.length : Int)
        ·rw [if_pos c14] at H
         have c14b0 : decide (x33_2 < (l0_0.length : Int)) = true := decide_eq_true c14
         clear c14
         have H' := z6_A H
         clear H
         have p234 : 0 ≤ (x33_2 : Int) := of_decide_eq_true z6_10
         have q234 : x33_2 < (l0_0.length : Int) := of_decide_eq_true z6_10
         obtain ⟨ad234, e234, hx234_0⟩ := Kd.at_int HR0_0.out x33_2 p234 q234
         cases e234
         replace hx234_0 := (HB.out.cell (World.block_lt_of_cell? w _ hx234_0)).trans hx234_0
         replace p234 := eq_true p234
         replace q234 := eq_true q234
         go_wp2
         go_loopg [13, 40] k2 (fun kq v13 v40 w' => ∃ (x13_3 : Int) (x40_3 : Int), v13 = .int .i64 x13_3 ∧ v40 = .int .i64 x40_3 ∧ Aside0 (impl_Case_fresh.l2 kq a1 l2 x8_2 x33_2 (rd l0_0 x33_2) x13_3 l0_0 (l0_0.length : Int) x33_2 l2 (l2.length : Int) x40_3 l0_0 l0_1 l0_2 l0_3 = some (r1, r2)) ∧ Aside0 (kq ≤ k2) ∧ Aside0 (w'.heap[gb231]? = some (.cells #[(.slice (some ad234) l0_0.length c0_0), (.slice A0_1 l0_1.length c0_1), (.slice A0_2 l0_2.length c0_2), (.slice A0_3 l0_3.length c0_3)] 50 (0, 0))) ∧ Aside0 (Below w.heap.size w w'))
         case atStart => exact ⟨(1099511627776), (0), z6_6, z6_6, H', ⟨Nat.le_refl _⟩, ⟨z6_9⟩, ⟨z6_1⟩⟩
         case round =>
          clear H'
          (try clear c12); (try clear c12b0); (try clear c13); (try clear c13b0); (try clear c14); (try clear c14b0); (try clear hx234_0); (try clear p234); (try clear q234)
          obtain ⟨x13_3, x40_3, rfl, rfl, HA, HK3, BK231, HB⟩ := hrel
          cases gk with
          | zero => exact absurd HA.out (by simp [impl_Case_fresh.l2])
          | succ k3 =>
           have H := HA.out
           clear HA
           simp only [impl_Case_fresh.l2] at H
           by_cases c15 : x40_3 < (l2.length : Int)
           ·rw [if_pos c15] at H
            have c15b0 : decide (x40_3 < (l2.length : Int)) = true := decide_eq_true c15
            clear c15
            by_cases c16 : 0 ≤ x40_3
            ·rw [if_pos c16] at H
             have c16b0 : decide (0 ≤ x40_3) = true := decide_eq_true c16
             clear c16
             by_cases c17 : x40_3 < (l2.length : Int)
             ·rw [if_pos c17] at H
              have c17b0 : decide (x40_3 < (l2.length : Int)) = true := decide_eq_true c17
              clear c17
              replace H := Option.bind_eq_some_iff.mp H
              obtain ⟨t236, A180, H⟩ := H
              (try dsimp only at H)
              have A18 := z6_A A180
              clear A180
              by_cases c19 : t236 = true
              ·subst c19
               have H1 : ((impl_Case_rate.f k3 l0_0 l0_1 l0_2 l0_3 (rd l2 x40_3) x33_2).bind fun t237 => (impl_Case_fresh.l2 k3 a1 l2 x8_2 x33_2 (rd l0_0 x33_2) (mn x13_3 t237) l0_0 (l0_0.length : Int) x33_2 l2 (l2.length : Int) (wrap64 (x40_3 + 1)) l0_0 l0_1 l0_2 l0_3)) = some (r1, r2) := by rw [if_pos rfl] at H; exact H
               clear H
               have H := H1
               clear H1
               replace H := Option.bind_eq_some_iff.mp H
               obtain ⟨t237, A200, H⟩ := H
               (try dsimp only at H)
               have A20 := z6_A A200
               clear A200
               obtain ⟨ji21, hji21⟩ : ∃ j_ : Int, (mn x13_3 t237) = j_ := ⟨_, rfl⟩
               replace H : (impl_Case_fresh.l2 k3 a1 l2 x8_2 x33_2 (rd l0_0 x33_2) ji21 l0_0 (l0_0.length : Int) x33_2 l2 (l2.length : Int) (wrap64 (x40_3 + 1)) l0_0 l0_1 l0_2 l0_3) = some (r1, r2) := by first | (rw [hji21] at H; exact H) | (simp only [hji21] at H ⊢; exact H)
               (try rw [hji21] at A18)
               (try rw [hji21] at A20)
               have hji21_ : (if t237 < x13_3 then t237 else x13_3) = ji21 := hji21
               have H' := z6_A H
               clear H
               have p235 : 0 ≤ (x40_3 : Int) := of_decide_eq_true z6_10
               have q235 : x40_3 < (l2.length : Int) := of_decide_eq_true z6_10
               obtain ⟨ad235, e235, hx235_0⟩ := Kd.at_int HR2.out x40_3 p235 q235
               cases e235
               replace hx235_0 := (HB.out.cell (World.block_lt_of_cell? w _ hx235_0)).trans hx235_0
               replace p235 := eq_true p235
               replace q235 := eq_true q235
               go_wp2_with (first | ((with_reducible refine gate_callee (f := 71) rfl ?_); refine goesL_ (some 50) rfl rfl Try.func71 z6_23 rfl #[.int .i64 (rd l2 x40_3), .int .i64 (wrap64 ((wrap64 (x33_2 - a1)) + 1)), .int .i64 x33_2] rfl z6_5 ?_; (with_reducible refine (impl_within.calls (rd l2 x40_3) (wrap64 ((wrap64 (x33_2 - a1)) + 1)) x33_2 true _ A18.out).mono ?_); rintro e w' ⟨rfl, ⟨nd, rfl⟩⟩; refine ⟨_, rfl, ?_⟩; have hcz22_0 : wr.cell? ⟨gb231, 0, none⟩ = some (.slice (some ad234) l0_0.length c0_0) := (blk_cell BK231.out 0).trans rfl; have hcz22_1 : wr.cell? ⟨gb231, 1, none⟩ = some (.slice A0_1 l0_1.length c0_1) := (blk_cell BK231.out 1).trans rfl; have hcz22_2 : wr.cell? ⟨gb231, 2, none⟩ = some (.slice A0_2 l0_2.length c0_2) := (blk_cell BK231.out 2).trans rfl; have hcz22_3 : wr.cell? ⟨gb231, 3, none⟩ = some (.slice A0_3 l0_3.length c0_3) := (blk_cell BK231.out 3).trans rfl; have hfz22_0 := blk_frozen BK231.out 0; have hfz22_1 := blk_frozen BK231.out 1; have hfz22_2 := blk_frozen BK231.out 2; have hfz22_3 := blk_frozen BK231.out 3) | ((with_reducible refine gate_callee (f := 119) rfl ?_); refine goesL_ (some 55) rfl rfl Try.func119 z6_23 rfl #[.agg #[.slice (some ad234) l0_0.length c0_0, .slice A0_1 l0_1.length c0_1, .slice A0_2 l0_2.length c0_2, .slice A0_3 l0_3.length c0_3], .int .i64 (rd l2 x40_3), .int .i64 x33_2] rfl z6_5 ?_; (with_reducible refine (impl_Case_rate.calls k3 _ _ l0_0 _ _ l0_1 _ _ l0_2 _ _ l0_3 (rd l2 x40_3) x33_2 t237 _ ?side1 ?side2 ?side3 ?side4 ?side5 ?side6 ?side7 ?side8 A20.out).mono ?_); (case side1 => repeat (first | exact (Kd.C_below HR0_0.out z6_1) | (with_reducible refine Kd.C_alloc ?_ _) | (with_reducible refine Kd.C_drewN ?_ _) | (with_reducible refine Kd.C_drew ?_))); (case side2 => exact HC0_0.out); (case side3 => repeat (first | exact (Kd.C_below HR0_1.out z6_1) | (with_reducible refine Kd.C_alloc ?_ _) | (with_reducible refine Kd.C_drewN ?_ _) | (with_reducible refine Kd.C_drew ?_))); (case side4 => exact HC0_1.out); (case side5 => repeat (first | exact (Kd.C_below HR0_2.out z6_1) | (with_reducible refine Kd.C_alloc ?_ _) | (with_reducible refine Kd.C_drewN ?_ _) | (with_reducible refine Kd.C_drew ?_))); (case side6 => exact HC0_2.out); (case side7 => repeat (first | exact (Kd.C_below HR0_3.out z6_1) | (with_reducible refine Kd.C_alloc ?_ _) | (with_reducible refine Kd.C_drewN ?_ _) | (with_reducible refine Kd.C_drew ?_))); (case side8 => exact HC0_3.out); rintro e w23 ⟨rfl, hb⟩; refine ⟨_, rfl, ?_⟩; have n0_ := z6_A (blk_below (g := gb231) (o := .cells #[.slice (some ad234) l0_0.length c0_0, .slice A0_1 l0_1.length c0_1, .slice A0_2 l0_2.length c0_2, .slice A0_3 l0_3.length c0_3] 50 (0, 0)) z6_9 hb); have n1_ := z6_A (below_step z6_1 hb); clear BK231 HB; revert n0_ n1_; intro BK231 HB; (try clear hb); (try clear hb2); (try clear hk); (try clear hi)))
               go_roundg k3
               case measure => have := HK1.out; have := HK2.out; have := HK3.out; omega
               case rel => exact ⟨(ji21), (wrap64 (x40_3 + 1)), (by first | rfl | (simp; done) | (simp only [← hji21] <;> (first | rfl | simp)) | (simp [*]; done)), z6_6, H', ⟨z6_21⟩, ⟨z6_9⟩, ⟨z6_1⟩⟩
              ·replace c19 := Bool.eq_false_iff.mpr c19
               subst c19
               have H1 : (impl_Case_fresh.l2 k3 a1 l2 x8_2 x33_2 (rd l0_0 x33_2) x13_3 l0_0 (l0_0.length : Int) x33_2 l2 (l2.length : Int) (wrap64 (x40_3 + 1)) l0_0 l0_1 l0_2 l0_3) = some (r1, r2) := z6_22
               clear H
               have H := H1
               clear H1
               have H' := z6_A H
               clear H
               have p235 : 0 ≤ (x40_3 : Int) := of_decide_eq_true z6_10
               have q235 : x40_3 < (l2.length : Int) := of_decide_eq_true z6_10
               obtain ⟨ad235, e235, hx235_0⟩ := Kd.at_int HR2.out x40_3 p235 q235
               cases e235
               replace hx235_0 := (HB.out.cell (World.block_lt_of_cell? w _ hx235_0)).trans hx235_0
               replace p235 := eq_true p235
               replace q235 := eq_true q235
               go_wp2_with (first | ((with_reducible refine gate_callee (f := 71) rfl ?_); refine goesL_ (some 50) rfl rfl Try.func71 z6_23 rfl #[.int .i64 (rd l2 x40_3), .int .i64 (wrap64 ((wrap64 (x33_2 - a1)) + 1)), .int .i64 x33_2] rfl z6_5 ?_; (with_reducible refine (impl_within.calls (rd l2 x40_3) (wrap64 ((wrap64 (x33_2 - a1)) + 1)) x33_2 false _ A18.out).mono ?_); rintro e w' ⟨rfl, ⟨nd, rfl⟩⟩; refine ⟨_, rfl, ?_⟩))
               go_roundg k3
               case measure => have := HK1.out; have := HK2.out; have := HK3.out; omega
               case rel => exact ⟨(x13_3), (wrap64 (x40_3 + 1)), z6_6, z6_6, H', ⟨z6_21⟩, ⟨z6_9⟩, ⟨z6_1⟩⟩
             ·rw [if_neg c17] at H
              exact absurd H (by simp)
            ·rw [if_neg c16] at H
             exact absurd H (by simp)
           ·rw [if_neg c15] at H
            have c15b0 : decide (x40_3 < (l2.length : Int)) = false := decide_eq_false c15
            clear c15
            by_cases c24 : (rd l0_0 x33_2) > 0
            ·rw [if_pos c24] at H
             have c24b0 : decide (0 < (rd l0_0 x33_2)) = true := decide_eq_true c24
             clear c24
             by_cases c25 : x13_3 = 1099511627776
             ·rw [if_pos c25] at H
              have c25b0 : (x13_3 == 1099511627776) = true := beq_iff_eq.mpr c25
              have c25b1 : (x13_3 != 1099511627776) = false := bne_eq_false_iff_eq.mpr c25
              clear c25
              simp only [Option.some.injEq, Prod.mk.injEq] at H
              obtain ⟨rfl, rfl⟩ := H
              go_wp2
              go_ret2
              exact ⟨z6_15, z6_1⟩
             ·rw [if_neg c25] at H
              have c25b0 : (x13_3 == 1099511627776) = false := beq_eq_false_iff_ne.mpr c25
              have c25b1 : (x13_3 != 1099511627776) = true := bne_iff_ne.mpr c25
              have H' := z6_A H
              clear H
              go_wp2
              go_roundg k3
              case measure => have := HK1.out; have := HK2.out; have := HK3.out; omega
              case rel => exact ⟨(wrap64 (x8_2 + (wrap64 ((rd l0_0 x33_2) * x13_3)))), (wrap64 (x33_2 + 1)), z6_6, z6_6, H', ⟨z6_21⟩, ⟨z6_9⟩, ⟨z6_1⟩⟩
            ·rw [if_neg c24] at H
             have c24b0 : decide (0 < (rd l0_0 x33_2)) = false := decide_eq_false c24
             clear c24
             have H' := z6_A H
             clear H
             go_wp2
             go_roundg k3
             case measure => have := HK1.out; have := HK2.out; have := HK3.out; omega
             case rel => exact ⟨(x8_2), (wrap64 (x33_2 + 1)), z6_6, z6_6, H', ⟨z6_21⟩, ⟨z6_9⟩, ⟨z6_1⟩⟩
        ·rw [if_neg c14] at H
         exact absurd H (by simp)
       ·rw [if_neg c13] at H
        exact absurd H (by simp)
      ·rw [if_neg c12] at H
       have c12b0 : decide (x33_2 < (l0_0.length : Int)) = false := decide_eq_false c12
       clear c12
       simp only [Option.some.injEq, Prod.mk.injEq] at H
       obtain ⟨rfl, rfl⟩ := H
       go_wp2
       go_ret2
       exact ⟨z6_15, z6_1⟩

/-! ### impl_Case_bestFresh: function 82 -/
def impl_Case_bestFresh.l0 : Nat → Int → List Int → Int → List (List Int) → Int → Int → List Int → List Int → List Int → List Int → Option (List Int × Int)
 | 0, _, _, _, _, _, _, _, _, _, _ => none
 | k + 1, x1, x6, x7, x16, x17, x18, x239000, x239001, x239002, x239003 => if x18 < x17 then (if 0 ≤ x18 then (if x18 < (x16.length : Int) then ((impl_Case_fresh.f k x239000 x239001 x239002 x239003 x1 (rd_L1 x16 x18)).bind fun bt246 => (if bt246.2 = true then (if bt246.1 < x7 then (impl_Case_bestFresh.l0 k x1 (rd_L1 x16 x18) bt246.1 x16 x17 (wrap64 (x18 + 1)) x239000 x239001 x239002 x239003) else (impl_Case_bestFresh.l0 k x1 x6 x7 x16 x17 (wrap64 (x18 + 1)) x239000 x239001 x239002 x239003)) else (impl_Case_bestFresh.l0 k x1 x6 x7 x16 x17 (wrap64 (x18 + 1)) x239000 x239001 x239002 x239003))) else (none)) else (none)) else (some (x6, x7))
def impl_Case_bestFresh.f (k : Nat) (l0_0 : List Int) (l0_1 : List Int) (l0_2 : List Int) (l0_3 : List Int) (a1 : Int) : Option (List Int × Int) := (impl_sets.f k (l0_0.length : Int)).bind fun t242 => (impl_Case_bestFresh.l0 k a1 (([] : List Int)) 1099511627776 t242 (t242.length : Int) 0 l0_0 l0_1 l0_2 l0_3)
theorem impl_Case_bestFresh.mono_l : ∀ k, (∀ y0 y1 y2 y3 y4 y5 y6 y7 y8 y9, LeO (impl_Case_bestFresh.l0 k y0 y1 y2 y3 y4 y5 y6 y7 y8 y9) (impl_Case_bestFresh.l0 (k + 1) y0 y1 y2 y3 y4 y5 y6 y7 y8 y9))
 | 0 => fun _ _ _ _ _ _ _ _ _ _ r h => by simp [impl_Case_bestFresh.l0] at h
 | k + 1 => by
  have ih0 := impl_Case_bestFresh.mono_l k
  ·intro y0 y1 y2 y3 y4 y5 y6 y7 y8 y9
   unfold impl_Case_bestFresh.l0
   repeat' first
   | (with_reducible exact ih0 _ _ _ _ _ _ _ _ _ _)
   | (with_reducible exact impl_Case_fresh.mono _ _ _ _ _ _ _)
   | (with_reducible exact impl_sets.mono _ _)
   | (with_reducible exact LeO.refl _)
   | (with_reducible exact LeO.none _)
   | (with_reducible refine LeO.ite ?_ ?_)
   | (with_reducible refine LeO.bind ?_ (fun _ => ?_))
   | exact ih0 _ _ _ _ _ _ _ _ _ _
   | exact impl_Case_fresh.mono _ _ _ _ _ _ _
   | exact impl_sets.mono _ _
   | exact LeO.none _
   | refine LeO.ite ?_ ?_
   | refine LeO.bind ?_ (fun _ => ?_)
theorem impl_Case_bestFresh.mono : ∀ a0 a1 a2 a3 a4 k, LeO (impl_Case_bestFresh.f k a0 a1 a2 a3 a4) (impl_Case_bestFresh.f (k + 1) a0 a1 a2 a3 a4) := by
 intro a0 a1 a2 a3 a4 k
 have ih0 := impl_Case_bestFresh.mono_l k
 unfold impl_Case_bestFresh.f
 repeat' first
   | (with_reducible exact ih0 _ _ _ _ _ _ _ _ _ _)
   | (with_reducible exact impl_Case_fresh.mono _ _ _ _ _ _ _)
   | (with_reducible exact impl_sets.mono _ _)
   | (with_reducible exact LeO.refl _)
   | (with_reducible exact LeO.none _)
   | (with_reducible refine LeO.ite ?_ ?_)
   | (with_reducible refine LeO.bind ?_ (fun _ => ?_))
   | exact ih0 _ _ _ _ _ _ _ _ _ _
   | exact impl_Case_fresh.mono _ _ _ _ _ _ _
   | exact impl_sets.mono _ _
   | exact LeO.none _
   | refine LeO.ite ?_ ?_
   | refine LeO.bind ?_ (fun _ => ?_)
set_option maxHeartbeats 8000000 in
set_option maxRecDepth 100000 in
theorem impl_Case_bestFresh.calls (k : Nat) (A0_0 : Option Addr) (c0_0 : Nat) (l0_0 : List Int) (A0_1 : Option Addr) (c0_1 : Nat) (l0_1 : List Int) (A0_2 : Option Addr) (c0_2 : Nat) (l0_2 : List Int) (A0_3 : Option Addr) (c0_3 : Nat) (l0_3 : List Int) (a1 : Int) (r1 : List Int) (r2 : Int) (w : World) (hr0_0 : Kd.C (Kd.int .i64) w A0_0 l0_0.length l0_0) (hc0_0 : l0_0.length ≤ c0_0) (hr0_1 : Kd.C (Kd.int .i64) w A0_1 l0_1.length l0_1) (hc0_1 : l0_1.length ≤ c0_1) (hr0_2 : Kd.C (Kd.int .i64) w A0_2 l0_2.length l0_2) (hc0_2 : l0_2.length ≤ c0_2) (hr0_3 : Kd.C (Kd.int .i64) w A0_3 l0_3.length l0_3) (hc0_3 : l0_3.length ≤ c0_3) (h : impl_Case_bestFresh.f k l0_0 l0_1 l0_2 l0_3 a1 = some (r1, r2)) :
  Calls Try.prog 82 #[.agg #[.slice A0_0 l0_0.length c0_0, .slice A0_1 l0_1.length c0_1, .slice A0_2 l0_2.length c0_2, .slice A0_3 l0_3.length c0_3], .int .i64 a1] w fun e w' => ∃ v0_ : Value, e = .returned (.tuple #[v0_, .int .i64 r2]) ∧ Kd.R (Kd.int .i64) 3 w' w.heap.size (fun _ => True) v0_ r1 ∧ Below w.heap.size w w' := by
 have hu50 := Try.underlying50
 have HR0_0 := z6_A hr0_0
 have HC0_0 := z6_A hc0_0
 clear hr0_0 hc0_0
 have HR0_1 := z6_A hr0_1
 have HC0_1 := z6_A hc0_1
 clear hr0_1 hc0_1
 have HR0_2 := z6_A hr0_2
 have HC0_2 := z6_A hc0_2
 clear hr0_2 hc0_2
 have HR0_3 := z6_A hr0_3
 have HC0_3 := z6_A hc0_3
 clear hr0_3 hc0_3
 have HB := z6_A (Below.refl w.heap.size w)
 have H : ((impl_sets.f k (l0_0.length : Int)).bind fun t242 => (impl_Case_bestFresh.l0 k a1 (([] : List Int)) 1099511627776 t242 (t242.length : Int) 0 l0_0 l0_1 l0_2 l0_3)) = some (r1, r2) := h
 clear h
 obtain ⟨y239, hy239⟩ : ∃ y_ : List Int, y_ = (([] : List Int)) := ⟨_, rfl⟩
 replace H : ((impl_sets.f k (l0_0.length : Int)).bind fun t242 => (impl_Case_bestFresh.l0 k a1 y239 1099511627776 t242 (t242.length : Int) 0 l0_0 l0_1 l0_2 l0_3)) = some (r1, r2) := by first | (rw [hy239]; with_reducible exact H) | (have H2_ := (Option.bind_some _ _).symm.trans H; rw [hy239]; with_reducible exact H2_) | (have H2_ := (Option.bind_some _ _).symm.trans H; with_reducible exact H2_) | with_reducible exact H | (rw [hy239]; exact H) | exact H
 have Ny239 := z6_A hy239
 clear hy239
 replace H := Option.bind_eq_some_iff.mp H
 obtain ⟨t242, A30, H⟩ := H
 (try dsimp only at H)
 have A3 := z6_A A30
 clear A30
 have H' := z6_A H
 clear H
 go_enter Try.func82, Try.ntmps82
 go_wp2_with (first | ((with_reducible refine gate_dst (N := 2) rfl ?_); refine box_event ?hg (N := 2) ?hd (cs := #[.slice A0_0 l0_0.length c0_0, .slice A0_1 l0_1.length c0_1, .slice A0_2 l0_2.length c0_2, .slice A0_3 l0_3.length c0_3]) (t := 50) ?hr ?_; (case hd => rfl); (case hg => rfl); (case hr => first | (go_simp; done) | (go_simp; rfl)); intro gb238 hg w4 hbox hb; have n0_ := z6_A (below_step z6_4 hb); have n1_ := z6_A (hbox); have n2_ := z6_A ((z6_16 : w.heap.size ≤ gb238)); have n3_ := z6_A ((z6_16 : w.heap.size ≤ gb238)); clear HB; revert n0_ n1_ n2_ n3_; intro HB BK238 GW238 GE238; clear hb hbox hg) | ((with_reducible refine gate_dst (N := 12) rfl ?_); refine Kd.R_lit (Kd.int .i64) _ 3 ?hg (N := 12) ?hd (xs := ([] : List Int)) (inner := []) (ok := fun _ => True) (okp := fun _ => True) ?hr ?hp (fun _ hk => hk) trivial (Below.refl _ _) (Nat.le_refl _) (by simp) ?_; (case hd => rfl); (case hg => rfl); (case hr => first | (go_simp; done) | (go_simp; rfl)); (case hp => exact (Reps.none _ _)); intro v240 w5 ho6 hb hg_ hnew_; clear hg_ hnew_; (first | rw [← Ny239.out] at ho6 | (simp only [Int.reduceToNat] at ho6; rw [← Ny239.out] at ho6)); have n0_ := z6_A (Kd.R_lower ho6 (below_size z6_3)); have n1_ := z6_A (blk_below (g := gb238) (o := .cells #[.slice A0_0 l0_0.length c0_0, .slice A0_1 l0_1.length c0_1, .slice A0_2 l0_2.length c0_2, .slice A0_3 l0_3.length c0_3] 50 (0, 0)) z6_8 hb); have n2_ := z6_A (below_step z6_3 hb); clear BK238 HB; revert n0_ n1_ n2_; intro HO241 BK238 HB; clear hb ho6; have hcz7_0 : w5.cell? ⟨gb238, 0, none⟩ = some (.slice A0_0 l0_0.length c0_0) := (blk_cell BK238.out 0).trans rfl; have hcz7_1 : w5.cell? ⟨gb238, 1, none⟩ = some (.slice A0_1 l0_1.length c0_1) := (blk_cell BK238.out 1).trans rfl; have hcz7_2 : w5.cell? ⟨gb238, 2, none⟩ = some (.slice A0_2 l0_2.length c0_2) := (blk_cell BK238.out 2).trans rfl; have hcz7_3 : w5.cell? ⟨gb238, 3, none⟩ = some (.slice A0_3 l0_3.length c0_3) := (blk_cell BK238.out 3).trans rfl; have hfz7_0 := blk_frozen BK238.out 0; have hfz7_1 := blk_frozen BK238.out 1; have hfz7_2 := blk_frozen BK238.out 2; have hfz7_3 := blk_frozen BK238.out 3) | ((with_reducible refine gate_callee (f := 76) rfl ?_); refine goesL_ (some 16) rfl rfl Try.func76 z6_23 rfl #[.int .i64 (l0_0.length : Int)] rfl z6_5 ?_; (with_reducible refine (impl_sets.calls k (l0_0.length : Int) t242 _ A3.out).mono ?_); rintro e w8 ⟨v243, rfl, ho0, hb⟩; refine ⟨_, rfl, ?_⟩; have n0_ := z6_A (Kd.R_below z6_19 hb); have n1_ := z6_A (Kd.S_lower (Kd.S_new' ho0 (Kd.R_lt z6_19)) (below_size z6_3)); have n2_ := z6_A (blk_below (g := gb238) (o := .cells #[.slice A0_0 l0_0.length c0_0, .slice A0_1 l0_1.length c0_1, .slice A0_2 l0_2.length c0_2, .slice A0_3 l0_3.length c0_3] 50 (0, 0)) z6_8 hb); have n3_ := z6_A (below_step z6_3 hb); clear HO241 BK238 HB; revert n0_ n1_ n2_ n3_; intro HO241 HO244 BK238 HB; (try clear hb); (try clear hb2); (try clear hk); (try clear hi); (try clear ho0); obtain ⟨Ao9, co9, eo9⟩ := Kd.S_slice HO244.out; subst eo9))
 go_loopg [6, 7, 18] k (fun kq v6 v7 v18 w' => ∃ (x6_1 : List Int) (x7_1 : Int) (x18_1 : Int), v7 = .int .i64 x7_1 ∧ v18 = .int .i64 x18_1 ∧ Aside0 (impl_Case_bestFresh.l0 kq a1 x6_1 x7_1 t242 (t242.length : Int) x18_1 l0_0 l0_1 l0_2 l0_3 = some (r1, r2)) ∧ Aside0 (kq ≤ k) ∧ Aside0 (Kd.R (Kd.int .i64) 3 w' w.heap.size (fun _ => True) v6 x6_1) ∧ Aside0 (Kd.S (Kd.slice 3 (Kd.int .i64)) 22 w' w.heap.size (fun _ => True) (.slice Ao9 t242.length co9) t242) ∧ Aside0 (w'.heap[gb238]? = some (.cells #[(.slice A0_0 l0_0.length c0_0), (.slice A0_1 l0_1.length c0_1), (.slice A0_2 l0_2.length c0_2), (.slice A0_3 l0_3.length c0_3)] 50 (0, 0))) ∧ Aside0 (Below w.heap.size w w'))
 case atStart => exact ⟨(y239), (1099511627776), (0), z6_6, z6_6, H', ⟨Nat.le_refl _⟩, ⟨z6_19⟩, ⟨by (with_reducible repeat (first | apply Kd.S_alloc | apply Kd.S_drewN | apply Kd.S_drew)); exact Kd.S_mono HO244.out (fun _ hk => trivial)⟩, ⟨z6_8⟩, ⟨z6_3⟩⟩
 case round =>
  clear H'
  (try clear hcz7_0); (try clear hcz7_1); (try clear hcz7_2); (try clear hcz7_3); (try clear hfz7_0); (try clear hfz7_1); (try clear hfz7_2); (try clear hfz7_3)
  obtain ⟨x6_1, x7_1, x18_1, rfl, rfl, HA, HK1, HO_6, HO_16, BK238, HB⟩ := hrel
  cases gk with
  | zero => exact absurd HA.out (by simp [impl_Case_bestFresh.l0])
  | succ k1 =>
   have H := HA.out
   clear HA
   simp only [impl_Case_bestFresh.l0] at H
   by_cases c10 : x18_1 < (t242.length : Int)
   ·rw [if_pos c10] at H
    have c10b0 : decide (x18_1 < (t242.length : Int)) = true := decide_eq_true c10
    clear c10
    by_cases c11 : 0 ≤ x18_1
    ·rw [if_pos c11] at H
     have c11b0 : decide (0 ≤ x18_1) = true := decide_eq_true c11
     clear c11
     by_cases c12 : x18_1 < (t242.length : Int)
     ·rw [if_pos c12] at H
      have c12b0 : decide (x18_1 < (t242.length : Int)) = true := decide_eq_true c12
      clear c12
      replace H := Option.bind_eq_some_iff.mp H
      obtain ⟨⟨t246, t247⟩, A130, H⟩ := H
      (try dsimp only at H)
      have A13 := z6_A A130
      clear A130
      by_cases c14 : t247 = true
      ·subst c14
       have H1 : (if t246 < x7_1 then (impl_Case_bestFresh.l0 k1 a1 (rd_L1 t242 x18_1) t246 t242 (t242.length : Int) (wrap64 (x18_1 + 1)) l0_0 l0_1 l0_2 l0_3) else (impl_Case_bestFresh.l0 k1 a1 x6_1 x7_1 t242 (t242.length : Int) (wrap64 (x18_1 + 1)) l0_0 l0_1 l0_2 l0_3)) = some (r1, r2) := by rw [if_pos rfl] at H; exact H
       clear H
       have H := H1
       clear H1
       by_cases c15 : t246 < x7_1
       ·rw [if_pos c15] at H
        have c15b0 : decide (t246 < x7_1) = true := decide_eq_true c15
        clear c15
        have H' := z6_A H
        clear H
        have p245 : 0 ≤ (x18_1 : Int) := of_decide_eq_true z6_10
        have q245 : x18_1 < (t242.length : Int) := of_decide_eq_true z6_10
        obtain ⟨ad245, A245_0, c245_0, e245, hx245_0, hl245_0, hi245_0⟩ := at_L1 (Kd.S_reads' HO_16.out).2.2 x18_1 p245 q245
        cases e245
        obtain ⟨ce245, hce245, hMe245, hcc245⟩ := Kd.S_get HO_16.out [] x18_1 p245 z6_20
        obtain ⟨ve245_0, rfl, ge245_0⟩ := hMe245
        have hv245_0 := hcc245 0 _ rfl
        rw [Nat.add_zero, show ((Kd.slice 3 (Kd.int .i64))).sz = 1 from rfl, Nat.mul_one] at hv245_0
        replace hv245_0 := Option.some.inj (hv245_0.symm.trans hx245_0)
        rw [hv245_0] at ge245_0
        have HL245_0 := z6_A (show Kd.R (Kd.int .i64) 3 _ _ _ _ (rd_L1 t242 x18_1) from ge245_0)
        clear hv245_0 ge245_0
        clear hcc245 hce245
        have HR245_0 := z6_A hi245_0
        have HC245_0 := z6_A hl245_0
        clear hi245_0 hl245_0
        replace p245 := eq_true p245
        replace q245 := eq_true q245
        have hcz16_0 : wr.cell? ⟨gb238, 0, none⟩ = some (.slice A0_0 l0_0.length c0_0) := (blk_cell BK238.out 0).trans rfl
        have hcz16_1 : wr.cell? ⟨gb238, 1, none⟩ = some (.slice A0_1 l0_1.length c0_1) := (blk_cell BK238.out 1).trans rfl
        have hcz16_2 : wr.cell? ⟨gb238, 2, none⟩ = some (.slice A0_2 l0_2.length c0_2) := (blk_cell BK238.out 2).trans rfl
        have hcz16_3 : wr.cell? ⟨gb238, 3, none⟩ = some (.slice A0_3 l0_3.length c0_3) := (blk_cell BK238.out 3).trans rfl
        have hfz16_0 := blk_frozen BK238.out 0
        have hfz16_1 := blk_frozen BK238.out 1
        have hfz16_2 := blk_frozen BK238.out 2
        have hfz16_3 := blk_frozen BK238.out 3
        go_wp2_with (first | ((with_reducible refine gate_callee (f := 109) rfl ?_); refine goesL_ (some 26) rfl rfl Try.func109 z6_23 rfl #[.agg #[.slice A0_0 l0_0.length c0_0, .slice A0_1 l0_1.length c0_1, .slice A0_2 l0_2.length c0_2, .slice A0_3 l0_3.length c0_3], .int .i64 a1, .slice A245_0 (rd_L1 t242 x18_1).length c245_0] rfl z6_5 ?_; (with_reducible refine (impl_Case_fresh.calls k1 _ _ l0_0 _ _ l0_1 _ _ l0_2 _ _ l0_3 a1 _ _ (rd_L1 t242 x18_1) t246 true _ ?side1 ?side2 ?side3 ?side4 ?side5 ?side6 ?side7 ?side8 ?side9 ?side10 A13.out).mono ?_); (case side1 => have zh := (Kd.C_below HR0_0.out HB.out); exact z6_C); (case side2 => exact HC0_0.out); (case side3 => have zh := (Kd.C_below HR0_1.out HB.out); exact z6_C); (case side4 => exact HC0_1.out); (case side5 => have zh := (Kd.C_below HR0_2.out HB.out); exact z6_C); (case side6 => exact HC0_2.out); (case side7 => have zh := (Kd.C_below HR0_3.out HB.out); exact z6_C); (case side8 => exact HC0_3.out); (case side9 => repeat (first | exact z6_7 | (with_reducible refine Kd.C_alloc ?_ _) | (with_reducible refine Kd.C_drewN ?_ _) | (with_reducible refine Kd.C_drew ?_))); (case side10 => exact HC245_0.out); rintro e w17 ⟨rfl, hb⟩; refine ⟨_, rfl, ?_⟩; have n0_ := z6_A (Kd.R_below z6_12 hb); have n1_ := z6_A (Kd.S_below z6_13 hb); have n2_ := z6_A (Kd.R_below z6_17 hb); have n3_ := z6_A (blk_below (g := gb238) (o := .cells #[.slice A0_0 l0_0.length c0_0, .slice A0_1 l0_1.length c0_1, .slice A0_2 l0_2.length c0_2, .slice A0_3 l0_3.length c0_3] 50 (0, 0)) z6_8 hb); have n4_ := z6_A (Kd.C_below z6_7 hb); have n5_ := z6_A (below_step z6_3 hb); clear HO_6 HO_16 HL245_0 BK238 HR245_0 HB; revert n0_ n1_ n2_ n3_ n4_ n5_; intro HO_6 HO_16 HL245_0 BK238 HR245_0 HB; (try clear hb); (try clear hb2); (try clear hk); (try clear hi)))
        go_roundg k1
        case measure => have := HK1.out; omega
        case rel => exact ⟨(rd_L1 t242 x18_1), (t246), (wrap64 (x18_1 + 1)), z6_6, z6_6, H', ⟨z6_24⟩, ⟨by (with_reducible repeat (first | apply Kd.R_alloc | apply Kd.R_drewN | apply Kd.R_drew)); exact Kd.R_mono HL245_0.out (fun _ hk => trivial)⟩, ⟨by (with_reducible repeat (first | apply Kd.S_alloc | apply Kd.S_drewN | apply Kd.S_drew)); exact Kd.S_mono HO_16.out (fun _ hk => trivial)⟩, ⟨z6_8⟩, ⟨z6_3⟩⟩
       ·rw [if_neg c15] at H
        have c15b0 : decide (t246 < x7_1) = false := decide_eq_false c15
        clear c15
        have H' := z6_A H
        clear H
        have p245 : 0 ≤ (x18_1 : Int) := of_decide_eq_true z6_10
        have q245 : x18_1 < (t242.length : Int) := of_decide_eq_true z6_10
        obtain ⟨ad245, A245_0, c245_0, e245, hx245_0, hl245_0, hi245_0⟩ := at_L1 (Kd.S_reads' HO_16.out).2.2 x18_1 p245 q245
        cases e245
        obtain ⟨ce245, hce245, hMe245, hcc245⟩ := Kd.S_get HO_16.out [] x18_1 p245 z6_20
        obtain ⟨ve245_0, rfl, ge245_0⟩ := hMe245
        have hv245_0 := hcc245 0 _ rfl
        rw [Nat.add_zero, show ((Kd.slice 3 (Kd.int .i64))).sz = 1 from rfl, Nat.mul_one] at hv245_0
        replace hv245_0 := Option.some.inj (hv245_0.symm.trans hx245_0)
        rw [hv245_0] at ge245_0
        have HL245_0 := z6_A (show Kd.R (Kd.int .i64) 3 _ _ _ _ (rd_L1 t242 x18_1) from ge245_0)
        clear hv245_0 ge245_0
        clear hcc245 hce245
        have HR245_0 := z6_A hi245_0
        have HC245_0 := z6_A hl245_0
        clear hi245_0 hl245_0
        replace p245 := eq_true p245
        replace q245 := eq_true q245
        have hcz18_0 : wr.cell? ⟨gb238, 0, none⟩ = some (.slice A0_0 l0_0.length c0_0) := (blk_cell BK238.out 0).trans rfl
        have hcz18_1 : wr.cell? ⟨gb238, 1, none⟩ = some (.slice A0_1 l0_1.length c0_1) := (blk_cell BK238.out 1).trans rfl
        have hcz18_2 : wr.cell? ⟨gb238, 2, none⟩ = some (.slice A0_2 l0_2.length c0_2) := (blk_cell BK238.out 2).trans rfl
        have hcz18_3 : wr.cell? ⟨gb238, 3, none⟩ = some (.slice A0_3 l0_3.length c0_3) := (blk_cell BK238.out 3).trans rfl
        have hfz18_0 := blk_frozen BK238.out 0
        have hfz18_1 := blk_frozen BK238.out 1
        have hfz18_2 := blk_frozen BK238.out 2
        have hfz18_3 := blk_frozen BK238.out 3
        go_wp2_with (first | ((with_reducible refine gate_callee (f := 109) rfl ?_); refine goesL_ (some 26) rfl rfl Try.func109 z6_23 rfl #[.agg #[.slice A0_0 l0_0.length c0_0, .slice A0_1 l0_1.length c0_1, .slice A0_2 l0_2.length c0_2, .slice A0_3 l0_3.length c0_3], .int .i64 a1, .slice A245_0 (rd_L1 t242 x18_1).length c245_0] rfl z6_5 ?_; (with_reducible refine (impl_Case_fresh.calls k1 _ _ l0_0 _ _ l0_1 _ _ l0_2 _ _ l0_3 a1 _ _ (rd_L1 t242 x18_1) t246 true _ ?side1 ?side2 ?side3 ?side4 ?side5 ?side6 ?side7 ?side8 ?side9 ?side10 A13.out).mono ?_); (case side1 => have zh := (Kd.C_below HR0_0.out HB.out); exact z6_C); (case side2 => exact HC0_0.out); (case side3 => have zh := (Kd.C_below HR0_1.out HB.out); exact z6_C); (case side4 => exact HC0_1.out); (case side5 => have zh := (Kd.C_below HR0_2.out HB.out); exact z6_C); (case side6 => exact HC0_2.out); (case side7 => have zh := (Kd.C_below HR0_3.out HB.out); exact z6_C); (case side8 => exact HC0_3.out); (case side9 => repeat (first | exact z6_7 | (with_reducible refine Kd.C_alloc ?_ _) | (with_reducible refine Kd.C_drewN ?_ _) | (with_reducible refine Kd.C_drew ?_))); (case side10 => exact HC245_0.out); rintro e w19 ⟨rfl, hb⟩; refine ⟨_, rfl, ?_⟩; have n0_ := z6_A (Kd.R_below z6_12 hb); have n1_ := z6_A (Kd.S_below z6_13 hb); have n2_ := z6_A (Kd.R_below z6_17 hb); have n3_ := z6_A (blk_below (g := gb238) (o := .cells #[.slice A0_0 l0_0.length c0_0, .slice A0_1 l0_1.length c0_1, .slice A0_2 l0_2.length c0_2, .slice A0_3 l0_3.length c0_3] 50 (0, 0)) z6_8 hb); have n4_ := z6_A (Kd.C_below z6_7 hb); have n5_ := z6_A (below_step z6_3 hb); clear HO_6 HO_16 HL245_0 BK238 HR245_0 HB; revert n0_ n1_ n2_ n3_ n4_ n5_; intro HO_6 HO_16 HL245_0 BK238 HR245_0 HB; (try clear hb); (try clear hb2); (try clear hk); (try clear hi)))
        go_roundg k1
        case measure => have := HK1.out; omega
        case rel => exact ⟨(x6_1), (x7_1), (wrap64 (x18_1 + 1)), z6_6, z6_6, H', ⟨z6_24⟩, ⟨z6_12⟩, ⟨z6_13⟩, ⟨z6_8⟩, ⟨z6_3⟩⟩
      ·replace c14 := Bool.eq_false_iff.mpr c14
       subst c14
       have H1 : (impl_Case_bestFresh.l0 k1 a1 x6_1 x7_1 t242 (t242.length : Int) (wrap64 (x18_1 + 1)) l0_0 l0_1 l0_2 l0_3) = some (r1, r2) := z6_22
       clear H
       have H := H1
       clear H1
       have H' := z6_A H
       clear H
       have p245 : 0 ≤ (x18_1 : Int) := of_decide_eq_true z6_10
       have q245 : x18_1 < (t242.length : Int) := of_decide_eq_true z6_10
       obtain ⟨ad245, A245_0, c245_0, e245, hx245_0, hl245_0, hi245_0⟩ := at_L1 (Kd.S_reads' HO_16.out).2.2 x18_1 p245 q245
       cases e245
       obtain ⟨ce245, hce245, hMe245, hcc245⟩ := Kd.S_get HO_16.out [] x18_1 p245 z6_20
       obtain ⟨ve245_0, rfl, ge245_0⟩ := hMe245
       have hv245_0 := hcc245 0 _ rfl
       rw [Nat.add_zero, show ((Kd.slice 3 (Kd.int .i64))).sz = 1 from rfl, Nat.mul_one] at hv245_0
       replace hv245_0 := Option.some.inj (hv245_0.symm.trans hx245_0)
       rw [hv245_0] at ge245_0
       have HL245_0 := z6_A (show Kd.R (Kd.int .i64) 3 _ _ _ _ (rd_L1 t242 x18_1) from ge245_0)
       clear hv245_0 ge245_0
       clear hcc245 hce245
       have HR245_0 := z6_A hi245_0
       have HC245_0 := z6_A hl245_0
       clear hi245_0 hl245_0
       replace p245 := eq_true p245
       replace q245 := eq_true q245
       have hcz20_0 : wr.cell? ⟨gb238, 0, none⟩ = some (.slice A0_0 l0_0.length c0_0) := (blk_cell BK238.out 0).trans rfl
       have hcz20_1 : wr.cell? ⟨gb238, 1, none⟩ = some (.slice A0_1 l0_1.length c0_1) := (blk_cell BK238.out 1).trans rfl
       have hcz20_2 : wr.cell? ⟨gb238, 2, none⟩ = some (.slice A0_2 l0_2.length c0_2) := (blk_cell BK238.out 2).trans rfl
       have hcz20_3 : wr.cell? ⟨gb238, 3, none⟩ = some (.slice A0_3 l0_3.length c0_3) := (blk_cell BK238.out 3).trans rfl
       have hfz20_0 := blk_frozen BK238.out 0
       have hfz20_1 := blk_frozen BK238.out 1
       have hfz20_2 := blk_frozen BK238.out 2
       have hfz20_3 := blk_frozen BK238.out 3
       go_wp2_with (first | ((with_reducible refine gate_callee (f := 109) rfl ?_); refine goesL_ (some 26) rfl rfl Try.func109 z6_23 rfl #[.agg #[.slice A0_0 l0_0.length c0_0, .slice A0_1 l0_1.length c0_1, .slice A0_2 l0_2.length c0_2, .slice A0_3 l0_3.length c0_3], .int .i64 a1, .slice A245_0 (rd_L1 t242 x18_1).length c245_0] rfl z6_5 ?_; (with_reducible refine (impl_Case_fresh.calls k1 _ _ l0_0 _ _ l0_1 _ _ l0_2 _ _ l0_3 a1 _ _ (rd_L1 t242 x18_1) t246 false _ ?side1 ?side2 ?side3 ?side4 ?side5 ?side6 ?side7 ?side8 ?side9 ?side10 A13.out).mono ?_); (case side1 => have zh := (Kd.C_below HR0_0.out HB.out); exact z6_C); (case side2 => exact HC0_0.out); (case side3 => have zh := (Kd.C_below HR0_1.out HB.out); exact z6_C); (case side4 => exact HC0_1.out); (case side5 => have zh := (Kd.C_below HR0_2.out HB.out); exact z6_C); (case side6 => exact HC0_2.out); (case side7 => have zh := (Kd.C_below HR0_3.out HB.out); exact z6_C); (case side8 => exact HC0_3.out); (case side9 => repeat (first | exact z6_7 | (with_reducible refine Kd.C_alloc ?_ _) | (with_reducible refine Kd.C_drewN ?_ _) | (with_reducible refine Kd.C_drew ?_))); (case side10 => exact HC245_0.out); rintro e w21 ⟨rfl, hb⟩; refine ⟨_, rfl, ?_⟩; have n0_ := z6_A (Kd.R_below z6_12 hb); have n1_ := z6_A (Kd.S_below z6_13 hb); have n2_ := z6_A (Kd.R_below z6_17 hb); have n3_ := z6_A (blk_below (g := gb238) (o := .cells #[.slice A0_0 l0_0.length c0_0, .slice A0_1 l0_1.length c0_1, .slice A0_2 l0_2.length c0_2, .slice A0_3 l0_3.length c0_3] 50 (0, 0)) z6_8 hb); have n4_ := z6_A (Kd.C_below z6_7 hb); have n5_ := z6_A (below_step z6_3 hb); clear HO_6 HO_16 HL245_0 BK238 HR245_0 HB; revert n0_ n1_ n2_ n3_ n4_ n5_; intro HO_6 HO_16 HL245_0 BK238 HR245_0 HB; (try clear hb); (try clear hb2); (try clear hk); (try clear hi)))
       go_roundg k1
       case measure => have := HK1.out; omega
       case rel => exact ⟨(x6_1), (x7_1), (wrap64 (x18_1 + 1)), z6_6, z6_6, H', ⟨z6_24⟩, ⟨z6_12⟩, ⟨z6_13⟩, ⟨z6_8⟩, ⟨z6_3⟩⟩
     ·rw [if_neg c12] at H
      exact absurd H (by simp)
    ·rw [if_neg c11] at H
     exact absurd H (by simp)
   ·rw [if_neg c10] at H
    have c10b0 : decide (x18_1 < (t242.length : Int)) = false := decide_eq_false c10
    clear c10
    simp only [Option.some.injEq, Prod.mk.injEq] at H
    obtain ⟨rfl, rfl⟩ := H
    go_wp2
    go_ret2
    exact ⟨_, z6_15, z6_12, z6_3⟩

/-! ### impl_LifeGains: function 40 -/
def impl_LifeGains.l0 : Nat → List Int → Int → List Int → List Int → List Int → List Int → Option (List Int × Bool)
 | 0, _, _, _, _, _, _ => none
 | k + 1, x4, x5, x249000, x249001, x249002, x249003 => if x5 < 8 then ((impl_Case_bestFresh.f k x249000 x249001 x249002 x249003 x5).bind fun bt253 => ((impl_Case_bestFresh.f k x249000 x249001 x249002 x249003 (wrap64 (x5 + 1))).bind fun bt257 => (if x4.length < 17592186044416 then (impl_LifeGains.l0 k (x4 ++ [wrap64 (bt253.2 - bt257.2)]) (wrap64 (x5 + 1)) x249000 x249001 x249002 x249003) else (none)))) else (some (x4, true))
def impl_LifeGains.f (k : Nat) (l0_0 : List Int) (l0_1 : List Int) (l0_2 : List Int) (l0_3 : List Int) : Option (List Int × Bool) := (impl_IsCase.f k l0_0 l0_1 l0_2 l0_3).bind fun t249 => (if t249 = true then (impl_LifeGains.l0 k (([] : List Int)) 1 l0_0 l0_1 l0_2 l0_3) else (some (([] : List Int), false)))
theorem impl_LifeGains.mono_l : ∀ k, (∀ y0 y1 y2 y3 y4 y5, LeO (impl_LifeGains.l0 k y0 y1 y2 y3 y4 y5) (impl_LifeGains.l0 (k + 1) y0 y1 y2 y3 y4 y5))
 | 0 => fun _ _ _ _ _ _ r h => by simp [impl_LifeGains.l0] at h
 | k + 1 => by
  have ih0 := impl_LifeGains.mono_l k
  ·intro y0 y1 y2 y3 y4 y5
   unfold impl_LifeGains.l0
   repeat' first
   | (with_reducible exact ih0 _ _ _ _ _ _)
   | (with_reducible exact impl_Case_bestFresh.mono _ _ _ _ _ _)
   | (with_reducible exact impl_IsCase.mono _ _ _ _ _)
   | (with_reducible exact LeO.refl _)
   | (with_reducible exact LeO.none _)
   | (with_reducible refine LeO.ite ?_ ?_)
   | (with_reducible refine LeO.bind ?_ (fun _ => ?_))
   | exact ih0 _ _ _ _ _ _
   | exact impl_Case_bestFresh.mono _ _ _ _ _ _
   | exact impl_IsCase.mono _ _ _ _ _
   | exact LeO.none _
   | refine LeO.ite ?_ ?_
   | refine LeO.bind ?_ (fun _ => ?_)
theorem impl_LifeGains.mono : ∀ a0 a1 a2 a3 k, LeO (impl_LifeGains.f k a0 a1 a2 a3) (impl_LifeGains.f (k + 1) a0 a1 a2 a3) := by
 intro a0 a1 a2 a3 k
 have ih0 := impl_LifeGains.mono_l k
 unfold impl_LifeGains.f
 repeat' first
   | (with_reducible exact ih0 _ _ _ _ _ _)
   | (with_reducible exact impl_Case_bestFresh.mono _ _ _ _ _ _)
   | (with_reducible exact impl_IsCase.mono _ _ _ _ _)
   | (with_reducible exact LeO.refl _)
   | (with_reducible exact LeO.none _)
   | (with_reducible refine LeO.ite ?_ ?_)
   | (with_reducible refine LeO.bind ?_ (fun _ => ?_))
   | exact ih0 _ _ _ _ _ _
   | exact impl_Case_bestFresh.mono _ _ _ _ _ _
   | exact impl_IsCase.mono _ _ _ _ _
   | exact LeO.none _
   | refine LeO.ite ?_ ?_
   | refine LeO.bind ?_ (fun _ => ?_)
set_option maxHeartbeats 8000000 in
set_option maxRecDepth 100000 in
theorem impl_LifeGains.calls (k : Nat) (A0_0 : Option Addr) (c0_0 : Nat) (l0_0 : List Int) (A0_1 : Option Addr) (c0_1 : Nat) (l0_1 : List Int) (A0_2 : Option Addr) (c0_2 : Nat) (l0_2 : List Int) (A0_3 : Option Addr) (c0_3 : Nat) (l0_3 : List Int) (r1 : List Int) (r2 : Bool) (w : World) (hr0_0 : Kd.C (Kd.int .i64) w A0_0 l0_0.length l0_0) (hc0_0 : l0_0.length ≤ c0_0) (hr0_1 : Kd.C (Kd.int .i64) w A0_1 l0_1.length l0_1) (hc0_1 : l0_1.length ≤ c0_1) (hr0_2 : Kd.C (Kd.int .i64) w A0_2 l0_2.length l0_2) (hc0_2 : l0_2.length ≤ c0_2) (hr0_3 : Kd.C (Kd.int .i64) w A0_3 l0_3.length l0_3) (hc0_3 : l0_3.length ≤ c0_3) (h : impl_LifeGains.f k l0_0 l0_1 l0_2 l0_3 = some (r1, r2)) :
  Calls Try.prog 40 #[.agg #[.slice A0_0 l0_0.length c0_0, .slice A0_1 l0_1.length c0_1, .slice A0_2 l0_2.length c0_2, .slice A0_3 l0_3.length c0_3]] w fun e w' => ∃ v0_ : Value, e = .returned (.tuple #[v0_, .bool r2]) ∧ Kd.R (Kd.int .i64) 3 w' w.heap.size (fun _ => True) v0_ r1 ∧ Below w.heap.size w w' := by
 have hu50 := Try.underlying50
 have HR0_0 := z6_A hr0_0
 have HC0_0 := z6_A hc0_0
 clear hr0_0 hc0_0
 have HR0_1 := z6_A hr0_1
 have HC0_1 := z6_A hc0_1
 clear hr0_1 hc0_1
 have HR0_2 := z6_A hr0_2
 have HC0_2 := z6_A hc0_2
 clear hr0_2 hc0_2
 have HR0_3 := z6_A hr0_3
 have HC0_3 := z6_A hc0_3
 clear hr0_3 hc0_3
 have HB := z6_A (Below.refl w.heap.size w)
 have H : ((impl_IsCase.f k l0_0 l0_1 l0_2 l0_3).bind fun t249 => (if t249 = true then (impl_LifeGains.l0 k (([] : List Int)) 1 l0_0 l0_1 l0_2 l0_3) else (some (([] : List Int), false)))) = some (r1, r2) := h
 clear h
 replace H := Option.bind_eq_some_iff.mp H
 obtain ⟨t249, A20, H⟩ := H
 (try dsimp only at H)
 have A2 := z6_A A20
 clear A20
 by_cases c3 : t249 = true
 ·subst c3
  have H1 : (impl_LifeGains.l0 k (([] : List Int)) 1 l0_0 l0_1 l0_2 l0_3) = some (r1, r2) := by rw [if_pos rfl] at H; exact H
  clear H
  have H := H1
  clear H1
  obtain ⟨y250, hy250⟩ : ∃ y_ : List Int, y_ = (([] : List Int)) := ⟨_, rfl⟩
  replace H : (impl_LifeGains.l0 k y250 1 l0_0 l0_1 l0_2 l0_3) = some (r1, r2) := by first | (rw [hy250]; with_reducible exact H) | (have H2_ := (Option.bind_some _ _).symm.trans H; rw [hy250]; with_reducible exact H2_) | (have H2_ := (Option.bind_some _ _).symm.trans H; with_reducible exact H2_) | with_reducible exact H | (rw [hy250]; exact H) | exact H
  have Ny250 := z6_A hy250
  clear hy250
  have H' := z6_A H
  clear H
  go_enter Try.func40, Try.ntmps40
  go_wp2_with (first | ((with_reducible refine gate_dst (N := 1) rfl ?_); refine box_event ?hg (N := 1) ?hd (cs := #[.slice A0_0 l0_0.length c0_0, .slice A0_1 l0_1.length c0_1, .slice A0_2 l0_2.length c0_2, .slice A0_3 l0_3.length c0_3]) (t := 50) ?hr ?_; (case hd => rfl); (case hg => rfl); (case hr => first | (go_simp; done) | (go_simp; rfl)); intro gb248 hg w4 hbox hb; have n0_ := z6_A (below_step z6_4 hb); have n1_ := z6_A (hbox); have n2_ := z6_A ((z6_16 : w.heap.size ≤ gb248)); have n3_ := z6_A ((z6_16 : w.heap.size ≤ gb248)); clear HB; revert n0_ n1_ n2_ n3_; intro HB BK248 GW248 GE248; clear hb hbox hg; have hcz5_0 : w4.cell? ⟨gb248, 0, none⟩ = some (.slice A0_0 l0_0.length c0_0) := (blk_cell BK248.out 0).trans rfl; have hcz5_1 : w4.cell? ⟨gb248, 1, none⟩ = some (.slice A0_1 l0_1.length c0_1) := (blk_cell BK248.out 1).trans rfl; have hcz5_2 : w4.cell? ⟨gb248, 2, none⟩ = some (.slice A0_2 l0_2.length c0_2) := (blk_cell BK248.out 2).trans rfl; have hcz5_3 : w4.cell? ⟨gb248, 3, none⟩ = some (.slice A0_3 l0_3.length c0_3) := (blk_cell BK248.out 3).trans rfl; have hfz5_0 := blk_frozen BK248.out 0; have hfz5_1 := blk_frozen BK248.out 1; have hfz5_2 := blk_frozen BK248.out 2; have hfz5_3 := blk_frozen BK248.out 3) | ((with_reducible refine gate_callee (f := 80) rfl ?_); refine goesL_ (some 11) rfl rfl Try.func80 z6_23 rfl #[.agg #[.slice A0_0 l0_0.length c0_0, .slice A0_1 l0_1.length c0_1, .slice A0_2 l0_2.length c0_2, .slice A0_3 l0_3.length c0_3]] rfl z6_5 ?_; (with_reducible refine (impl_IsCase.calls k _ _ l0_0 _ _ l0_1 _ _ l0_2 _ _ l0_3 true _ ?side1 ?side2 ?side3 ?side4 ?side5 ?side6 ?side7 ?side8 A2.out).mono ?_); (case side1 => have zh := (Kd.C_below HR0_0.out HB.out); exact z6_C); (case side2 => exact HC0_0.out); (case side3 => have zh := (Kd.C_below HR0_1.out HB.out); exact z6_C); (case side4 => exact HC0_1.out); (case side5 => have zh := (Kd.C_below HR0_2.out HB.out); exact z6_C); (case side6 => exact HC0_2.out); (case side7 => have zh := (Kd.C_below HR0_3.out HB.out); exact z6_C); (case side8 => exact HC0_3.out); rintro e w6 ⟨rfl, hb⟩; refine ⟨_, rfl, ?_⟩; have n0_ := z6_A (blk_below (g := gb248) (o := .cells #[.slice A0_0 l0_0.length c0_0, .slice A0_1 l0_1.length c0_1, .slice A0_2 l0_2.length c0_2, .slice A0_3 l0_3.length c0_3] 50 (0, 0)) z6_11 hb); have n1_ := z6_A (below_step z6_2 hb); clear BK248 HB; revert n0_ n1_; intro BK248 HB; (try clear hb); (try clear hb2); (try clear hk); (try clear hi)) | ((with_reducible refine gate_dst (N := 13) rfl ?_); refine Kd.R_lit (Kd.int .i64) _ 3 ?hg (N := 13) ?hd (xs := ([] : List Int)) (inner := []) (ok := fun _ => True) (okp := fun _ => True) ?hr ?hp (fun _ hk => hk) trivial (Below.refl _ _) (Nat.le_refl _) (by simp) ?_; (case hd => rfl); (case hg => rfl); (case hr => first | (go_simp; done) | (go_simp; rfl)); (case hp => exact (Reps.none _ _)); intro v251 w7 ho8 hb hg_ hnew_; clear hg_ hnew_; (first | rw [← Ny250.out] at ho8 | (simp only [Int.reduceToNat] at ho8; rw [← Ny250.out] at ho8)); have n0_ := z6_A (Kd.R_lower ho8 (below_size z6_2)); have n1_ := z6_A (blk_below (g := gb248) (o := .cells #[.slice A0_0 l0_0.length c0_0, .slice A0_1 l0_1.length c0_1, .slice A0_2 l0_2.length c0_2, .slice A0_3 l0_3.length c0_3] 50 (0, 0)) z6_11 hb); have n2_ := z6_A (below_step z6_2 hb); clear BK248 HB; revert n0_ n1_ n2_; intro HO252 BK248 HB; clear hb ho8))
  go_loopg [4, 5] k (fun kq v4 v5 w' => ∃ (x4_1 : List Int) (x5_1 : Int), v5 = .int .i64 x5_1 ∧ Aside0 (impl_LifeGains.l0 kq x4_1 x5_1 l0_0 l0_1 l0_2 l0_3 = some (r1, r2)) ∧ Aside0 (kq ≤ k) ∧ Aside0 (Kd.R (Kd.int .i64) 3 w' w.heap.size (fun _ => True) v4 x4_1) ∧ Aside0 (w'.heap[gb248]? = some (.cells #[(.slice A0_0 l0_0.length c0_0), (.slice A0_1 l0_1.length c0_1), (.slice A0_2 l0_2.length c0_2), (.slice A0_3 l0_3.length c0_3)] 50 (0, 0))) ∧ Aside0 (Below w.heap.size w w'))
  case atStart => exact ⟨(y250), (1), z6_6, H', ⟨Nat.le_refl _⟩, ⟨by (with_reducible repeat (first | apply Kd.R_alloc | apply Kd.R_drewN | apply Kd.R_drew)); exact HO252.out⟩, ⟨z6_11⟩, ⟨z6_2⟩⟩
  case round =>
   clear H'
   (try clear c3); (try clear hcz5_0); (try clear hcz5_1); (try clear hcz5_2); (try clear hcz5_3); (try clear hfz5_0); (try clear hfz5_1); (try clear hfz5_2); (try clear hfz5_3)
   obtain ⟨x4_1, x5_1, rfl, HA, HK1, HO_4, BK248, HB⟩ := hrel
   cases gk with
   | zero => exact absurd HA.out (by simp [impl_LifeGains.l0])
   | succ k1 =>
    have H := HA.out
    clear HA
    simp only [impl_LifeGains.l0] at H
    by_cases c9 : x5_1 < 8
    ·rw [if_pos c9] at H
     have c9b0 : decide (x5_1 < 8) = true := decide_eq_true c9
     clear c9
     replace H := Option.bind_eq_some_iff.mp H
     obtain ⟨⟨t253, t256⟩, A100, H⟩ := H
     (try dsimp only at H)
     have A10 := z6_A A100
     clear A100
     replace H := Option.bind_eq_some_iff.mp H
     obtain ⟨⟨t257, t260⟩, A110, H⟩ := H
     (try dsimp only at H)
     have A11 := z6_A A110
     clear A110
     by_cases c12 : x4_1.length < 17592186044416
     ·rw [if_pos c12] at H
      have LMc12 := z6_A c12
      clear c12
      obtain ⟨y261, hy261⟩ : ∃ y_ : List Int, y_ = (x4_1 ++ [wrap64 (t256 - t260)]) := ⟨_, rfl⟩
      replace H : (impl_LifeGains.l0 k1 y261 (wrap64 (x5_1 + 1)) l0_0 l0_1 l0_2 l0_3) = some (r1, r2) := by first | (rw [hy261]; with_reducible exact H) | (have H2_ := (Option.bind_some _ _).symm.trans H; rw [hy261]; with_reducible exact H2_) | (have H2_ := (Option.bind_some _ _).symm.trans H; with_reducible exact H2_) | with_reducible exact H | (rw [hy261]; exact H) | exact H
      have Ny261 := z6_A hy261
      clear hy261
      have H' := z6_A H
      clear H
      have hcz13_0 : wr.cell? ⟨gb248, 0, none⟩ = some (.slice A0_0 l0_0.length c0_0) := (blk_cell BK248.out 0).trans rfl
      have hcz13_1 : wr.cell? ⟨gb248, 1, none⟩ = some (.slice A0_1 l0_1.length c0_1) := (blk_cell BK248.out 1).trans rfl
      have hcz13_2 : wr.cell? ⟨gb248, 2, none⟩ = some (.slice A0_2 l0_2.length c0_2) := (blk_cell BK248.out 2).trans rfl
      have hcz13_3 : wr.cell? ⟨gb248, 3, none⟩ = some (.slice A0_3 l0_3.length c0_3) := (blk_cell BK248.out 3).trans rfl
      have hfz13_0 := blk_frozen BK248.out 0
      have hfz13_1 := blk_frozen BK248.out 1
      have hfz13_2 := blk_frozen BK248.out 2
      have hfz13_3 := blk_frozen BK248.out 3
      go_wp2_with (first | ((with_reducible refine gate_callee (f := 82) rfl ?_); refine goesL_ (some 21) rfl rfl Try.func82 z6_23 rfl #[.agg #[.slice A0_0 l0_0.length c0_0, .slice A0_1 l0_1.length c0_1, .slice A0_2 l0_2.length c0_2, .slice A0_3 l0_3.length c0_3], .int .i64 x5_1] rfl z6_5 ?_; (with_reducible refine (impl_Case_bestFresh.calls k1 _ _ l0_0 _ _ l0_1 _ _ l0_2 _ _ l0_3 x5_1 t253 t256 _ ?side1 ?side2 ?side3 ?side4 ?side5 ?side6 ?side7 ?side8 A10.out).mono ?_); (case side1 => have zh := (Kd.C_below HR0_0.out HB.out); exact z6_C); (case side2 => exact HC0_0.out); (case side3 => have zh := (Kd.C_below HR0_1.out HB.out); exact z6_C); (case side4 => exact HC0_1.out); (case side5 => have zh := (Kd.C_below HR0_2.out HB.out); exact z6_C); (case side6 => exact HC0_2.out); (case side7 => have zh := (Kd.C_below HR0_3.out HB.out); exact z6_C); (case side8 => exact HC0_3.out); rintro e w14 ⟨v254, rfl, ho0, hb⟩; refine ⟨_, rfl, ?_⟩; have n0_ := z6_A (Kd.R_elder' z6_14 (Kd.R_base ho0) hb); have n1_ := z6_A (Kd.R_lower (Kd.R_new' ho0 (Kd.R_lt z6_14)) (below_size z6_2)); have n2_ := z6_A (blk_below (g := gb248) (o := .cells #[.slice A0_0 l0_0.length c0_0, .slice A0_1 l0_1.length c0_1, .slice A0_2 l0_2.length c0_2, .slice A0_3 l0_3.length c0_3] 50 (0, 0)) z6_11 hb); have n3_ := z6_A (below_step z6_2 hb); clear HO_4 BK248 HB; revert n0_ n1_ n2_ n3_; intro HO_4 HO255 BK248 HB; (try clear hb); (try clear hb2); (try clear hk); (try clear hi); (try clear ho0); have hcz15_0 : w14.cell? ⟨gb248, 0, none⟩ = some (.slice A0_0 l0_0.length c0_0) := (blk_cell BK248.out 0).trans rfl; have hcz15_1 : w14.cell? ⟨gb248, 1, none⟩ = some (.slice A0_1 l0_1.length c0_1) := (blk_cell BK248.out 1).trans rfl; have hcz15_2 : w14.cell? ⟨gb248, 2, none⟩ = some (.slice A0_2 l0_2.length c0_2) := (blk_cell BK248.out 2).trans rfl; have hcz15_3 : w14.cell? ⟨gb248, 3, none⟩ = some (.slice A0_3 l0_3.length c0_3) := (blk_cell BK248.out 3).trans rfl; have hfz15_0 := blk_frozen BK248.out 0; have hfz15_1 := blk_frozen BK248.out 1; have hfz15_2 := blk_frozen BK248.out 2; have hfz15_3 := blk_frozen BK248.out 3) | ((with_reducible refine gate_callee (f := 82) rfl ?_); refine goesL_ (some 28) rfl rfl Try.func82 z6_23 rfl #[.agg #[.slice A0_0 l0_0.length c0_0, .slice A0_1 l0_1.length c0_1, .slice A0_2 l0_2.length c0_2, .slice A0_3 l0_3.length c0_3], .int .i64 (wrap64 (x5_1 + 1))] rfl z6_5 ?_; (with_reducible refine (impl_Case_bestFresh.calls k1 _ _ l0_0 _ _ l0_1 _ _ l0_2 _ _ l0_3 (wrap64 (x5_1 + 1)) t257 t260 _ ?side1 ?side2 ?side3 ?side4 ?side5 ?side6 ?side7 ?side8 A11.out).mono ?_); (case side1 => have zh := (Kd.C_below HR0_0.out HB.out); exact z6_C); (case side2 => exact HC0_0.out); (case side3 => have zh := (Kd.C_below HR0_1.out HB.out); exact z6_C); (case side4 => exact HC0_1.out); (case side5 => have zh := (Kd.C_below HR0_2.out HB.out); exact z6_C); (case side6 => exact HC0_2.out); (case side7 => have zh := (Kd.C_below HR0_3.out HB.out); exact z6_C); (case side8 => exact HC0_3.out); rintro e w16 ⟨v258, rfl, ho0, hb⟩; refine ⟨_, rfl, ?_⟩; have n0_ := z6_A (Kd.R_elder' z6_14 (Kd.R_base ho0) hb); have n1_ := z6_A (Kd.R_elder' z6_18 (Kd.R_base ho0) hb); have n2_ := z6_A (Kd.R_lower (Kd.R_new' (Kd.R_new' ho0 (Kd.R_lt z6_14)) (Kd.R_lt z6_18)) (below_size z6_2)); have n3_ := z6_A (blk_below (g := gb248) (o := .cells #[.slice A0_0 l0_0.length c0_0, .slice A0_1 l0_1.length c0_1, .slice A0_2 l0_2.length c0_2, .slice A0_3 l0_3.length c0_3] 50 (0, 0)) z6_11 hb); have n4_ := z6_A (below_step z6_2 hb); clear HO_4 HO255 BK248 HB; revert n0_ n1_ n2_ n3_ n4_; intro HO_4 HO255 HO259 BK248 HB; (try clear hb); (try clear hb2); (try clear hk); (try clear hi); (try clear ho0)) | ((with_reducible refine gate_builtin (b := .append) (xs := #[.tmp 31, .tmp 35]) rfl ?_); at_builtin; refine Kd.R_append (Kd.int .i64) (w0 := w) w.heap.size rfl (.tmp 31) (.tmp 35) 22 3 (.int .i64 0) 8 rfl Try.underlying22 info3 rfl (by decide) (by omega) u4 x4_1 (wrap64 (t256 - t260)) [.int .i64 (wrap64 (t256 - t260))] (fun k_ => z6_V k_ v254 ∧ z6_V k_ v258) (fun _ => False) rfl rfl ?aP (fun _ hk => hk.elim) ?aF ?aO ?aB ?aS ?aL ?_; (case aP => exact rfl); (case aB => exact z6_2); (case aF => exact (fun k_ hk => ⟨Kd.fresh' (Kd.R_lt z6_18) k_ hk, Kd.fresh' (Kd.R_lt (by (with_reducible repeat (first | apply Kd.R_alloc | apply Kd.R_drewN | apply Kd.R_drew)); exact HO259.out)) k_ hk⟩)); (case aO => exact (by (with_reducible repeat (first | apply Kd.R_alloc | apply Kd.R_drewN | apply Kd.R_drew)); exact Kd.R_mono HO_4.out (fun _ hk => ⟨hk.1.2, hk.2⟩))); (case aS => exact (below_size z6_2)); (case aL => have := LMc12.out; omega); intro v262 w17 ho hb hg hat; rw [← Ny261.out] at ho; have n0_ := z6_A (blk_grown (g := gb248) (o := .cells #[.slice A0_0 l0_0.length c0_0, .slice A0_1 l0_1.length c0_1, .slice A0_2 l0_2.length c0_2, .slice A0_3 l0_3.length c0_3] 50 (0, 0)) z6_11 hg (Kd.R_ne HO_4.out BK248.out (by decide))); have n1_ := z6_A (Kd.R_after (ok := (fun k_ => z6_V k_ v258)) (by (with_reducible repeat (first | apply Kd.R_alloc | apply Kd.R_drewN | apply Kd.R_drew)); exact Kd.R_mono HO255.out (fun _ hk => ⟨hk.2, hk.1.2⟩)) hg hat); have n2_ := z6_A (Kd.R_after (ok := (fun k_ => z6_V k_ v254)) (by (with_reducible repeat (first | apply Kd.R_alloc | apply Kd.R_drewN | apply Kd.R_drew)); exact Kd.R_mono HO259.out (fun _ hk => ⟨hk.2, hk.1.2⟩)) hg hat); have n3_ := z6_A (hb); have n4_ := z6_A (ho); clear BK248 HO255 HO259 HB HO_4; revert n0_ n1_ n2_ n3_ n4_; intro BK248 HO255 HO259 HB HO263; clear ho hb hg hat))
      go_roundg k1
      case measure => have := HK1.out; omega
      case rel => exact ⟨(y261), (wrap64 (x5_1 + 1)), z6_6, H', ⟨z6_24⟩, ⟨by (with_reducible repeat (first | apply Kd.R_alloc | apply Kd.R_drewN | apply Kd.R_drew)); exact Kd.R_mono HO263.out (fun _ hk => trivial)⟩, ⟨z6_11⟩, ⟨z6_2⟩⟩
     ·rw [if_neg c12] at H
      exact absurd H (by simp)
    ·rw [if_neg c9] at H
     have c9b0 : decide (x5_1 < 8) = false := decide_eq_false c9
     clear c9
     simp only [Option.some.injEq, Prod.mk.injEq] at H
     obtain ⟨rfl, rfl⟩ := H
     go_wp2
     go_ret2
     exact ⟨_, z6_15, z6_14, z6_2⟩
 ·replace c3 := Bool.eq_false_iff.mpr c3
  subst c3
  have H1 : (some (([] : List Int), false)) = some (r1, r2) := z6_22
  clear H
  have H := H1
  clear H1
  simp only [Option.some.injEq, Prod.mk.injEq] at H
  obtain ⟨rfl, rfl⟩ := H
  go_enter Try.func40, Try.ntmps40
  go_wp2_with (first | ((with_reducible refine gate_dst (N := 1) rfl ?_); refine box_event ?hg (N := 1) ?hd (cs := #[.slice A0_0 l0_0.length c0_0, .slice A0_1 l0_1.length c0_1, .slice A0_2 l0_2.length c0_2, .slice A0_3 l0_3.length c0_3]) (t := 50) ?hr ?_; (case hd => rfl); (case hg => rfl); (case hr => first | (go_simp; done) | (go_simp; rfl)); intro gb248 hg w18 hbox hb; have n0_ := z6_A (below_step z6_4 hb); have n1_ := z6_A (hbox); have n2_ := z6_A ((z6_16 : w.heap.size ≤ gb248)); have n3_ := z6_A ((z6_16 : w.heap.size ≤ gb248)); clear HB; revert n0_ n1_ n2_ n3_; intro HB BK248 GW248 GE248; clear hb hbox hg; have hcz19_0 : w18.cell? ⟨gb248, 0, none⟩ = some (.slice A0_0 l0_0.length c0_0) := (blk_cell BK248.out 0).trans rfl; have hcz19_1 : w18.cell? ⟨gb248, 1, none⟩ = some (.slice A0_1 l0_1.length c0_1) := (blk_cell BK248.out 1).trans rfl; have hcz19_2 : w18.cell? ⟨gb248, 2, none⟩ = some (.slice A0_2 l0_2.length c0_2) := (blk_cell BK248.out 2).trans rfl; have hcz19_3 : w18.cell? ⟨gb248, 3, none⟩ = some (.slice A0_3 l0_3.length c0_3) := (blk_cell BK248.out 3).trans rfl; have hfz19_0 := blk_frozen BK248.out 0; have hfz19_1 := blk_frozen BK248.out 1; have hfz19_2 := blk_frozen BK248.out 2; have hfz19_3 := blk_frozen BK248.out 3) | ((with_reducible refine gate_callee (f := 80) rfl ?_); refine goesL_ (some 11) rfl rfl Try.func80 z6_23 rfl #[.agg #[.slice A0_0 l0_0.length c0_0, .slice A0_1 l0_1.length c0_1, .slice A0_2 l0_2.length c0_2, .slice A0_3 l0_3.length c0_3]] rfl z6_5 ?_; (with_reducible refine (impl_IsCase.calls k _ _ l0_0 _ _ l0_1 _ _ l0_2 _ _ l0_3 false _ ?side1 ?side2 ?side3 ?side4 ?side5 ?side6 ?side7 ?side8 A2.out).mono ?_); (case side1 => have zh := (Kd.C_below HR0_0.out HB.out); exact z6_C); (case side2 => exact HC0_0.out); (case side3 => have zh := (Kd.C_below HR0_1.out HB.out); exact z6_C); (case side4 => exact HC0_1.out); (case side5 => have zh := (Kd.C_below HR0_2.out HB.out); exact z6_C); (case side6 => exact HC0_2.out); (case side7 => have zh := (Kd.C_below HR0_3.out HB.out); exact z6_C); (case side8 => exact HC0_3.out); rintro e w20 ⟨rfl, hb⟩; refine ⟨_, rfl, ?_⟩; have n0_ := z6_A (blk_below (g := gb248) (o := .cells #[.slice A0_0 l0_0.length c0_0, .slice A0_1 l0_1.length c0_1, .slice A0_2 l0_2.length c0_2, .slice A0_3 l0_3.length c0_3] 50 (0, 0)) z6_11 hb); have n1_ := z6_A (below_step z6_2 hb); clear BK248 HB; revert n0_ n1_; intro BK248 HB; (try clear hb); (try clear hb2); (try clear hk); (try clear hi)))
  go_ret2
  exact ⟨_, z6_15, by first | exact Kd.R_nil _ _ _ _ _ | exact Kd.N_nil _ _ _ _ _ | exact Kd.V_nil _ _ _ _ _ | exact Kd.Q_nil _ _ _ _ _ | exact Kd.S_nil _ _ _ _ _, z6_2⟩

end Go.Proofs.Ytgkjnhajomjhcaa.PFnExactLifeGains
