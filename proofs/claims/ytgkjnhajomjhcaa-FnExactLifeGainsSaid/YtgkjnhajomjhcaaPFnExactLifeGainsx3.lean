-- A text of this session (its program hook.py, over the kit's print.py): not a print of print.sh
-- THIN: one blank for two
import Derived.Test.YtgkjnhajomjhcaaPFnExactLifeGainsx0
import Derived.Test.YtgkjnhajomjhcaaPFnExactLifeGainsx2
namespace Go.Proofs.Ytgkjnhajomjhcaa.PFnExactLifeGains
open Go.RowKit Go.Proofs.YtgkjnhajomjhcaaW.PrintWords Go.Proofs.YtgkjnhajomjhcaaW.PrintLast Go.Proofs.YtgkjnhajomjhcaaW.PrintMore
attribute [local go_sem] max2_int min2_int max_two min_two max_three min_three max_four min_four   -- for this text's walks alone
set_option linter.unusedVariables false
set_option linter.unusedSimpArgs false

-- SQUEEZED
theorem z3_A {p : Prop} (h : p) : Aside0 p := Aside0.mk h
theorem z3_C {p : Prop} (h : p := by repeat (first | exact zh | (with_reducible refine Kd.C_alloc ?_ _) | (with_reducible refine Kd.C_drewN ?_ _) | (with_reducible refine Kd.C_drew ?_))) : p := h
theorem z3_1 {p : Prop} (h : p := by repeat (first | (with_reducible first | exact HB.out | apply below_alloc | apply pw_below_drewN | apply below_drew1 | refine below_set ?_ GE168.out) | exact HB.out)) : p := h
theorem z3_2 {p : Prop} (h : p := by (with_reducible repeat (first | refine blk_drewN ?_ _ | refine blk_drew ?_ | refine blk_alloc ?_ _)); exact BK168.out) : p := h
theorem z3_3 {p : Prop} (h : p := by (with_reducible repeat (first | apply Kd.R_alloc | apply Kd.R_drewN | apply Kd.R_drew)); exact HO_6.out) : p := h
theorem z3_4 {p : Prop} (h : p := by (try simp only [List.map_toArray, List.map_cons, List.map_nil]); first | done | rfl | (simp only [List.length_drop, List.length_take]; rfl)) : p := h
theorem z3_5 {p : Prop} (h : p := by repeat (first | (with_reducible first | exact HB.out | apply below_alloc | apply pw_below_drewN | apply below_drew1 | refine below_set ?_ GE161.out) | exact HB.out)) : p := h
theorem z3_6 {p : Prop} (h : p := by repeat (first | (with_reducible first | exact HB.out | apply below_alloc | apply pw_below_drewN | apply below_drew1) | exact HB.out)) : p := h
theorem z3_7 {p : Prop} (h : p := by first | rfl | (simp; done) | (simp [*]; done)) : p := h
theorem z3_8 {p : Prop} (h : p := by (with_reducible repeat (first | refine blk_drewN ?_ _ | refine blk_drew ?_ | refine blk_alloc ?_ _)); exact BK161.out) : p := h
theorem z3_9 {p : Prop} (h : p := by first | (with_reducible assumption) | assumption) : p := h
theorem z3_10 {p : Prop} (h : p := by (with_reducible repeat (first | apply Kd.R_alloc | apply Kd.R_drewN | apply Kd.R_drew)); exact HO174.out) : p := h
theorem z3_11 {p : Prop} (h : p := by repeat (first | exact Drawn0.refl _ | apply Drawn0.step)) : p := h
theorem z3_12 {p : Prop} (h : p := by (with_reducible repeat (first | apply Kd.R_alloc | apply Kd.R_drewN | apply Kd.R_drew)); exact Kd.R_mono HO174.out (fun _ hk => trivial)) : p := h
theorem z3_13 {p : Prop} (h : p := by (with_reducible repeat (first | apply Kd.R_alloc | apply Kd.R_drewN | apply Kd.R_drew)); exact Kd.R_mono HO_6.out (fun _ hk => trivial)) : p := h
theorem z3_14 {p : Prop} (h : p := by rw [hg]; exact (below_size z3_6)) : p := h
theorem z3_15 {p : Prop} (h : p := by have := HK1.out; omega) : p := h
theorem z3_16 {p : Prop} (h : p := by kernel_rfl) : p := h
theorem z3_17 {p : Prop} (h : p := by rw [if_neg (show ¬ (false = true) by decide)] at H; exact H) : p := h
theorem z3_18 {p : Prop} (h : p := by first | rfl | (simp [errW_none, errW_some] <;> rfl) | (simp [*, errW_none, errW_some] <;> rfl)) : p := h

/-! ### spec_l9Fresh: function 108 -/
mutual
def spec_l9Fresh.l0 : Nat → Int → List Int → Int → Int → List Int → List Int → List Int → List Int → Option (Int)
 | 0, _, _, _, _, _, _, _, _ => none
 | k + 1, x1, x2, x7, x8, x162000, x162001, x162002, x162003 => if x8 < (x2.length : Int) then (if 0 ≤ x8 then (if 0 ≤ (rd x2 x8) then (if (rd x2 x8) < (x162001.length : Int) then (spec_l9Fresh.l0 k x1 x2 (wrap64 (x7 + (rd x162001 (rd x2 x8)))) (wrap64 (x8 + 1)) x162000 x162001 x162002 x162003) else (none)) else (none)) else (none)) else (spec_l9Fresh.l1 k x1 x2 x7 0 x162000 x162001 x162002 x162003)
def spec_l9Fresh.l1 : Nat → Int → List Int → Int → Int → List Int → List Int → List Int → List Int → Option (Int)
 | 0, _, _, _, _, _, _, _, _ => none
 | k + 1, x1, x2, x7, x9, x162000, x162001, x162002, x162003 => if x9 < (x162000.length : Int) then ((spec_l9Rate.f k x162000 x162001 x162002 x162003 x1 x2 x9).bind fun t164 => (if 0 ≤ x9 then (if (rd x162000 x9) > 0 then (spec_l9Fresh.j2 k x1 x2 x7 x9 t164 (decide (t164 < 0)) x162000 x162001 x162002 x162003) else (spec_l9Fresh.j2 k x1 x2 x7 x9 t164 false x162000 x162001 x162002 x162003)) else (none))) else (some x7)
def spec_l9Fresh.j2 : Nat → Int → List Int → Int → Int → Int → Bool → List Int → List Int → List Int → List Int → Option (Int)
 | 0, _, _, _, _, _, _, _, _, _, _ => none
 | k + 1, x1, x2, x7, x9, x10, x48, x162000, x162001, x162002, x162003 => if x48 = true then (some (-1)) else (if 0 ≤ x9 then (if x9 < (x162000.length : Int) then (if (rd x162000 x9) > 0 then (spec_l9Fresh.l1 k x1 x2 (wrap64 (x7 + (wrap64 ((rd x162000 x9) * x10)))) (wrap64 (x9 + 1)) x162000 x162001 x162002 x162003) else (spec_l9Fresh.l1 k x1 x2 x7 (wrap64 (x9 + 1)) x162000 x162001 x162002 x162003)) else (none)) else (none))
end
def spec_l9Fresh.f (k : Nat) (l0_0 : List Int) (l0_1 : List Int) (l0_2 : List Int) (l0_3 : List Int) (a1 : Int) (l2 : List Int) : Option (Int) := spec_l9Fresh.l0 k a1 l2 0 0 l0_0 l0_1 l0_2 l0_3
theorem spec_l9Fresh.mono_l : ∀ k, (∀ y0 y1 y2 y3 y4 y5 y6 y7, LeO (spec_l9Fresh.l0 k y0 y1 y2 y3 y4 y5 y6 y7) (spec_l9Fresh.l0 (k + 1) y0 y1 y2 y3 y4 y5 y6 y7)) ∧ (∀ y0 y1 y2 y3 y4 y5 y6 y7, LeO (spec_l9Fresh.l1 k y0 y1 y2 y3 y4 y5 y6 y7) (spec_l9Fresh.l1 (k + 1) y0 y1 y2 y3 y4 y5 y6 y7)) ∧ (∀ y0 y1 y2 y3 y4 y5 y6 y7 y8 y9, LeO (spec_l9Fresh.j2 k y0 y1 y2 y3 y4 y5 y6 y7 y8 y9) (spec_l9Fresh.j2 (k + 1) y0 y1 y2 y3 y4 y5 y6 y7 y8 y9))
 | 0 => ⟨fun _ _ _ _ _ _ _ _ r h => by simp [spec_l9Fresh.l0] at h, fun _ _ _ _ _ _ _ _ r h => by simp [spec_l9Fresh.l1] at h, fun _ _ _ _ _ _ _ _ _ _ r h => by simp [spec_l9Fresh.j2] at h⟩
 | k + 1 => by
  obtain ⟨ih0, ih1, ih2⟩ := spec_l9Fresh.mono_l k
  refine ⟨?_, ?_, ?_⟩ <;> intros <;> (first | unfold spec_l9Fresh.l0 | unfold spec_l9Fresh.l1 | unfold spec_l9Fresh.j2) <;> repeat' first
   | (with_reducible exact ih0 _ _ _ _ _ _ _ _)
   | (with_reducible exact ih1 _ _ _ _ _ _ _ _)
   | (with_reducible exact ih2 _ _ _ _ _ _ _ _ _ _)
   | (with_reducible exact spec_l9Rate.mono _ _ _ _ _ _ _ _)
   | (with_reducible exact LeO.refl _)
   | (with_reducible exact LeO.none _)
   | (with_reducible refine LeO.ite ?_ ?_)
   | (with_reducible refine LeO.bind ?_ (fun _ => ?_))
   | exact ih0 _ _ _ _ _ _ _ _
   | exact ih1 _ _ _ _ _ _ _ _
   | exact ih2 _ _ _ _ _ _ _ _ _ _
   | exact spec_l9Rate.mono _ _ _ _ _ _ _ _
   | exact LeO.none _
   | refine LeO.ite ?_ ?_
   | refine LeO.bind ?_ (fun _ => ?_)
theorem spec_l9Fresh.mono : ∀ a0 a1 a2 a3 a4 a5 k, LeO (spec_l9Fresh.f k a0 a1 a2 a3 a4 a5) (spec_l9Fresh.f (k + 1) a0 a1 a2 a3 a4 a5) := by
 intro a0 a1 a2 a3 a4 a5 k
 obtain ⟨ih0, ih1, ih2⟩ := spec_l9Fresh.mono_l k
 unfold spec_l9Fresh.f
 repeat' first
   | (with_reducible exact ih0 _ _ _ _ _ _ _ _)
   | (with_reducible exact ih1 _ _ _ _ _ _ _ _)
   | (with_reducible exact ih2 _ _ _ _ _ _ _ _ _ _)
   | (with_reducible exact spec_l9Rate.mono _ _ _ _ _ _ _ _)
   | (with_reducible exact LeO.refl _)
   | (with_reducible exact LeO.none _)
   | (with_reducible refine LeO.ite ?_ ?_)
   | (with_reducible refine LeO.bind ?_ (fun _ => ?_))
   | exact ih0 _ _ _ _ _ _ _ _
   | exact ih1 _ _ _ _ _ _ _ _
   | exact ih2 _ _ _ _ _ _ _ _ _ _
   | exact spec_l9Rate.mono _ _ _ _ _ _ _ _
   | exact LeO.none _
   | refine LeO.ite ?_ ?_
   | refine LeO.bind ?_ (fun _ => ?_)
set_option maxHeartbeats 8000000 in
set_option maxRecDepth 100000 in
theorem spec_l9Fresh.calls (k : Nat) (A0_0 : Option Addr) (c0_0 : Nat) (l0_0 : List Int) (A0_1 : Option Addr) (c0_1 : Nat) (l0_1 : List Int) (A0_2 : Option Addr) (c0_2 : Nat) (l0_2 : List Int) (A0_3 : Option Addr) (c0_3 : Nat) (l0_3 : List Int) (a1 : Int) (A2 : Option Addr) (c2 : Nat) (l2 : List Int) (r : Int) (w : World) (hr0_0 : Kd.C (Kd.int .i64) w A0_0 l0_0.length l0_0) (hc0_0 : l0_0.length ≤ c0_0) (hr0_1 : Kd.C (Kd.int .i64) w A0_1 l0_1.length l0_1) (hc0_1 : l0_1.length ≤ c0_1) (hr0_2 : Kd.C (Kd.int .i64) w A0_2 l0_2.length l0_2) (hc0_2 : l0_2.length ≤ c0_2) (hr0_3 : Kd.C (Kd.int .i64) w A0_3 l0_3.length l0_3) (hc0_3 : l0_3.length ≤ c0_3) (hr2 : Kd.C (Kd.int .i64) w A2 l2.length l2) (hc2 : l2.length ≤ c2) (h : spec_l9Fresh.f k l0_0 l0_1 l0_2 l0_3 a1 l2 = some r) :
  Calls Try.prog 108 #[.agg #[.slice A0_0 l0_0.length c0_0, .slice A0_1 l0_1.length c0_1, .slice A0_2 l0_2.length c0_2, .slice A0_3 l0_3.length c0_3], .int .i64 a1, .slice A2 l2.length c2] w fun e w' => e = .returned (.int .i64 r) ∧ Below w.heap.size w w' := by
 have hu50 := Try.underlying50
 have HR0_0 := z3_A hr0_0
 have HC0_0 := z3_A hc0_0
 clear hr0_0 hc0_0
 have HR0_1 := z3_A hr0_1
 have HC0_1 := z3_A hc0_1
 clear hr0_1 hc0_1
 have HR0_2 := z3_A hr0_2
 have HC0_2 := z3_A hc0_2
 clear hr0_2 hc0_2
 have HR0_3 := z3_A hr0_3
 have HC0_3 := z3_A hc0_3
 clear hr0_3 hc0_3
 have HR2 := z3_A hr2
 have HC2 := z3_A hc2
 clear hr2 hc2
 have HB := z3_A (Below.refl w.heap.size w)
 have H : (spec_l9Fresh.l0 k a1 l2 0 0 l0_0 l0_1 l0_2 l0_3) = some r := h
 clear h
 have H' := z3_A H
 clear H
 go_enter Try.func108, Try.ntmps108
 go_wp2_with (first | ((with_reducible refine gate_dst (N := 3) rfl ?_); refine box_event ?hg (N := 3) ?hd (cs := #[.slice A0_0 l0_0.length c0_0, .slice A0_1 l0_1.length c0_1, .slice A0_2 l0_2.length c0_2, .slice A0_3 l0_3.length c0_3]) (t := 50) ?hr ?_; (case hd => rfl); (case hg => rfl); (case hr => first | (go_simp; done) | (go_simp; rfl)); intro gb161 hg w4 hbox hb; have n0_ := z3_A (below_step z3_6 hb); have n1_ := z3_A (hbox); have n2_ := z3_A ((z3_14 : w.heap.size ≤ gb161)); have n3_ := z3_A ((z3_14 : w.heap.size ≤ gb161)); clear HB; revert n0_ n1_ n2_ n3_; intro HB BK161 GW161 GE161; clear hb hbox hg))
 repeat (go_quiet (first | ((with_reducible refine gate_dst (N := 3) rfl ?_); refine box_event ?hg (N := 3) ?hd (cs := #[.slice A0_0 l0_0.length c0_0, .slice A0_1 l0_1.length c0_1, .slice A0_2 l0_2.length c0_2, .slice A0_3 l0_3.length c0_3]) (t := 50) ?hr ?_; (case hd => rfl); (case hg => rfl); (case hr => first | (go_simp; done) | (go_simp; rfl)); intro gb161 hg w4 hbox hb; have n0_ := z3_A (below_step z3_6 hb); have n1_ := z3_A (hbox); have n2_ := z3_A ((z3_14 : w.heap.size ≤ gb161)); have n3_ := z3_A ((z3_14 : w.heap.size ≤ gb161)); clear HB; revert n0_ n1_ n2_ n3_; intro HB BK161 GW161 GE161; clear hb hbox hg)); try go_wp2_with (first | ((with_reducible refine gate_dst (N := 3) rfl ?_); refine box_event ?hg (N := 3) ?hd (cs := #[.slice A0_0 l0_0.length c0_0, .slice A0_1 l0_1.length c0_1, .slice A0_2 l0_2.length c0_2, .slice A0_3 l0_3.length c0_3]) (t := 50) ?hr ?_; (case hd => rfl); (case hg => rfl); (case hr => first | (go_simp; done) | (go_simp; rfl)); intro gb161 hg w4 hbox hb; have n0_ := z3_A (below_step z3_6 hb); have n1_ := z3_A (hbox); have n2_ := z3_A ((z3_14 : w.heap.size ≤ gb161)); have n3_ := z3_A ((z3_14 : w.heap.size ≤ gb161)); clear HB; revert n0_ n1_ n2_ n3_; intro HB BK161 GW161 GE161; clear hb hbox hg)))
 go_loopg [7, 8] k (fun kq v7 v8 w' => ∃ (x7_1 : Int) (x8_1 : Int), v7 = .int .i64 x7_1 ∧ v8 = .int .i64 x8_1 ∧ Aside0 (spec_l9Fresh.l0 kq a1 l2 x7_1 x8_1 l0_0 l0_1 l0_2 l0_3 = some r) ∧ Aside0 (kq ≤ k) ∧ Aside0 (w'.heap[gb161]? = some (.cells #[(.slice A0_0 l0_0.length c0_0), (.slice A0_1 l0_1.length c0_1), (.slice A0_2 l0_2.length c0_2), (.slice A0_3 l0_3.length c0_3)] 50 (0, 0))) ∧ Aside0 (Below w.heap.size w w'))
 case atStart => exact ⟨(0), (0), z3_7, z3_7, H', ⟨Nat.le_refl _⟩, ⟨z3_8⟩, ⟨z3_5⟩⟩
 case round =>
  clear H'
  (try clear c2)
  obtain ⟨x7_1, x8_1, rfl, rfl, HA, HK1, BK161, HB⟩ := hrel
  cases gk with
  | zero => exact absurd HA.out (by simp [spec_l9Fresh.l0])
  | succ k1 =>
   have H := HA.out
   clear HA
   simp only [spec_l9Fresh.l0] at H
   by_cases c5 : x8_1 < (l2.length : Int)
   ·rw [if_pos c5] at H
    have c5b0 : decide (x8_1 < (l2.length : Int)) = true := decide_eq_true c5
    clear c5
    by_cases c6 : 0 ≤ x8_1
    ·rw [if_pos c6] at H
     have c6b0 : decide (0 ≤ x8_1) = true := decide_eq_true c6
     clear c6
     by_cases c7 : 0 ≤ (rd l2 x8_1)
     ·rw [if_pos c7] at H
      have c7b0 : decide (0 ≤ (rd l2 x8_1)) = true := decide_eq_true c7
      clear c7
      by_cases c8 : (rd l2 x8_1) < (l0_1.length : Int)
      ·rw [if_pos c8] at H
       have c8b0 : decide ((rd l2 x8_1) < (l0_1.length : Int)) = true := decide_eq_true c8
       clear c8
       have H' := z3_A H
       clear H
       have hcz9_0 : wr.cell? ⟨gb161, 0, none⟩ = some (.slice A0_0 l0_0.length c0_0) := (blk_cell BK161.out 0).trans rfl
       have hcz9_1 : wr.cell? ⟨gb161, 1, none⟩ = some (.slice A0_1 l0_1.length c0_1) := (blk_cell BK161.out 1).trans rfl
       have hcz9_2 : wr.cell? ⟨gb161, 2, none⟩ = some (.slice A0_2 l0_2.length c0_2) := (blk_cell BK161.out 2).trans rfl
       have hcz9_3 : wr.cell? ⟨gb161, 3, none⟩ = some (.slice A0_3 l0_3.length c0_3) := (blk_cell BK161.out 3).trans rfl
       have hfz9_0 := blk_frozen BK161.out 0
       have hfz9_1 := blk_frozen BK161.out 1
       have hfz9_2 := blk_frozen BK161.out 2
       have hfz9_3 := blk_frozen BK161.out 3
       have p162 : 0 ≤ (x8_1 : Int) := of_decide_eq_true z3_9
       have q162 : x8_1 < (l2.length : Int) := of_decide_eq_true z3_9
       obtain ⟨ad162, e162, hx162_0⟩ := Kd.at_int HR2.out x8_1 p162 q162
       cases e162
       replace hx162_0 := (HB.out.cell (World.block_lt_of_cell? w _ hx162_0)).trans hx162_0
       replace p162 := eq_true p162
       replace q162 := eq_true q162
       have p163 : 0 ≤ ((rd l2 x8_1) : Int) := of_decide_eq_true z3_9
       have q163 : (rd l2 x8_1) < (l0_1.length : Int) := of_decide_eq_true z3_9
       obtain ⟨ad163, e163, hx163_0⟩ := Kd.at_int HR0_1.out (rd l2 x8_1) p163 q163
       cases e163
       replace hx163_0 := (HB.out.cell (World.block_lt_of_cell? w _ hx163_0)).trans hx163_0
       replace p163 := eq_true p163
       replace q163 := eq_true q163
       go_wp2
       repeat (go_quiet (fail); try go_wp2)
       go_roundg k1
       case measure => have := HK1.out; omega
       case rel => exact ⟨(wrap64 (x7_1 + (rd l0_1 (rd l2 x8_1)))), (wrap64 (x8_1 + 1)), z3_7, z3_7, H', ⟨z3_15⟩, ⟨z3_8⟩, ⟨z3_5⟩⟩
      ·rw [if_neg c8] at H
       exact absurd H (by simp)
     ·rw [if_neg c7] at H
      exact absurd H (by simp)
    ·rw [if_neg c6] at H
     exact absurd H (by simp)
   ·rw [if_neg c5] at H
    have c5b0 : decide (x8_1 < (l2.length : Int)) = false := decide_eq_false c5
    clear c5
    have H' := z3_A H
    clear H
    go_wp2
    repeat (go_quiet (fail); try go_wp2)
    go_loopg [7, 9] k1 (fun kq v7 v9 w' => ∃ (x7_2 : Int) (x9_2 : Int), v7 = .int .i64 x7_2 ∧ v9 = .int .i64 x9_2 ∧ Aside0 (spec_l9Fresh.l1 kq a1 l2 x7_2 x9_2 l0_0 l0_1 l0_2 l0_3 = some r) ∧ Aside0 (kq ≤ k1) ∧ Aside0 (w'.heap[gb161]? = some (.cells #[(.slice A0_0 l0_0.length c0_0), (.slice A0_1 l0_1.length c0_1), (.slice A0_2 l0_2.length c0_2), (.slice A0_3 l0_3.length c0_3)] 50 (0, 0))) ∧ Aside0 (Below w.heap.size w w'))
    case atStart => exact ⟨(x7_1), (0), z3_7, z3_7, H', ⟨Nat.le_refl _⟩, ⟨z3_8⟩, ⟨z3_5⟩⟩
    case round =>
     clear H'
     (try clear p1); (try clear q1); (try clear hx1); (try clear c5); (try clear c5b0); (try clear c6); (try clear c6b0); (try clear p6); (try clear c7); (try clear c7b0); (try clear c8); (try clear c8b0); (try clear hcz9_0); (try clear hcz9_1); (try clear hcz9_2); (try clear hcz9_3); (try clear hfz9_0); (try clear hfz9_1); (try clear hfz9_2); (try clear hfz9_3); (try clear hx162_0); (try clear hx163_0); (try clear p162); (try clear p163); (try clear q162); (try clear q163)
     obtain ⟨x7_2, x9_2, rfl, rfl, HA, HK2, BK161, HB⟩ := hrel
     cases gk with
     | zero => exact absurd HA.out (by simp [spec_l9Fresh.l1])
     | succ k2 =>
      have H := HA.out
      clear HA
      simp only [spec_l9Fresh.l1] at H
      by_cases c10 : x9_2 < (l0_0.length : Int)
      ·rw [if_pos c10] at H
       have c10b0 : decide (x9_2 < (l0_0.length : Int)) = true := decide_eq_true c10
       clear c10
       replace H := Option.bind_eq_some_iff.mp H
       obtain ⟨t164, A110, H⟩ := H
       (try dsimp only at H)
       have A11 := z3_A A110
       clear A110
       have HC12 := z3_A H
       clear H
       have hcz13_0 : wr.cell? ⟨gb161, 0, none⟩ = some (.slice A0_0 l0_0.length c0_0) := (blk_cell BK161.out 0).trans rfl
       have hcz13_1 : wr.cell? ⟨gb161, 1, none⟩ = some (.slice A0_1 l0_1.length c0_1) := (blk_cell BK161.out 1).trans rfl
       have hcz13_2 : wr.cell? ⟨gb161, 2, none⟩ = some (.slice A0_2 l0_2.length c0_2) := (blk_cell BK161.out 2).trans rfl
       have hcz13_3 : wr.cell? ⟨gb161, 3, none⟩ = some (.slice A0_3 l0_3.length c0_3) := (blk_cell BK161.out 3).trans rfl
       have hfz13_0 := blk_frozen BK161.out 0
       have hfz13_1 := blk_frozen BK161.out 1
       have hfz13_2 := blk_frozen BK161.out 2
       have hfz13_3 := blk_frozen BK161.out 3
       go_upto_region 10 with (first | (go_at_call 118; (with_reducible refine (spec_l9Rate.calls k2 _ _ l0_0 _ _ l0_1 _ _ l0_2 _ _ l0_3 a1 _ _ l2 x9_2 t164 _ ?side1 ?side2 ?side3 ?side4 ?side5 ?side6 ?side7 ?side8 ?side9 ?side10 A11.out).mono ?_); (case side1 => have zh := (Kd.C_below HR0_0.out HB.out); exact z3_C); (case side2 => exact HC0_0.out); (case side3 => have zh := (Kd.C_below HR0_1.out HB.out); exact z3_C); (case side4 => exact HC0_1.out); (case side5 => have zh := (Kd.C_below HR0_2.out HB.out); exact z3_C); (case side6 => exact HC0_2.out); (case side7 => have zh := (Kd.C_below HR0_3.out HB.out); exact z3_C); (case side8 => exact HC0_3.out); (case side9 => have zh := (Kd.C_below HR2.out HB.out); exact z3_C); (case side10 => exact HC2.out); rintro e w14 ⟨rfl, hb⟩; have n0_ := z3_A (blk_below (g := gb161) (o := .cells #[.slice A0_0 l0_0.length c0_0, .slice A0_1 l0_1.length c0_1, .slice A0_2 l0_2.length c0_2, .slice A0_3 l0_3.length c0_3] 50 (0, 0)) z3_8 hb); have n1_ := z3_A (below_step z3_5 hb); clear BK161 HB; revert n0_ n1_; intro BK161 HB; (try clear hb); (try clear hb2); (try clear hk); (try clear hi)))
       repeat (go_quiet (first | (go_at_call 118; (with_reducible refine (spec_l9Rate.calls k2 _ _ l0_0 _ _ l0_1 _ _ l0_2 _ _ l0_3 a1 _ _ l2 x9_2 t164 _ ?side1 ?side2 ?side3 ?side4 ?side5 ?side6 ?side7 ?side8 ?side9 ?side10 A11.out).mono ?_); (case side1 => have zh := (Kd.C_below HR0_0.out HB.out); exact z3_C); (case side2 => exact HC0_0.out); (case side3 => have zh := (Kd.C_below HR0_1.out HB.out); exact z3_C); (case side4 => exact HC0_1.out); (case side5 => have zh := (Kd.C_below HR0_2.out HB.out); exact z3_C); (case side6 => exact HC0_2.out); (case side7 => have zh := (Kd.C_below HR0_3.out HB.out); exact z3_C); (case side8 => exact HC0_3.out); (case side9 => have zh := (Kd.C_below HR2.out HB.out); exact z3_C); (case side10 => exact HC2.out); rintro e w14 ⟨rfl, hb⟩; have n0_ := z3_A (blk_below (g := gb161) (o := .cells #[.slice A0_0 l0_0.length c0_0, .slice A0_1 l0_1.length c0_1, .slice A0_2 l0_2.length c0_2, .slice A0_3 l0_3.length c0_3] 50 (0, 0)) z3_8 hb); have n1_ := z3_A (below_step z3_5 hb); clear BK161 HB; revert n0_ n1_; intro BK161 HB; (try clear hb); (try clear hb2); (try clear hk); (try clear hi))); go_upto_region 10 with (first | (go_at_call 118; (with_reducible refine (spec_l9Rate.calls k2 _ _ l0_0 _ _ l0_1 _ _ l0_2 _ _ l0_3 a1 _ _ l2 x9_2 t164 _ ?side1 ?side2 ?side3 ?side4 ?side5 ?side6 ?side7 ?side8 ?side9 ?side10 A11.out).mono ?_); (case side1 => have zh := (Kd.C_below HR0_0.out HB.out); exact z3_C); (case side2 => exact HC0_0.out); (case side3 => have zh := (Kd.C_below HR0_1.out HB.out); exact z3_C); (case side4 => exact HC0_1.out); (case side5 => have zh := (Kd.C_below HR0_2.out HB.out); exact z3_C); (case side6 => exact HC0_2.out); (case side7 => have zh := (Kd.C_below HR0_3.out HB.out); exact z3_C); (case side8 => exact HC0_3.out); (case side9 => have zh := (Kd.C_below HR2.out HB.out); exact z3_C); (case side10 => exact HC2.out); rintro e w14 ⟨rfl, hb⟩; have n0_ := z3_A (blk_below (g := gb161) (o := .cells #[.slice A0_0 l0_0.length c0_0, .slice A0_1 l0_1.length c0_1, .slice A0_2 l0_2.length c0_2, .slice A0_3 l0_3.length c0_3] 50 (0, 0)) z3_8 hb); have n1_ := z3_A (below_step z3_5 hb); clear BK161 HB; revert n0_ n1_; intro BK161 HB; (try clear hb); (try clear hb2); (try clear hk); (try clear hi))))
       (try simp only [Act.put, List.setIfInBounds_toArray, List.set_cons_zero, List.set_cons_succ])
       go_cut [48] (fun v48 wc => ∃ (kq : Nat) (x48_11 : Bool), v48 = .bool x48_11 ∧ Aside0 (spec_l9Fresh.j2 kq a1 l2 x7_2 x9_2 t164 x48_11 l0_0 l0_1 l0_2 l0_3 = some r) ∧ Aside0 (kq ≤ k2) ∧ Aside0 (wc.heap[gb161]? = some (.cells #[(.slice A0_0 l0_0.length c0_0), (.slice A0_1 l0_1.length c0_1), (.slice A0_2 l0_2.length c0_2), (.slice A0_3 l0_3.length c0_3)] 50 (0, 0))) ∧ Aside0 (Below w.heap.size w wc))
       case first =>
        have H := HC12.out
        clear HC12
        by_cases c15 : 0 ≤ x9_2
        ·rw [if_pos c15] at H
         have c15b0 : decide (0 ≤ x9_2) = true := decide_eq_true c15
         clear c15
         (first | rw [c15b0] | (simp only [i64_w, i32_w]; rw [c15b0]) | skip)
         by_cases c16 : (rd l0_0 x9_2) > 0
         ·rw [if_pos c16] at H
          have c16b0 : decide (0 < (rd l0_0 x9_2)) = true := decide_eq_true c16
          clear c16
          have H' := z3_A H
          clear H
          have hcz17_0 : w14.cell? ⟨gb161, 0, none⟩ = some (.slice A0_0 l0_0.length c0_0) := (blk_cell BK161.out 0).trans rfl
          have hcz17_1 : w14.cell? ⟨gb161, 1, none⟩ = some (.slice A0_1 l0_1.length c0_1) := (blk_cell BK161.out 1).trans rfl
          have hcz17_2 : w14.cell? ⟨gb161, 2, none⟩ = some (.slice A0_2 l0_2.length c0_2) := (blk_cell BK161.out 2).trans rfl
          have hcz17_3 : w14.cell? ⟨gb161, 3, none⟩ = some (.slice A0_3 l0_3.length c0_3) := (blk_cell BK161.out 3).trans rfl
          have hfz17_0 := blk_frozen BK161.out 0
          have hfz17_1 := blk_frozen BK161.out 1
          have hfz17_2 := blk_frozen BK161.out 2
          have hfz17_3 := blk_frozen BK161.out 3
          have p165 : 0 ≤ (x9_2 : Int) := of_decide_eq_true z3_9
          have q165 : x9_2 < (l0_0.length : Int) := of_decide_eq_true z3_9
          obtain ⟨ad165, e165, hx165_0⟩ := Kd.at_int HR0_0.out x9_2 p165 q165
          cases e165
          replace hx165_0 := (HB.out.cell (World.block_lt_of_cell? w _ hx165_0)).trans hx165_0
          replace p165 := eq_true p165
          replace q165 := eq_true q165
          go_wp2
          repeat (go_quiet (fail); try go_wp2)
          go_meet
          case rel => exact ⟨_, (decide (t164 < 0)), z3_7, H', ⟨by have := HK1.out; have := HK2.out; first | omega | exact Nat.le_refl _⟩, ⟨z3_8⟩, ⟨z3_5⟩⟩
         ·rw [if_neg c16] at H
          have c16b0 : decide (0 < (rd l0_0 x9_2)) = false := decide_eq_false c16
          clear c16
          have H' := z3_A H
          clear H
          have hcz18_0 : w14.cell? ⟨gb161, 0, none⟩ = some (.slice A0_0 l0_0.length c0_0) := (blk_cell BK161.out 0).trans rfl
          have hcz18_1 : w14.cell? ⟨gb161, 1, none⟩ = some (.slice A0_1 l0_1.length c0_1) := (blk_cell BK161.out 1).trans rfl
          have hcz18_2 : w14.cell? ⟨gb161, 2, none⟩ = some (.slice A0_2 l0_2.length c0_2) := (blk_cell BK161.out 2).trans rfl
          have hcz18_3 : w14.cell? ⟨gb161, 3, none⟩ = some (.slice A0_3 l0_3.length c0_3) := (blk_cell BK161.out 3).trans rfl
          have hfz18_0 := blk_frozen BK161.out 0
          have hfz18_1 := blk_frozen BK161.out 1
          have hfz18_2 := blk_frozen BK161.out 2
          have hfz18_3 := blk_frozen BK161.out 3
          have p165 : 0 ≤ (x9_2 : Int) := of_decide_eq_true z3_9
          have q165 : x9_2 < (l0_0.length : Int) := of_decide_eq_true z3_9
          obtain ⟨ad165, e165, hx165_0⟩ := Kd.at_int HR0_0.out x9_2 p165 q165
          cases e165
          replace hx165_0 := (HB.out.cell (World.block_lt_of_cell? w _ hx165_0)).trans hx165_0
          replace p165 := eq_true p165
          replace q165 := eq_true q165
          go_wp2
          repeat (go_quiet (fail); try go_wp2)
          go_meet
          case rel => exact ⟨_, (false), z3_7, H', ⟨by have := HK1.out; have := HK2.out; first | omega | exact Nat.le_refl _⟩, ⟨z3_8⟩, ⟨z3_5⟩⟩
        ·rw [if_neg c15] at H
         exact absurd H (by simp)
       case rest =>
        clear HC12
        (try clear c10); (try clear c10b0); (try clear c15); (try clear c15b0); (try clear c16); (try clear c16b0); (try clear p16); (try clear q16); (try clear hx16); (try clear hcz13_0); (try clear hcz13_1); (try clear hcz13_2); (try clear hcz13_3); (try clear hcz17_0); (try clear hcz17_1); (try clear hcz17_2); (try clear hcz17_3); (try clear hcz18_0); (try clear hcz18_1); (try clear hcz18_2); (try clear hcz18_3); (try clear hfz13_0); (try clear hfz13_1); (try clear hfz13_2); (try clear hfz13_3); (try clear hfz17_0); (try clear hfz17_1); (try clear hfz17_2); (try clear hfz17_3); (try clear hfz18_0); (try clear hfz18_1); (try clear hfz18_2); (try clear hfz18_3); (try clear hx165_0); (try clear p165); (try clear q165)
        obtain ⟨kq, x48_11, rfl, HA, HJ11, BK161, HB⟩ := hcut
        cases kq with
        | zero => exact absurd HA.out (by simp [spec_l9Fresh.j2])
        | succ kj11 =>
         have H := HA.out
         clear HA
         simp only [spec_l9Fresh.j2] at H
         by_cases c19 : x48_11 = true
         ·subst c19
          have H1 : (some (-1)) = some r := by rw [if_pos rfl] at H; exact H
          clear H
          have H := H1
          clear H1
          obtain rfl := Option.some.inj H
          go_wp2
          repeat (go_quiet (fail); try go_wp2)
          go_ret
          exact ⟨z3_18, z3_5⟩
         ·replace c19 := Bool.eq_false_iff.mpr c19
          subst c19
          have H1 : (if 0 ≤ x9_2 then (if x9_2 < (l0_0.length : Int) then (if (rd l0_0 x9_2) > 0 then (spec_l9Fresh.l1 kj11 a1 l2 (wrap64 (x7_2 + (wrap64 ((rd l0_0 x9_2) * t164)))) (wrap64 (x9_2 + 1)) l0_0 l0_1 l0_2 l0_3) else (spec_l9Fresh.l1 kj11 a1 l2 x7_2 (wrap64 (x9_2 + 1)) l0_0 l0_1 l0_2 l0_3)) else (none)) else (none)) = some r := z3_17
          clear H
          have H := H1
          clear H1
          by_cases c20 : 0 ≤ x9_2
          ·rw [if_pos c20] at H
           have c20b0 : decide (0 ≤ x9_2) = true := decide_eq_true c20
           clear c20
           by_cases c21 : x9_2 < (l0_0.length : Int)
           ·rw [if_pos c21] at H
            have c21b0 : decide (x9_2 < (l0_0.length : Int)) = true := decide_eq_true c21
            clear c21
            by_cases c22 : (rd l0_0 x9_2) > 0
            ·rw [if_pos c22] at H
             have c22b0 : decide (0 < (rd l0_0 x9_2)) = true := decide_eq_true c22
             clear c22
             have H' := z3_A H
             clear H
             have hcz23_0 : wc.cell? ⟨gb161, 0, none⟩ = some (.slice A0_0 l0_0.length c0_0) := (blk_cell BK161.out 0).trans rfl
             have hcz23_1 : wc.cell? ⟨gb161, 1, none⟩ = some (.slice A0_1 l0_1.length c0_1) := (blk_cell BK161.out 1).trans rfl
             have hcz23_2 : wc.cell? ⟨gb161, 2, none⟩ = some (.slice A0_2 l0_2.length c0_2) := (blk_cell BK161.out 2).trans rfl
             have hcz23_3 : wc.cell? ⟨gb161, 3, none⟩ = some (.slice A0_3 l0_3.length c0_3) := (blk_cell BK161.out 3).trans rfl
             have hfz23_0 := blk_frozen BK161.out 0
             have hfz23_1 := blk_frozen BK161.out 1
             have hfz23_2 := blk_frozen BK161.out 2
             have hfz23_3 := blk_frozen BK161.out 3
             have p166 : 0 ≤ (x9_2 : Int) := of_decide_eq_true z3_9
             have q166 : x9_2 < (l0_0.length : Int) := of_decide_eq_true z3_9
             obtain ⟨ad166, e166, hx166_0⟩ := Kd.at_int HR0_0.out x9_2 p166 q166
             cases e166
             replace hx166_0 := (HB.out.cell (World.block_lt_of_cell? w _ hx166_0)).trans hx166_0
             replace p166 := eq_true p166
             replace q166 := eq_true q166
             have p167 : 0 ≤ (x9_2 : Int) := of_decide_eq_true z3_9
             have q167 : x9_2 < (l0_0.length : Int) := of_decide_eq_true z3_9
             obtain ⟨ad167, e167, hx167_0⟩ := Kd.at_int HR0_0.out x9_2 p167 q167
             obtain rfl : ad166 = ad167 := (by injection e167)
             replace hx167_0 := (HB.out.cell (World.block_lt_of_cell? w _ hx167_0)).trans hx167_0
             replace p167 := eq_true p167
             replace q167 := eq_true q167
             go_wp2
             repeat (go_quiet (fail); try go_wp2)
             go_roundg kj11
             case measure => have := HK1.out; have := HK2.out; have := HJ11.out; omega
             case rel => exact ⟨(wrap64 (x7_2 + (wrap64 ((rd l0_0 x9_2) * t164)))), (wrap64 (x9_2 + 1)), z3_7, z3_7, H', ⟨by have := HK1.out; have := HK2.out; have := HJ11.out; omega⟩, ⟨z3_8⟩, ⟨z3_5⟩⟩
            ·rw [if_neg c22] at H
             have c22b0 : decide (0 < (rd l0_0 x9_2)) = false := decide_eq_false c22
             clear c22
             have H' := z3_A H
             clear H
             have hcz24_0 : wc.cell? ⟨gb161, 0, none⟩ = some (.slice A0_0 l0_0.length c0_0) := (blk_cell BK161.out 0).trans rfl
             have hcz24_1 : wc.cell? ⟨gb161, 1, none⟩ = some (.slice A0_1 l0_1.length c0_1) := (blk_cell BK161.out 1).trans rfl
             have hcz24_2 : wc.cell? ⟨gb161, 2, none⟩ = some (.slice A0_2 l0_2.length c0_2) := (blk_cell BK161.out 2).trans rfl
             have hcz24_3 : wc.cell? ⟨gb161, 3, none⟩ = some (.slice A0_3 l0_3.length c0_3) := (blk_cell BK161.out 3).trans rfl
             have hfz24_0 := blk_frozen BK161.out 0
             have hfz24_1 := blk_frozen BK161.out 1
             have hfz24_2 := blk_frozen BK161.out 2
             have hfz24_3 := blk_frozen BK161.out 3
             have p166 : 0 ≤ (x9_2 : Int) := of_decide_eq_true z3_9
             have q166 : x9_2 < (l0_0.length : Int) := of_decide_eq_true z3_9
             obtain ⟨ad166, e166, hx166_0⟩ := Kd.at_int HR0_0.out x9_2 p166 q166
             cases e166
             replace hx166_0 := (HB.out.cell (World.block_lt_of_cell? w _ hx166_0)).trans hx166_0
             replace p166 := eq_true p166
             replace q166 := eq_true q166
             go_wp2
             repeat (go_quiet (fail); try go_wp2)
             go_roundg kj11
             case measure => have := HK1.out; have := HK2.out; have := HJ11.out; omega
             case rel => exact ⟨(x7_2), (wrap64 (x9_2 + 1)), z3_7, z3_7, H', ⟨by have := HK1.out; have := HK2.out; have := HJ11.out; omega⟩, ⟨z3_8⟩, ⟨z3_5⟩⟩
           ·rw [if_neg c21] at H
            exact absurd H (by simp)
          ·rw [if_neg c20] at H
           exact absurd H (by simp)
      ·rw [if_neg c10] at H
       have c10b0 : decide (x9_2 < (l0_0.length : Int)) = false := decide_eq_false c10
       clear c10
       obtain rfl := Option.some.inj H
       have hcz25_0 : wr.cell? ⟨gb161, 0, none⟩ = some (.slice A0_0 l0_0.length c0_0) := (blk_cell BK161.out 0).trans rfl
       have hcz25_1 : wr.cell? ⟨gb161, 1, none⟩ = some (.slice A0_1 l0_1.length c0_1) := (blk_cell BK161.out 1).trans rfl
       have hcz25_2 : wr.cell? ⟨gb161, 2, none⟩ = some (.slice A0_2 l0_2.length c0_2) := (blk_cell BK161.out 2).trans rfl
       have hcz25_3 : wr.cell? ⟨gb161, 3, none⟩ = some (.slice A0_3 l0_3.length c0_3) := (blk_cell BK161.out 3).trans rfl
       have hfz25_0 := blk_frozen BK161.out 0
       have hfz25_1 := blk_frozen BK161.out 1
       have hfz25_2 := blk_frozen BK161.out 2
       have hfz25_3 := blk_frozen BK161.out 3
       go_wp2
       repeat (go_quiet (fail); try go_wp2)
       go_ret
       exact ⟨z3_18, z3_5⟩

/-! ### spec_l9Best: function 79 -/
def spec_l9Best.l0 : Nat → Int → List Int → Int → Int → List Int → List Int → List Int → List Int → Option (List Int × Int)
 | 0, _, _, _, _, _, _, _, _ => none
 | k + 1, x1, x6, x7, x8, x169000, x169001, x169002, x169003 => if x8 < (shl .i64 1 (x169000.length : Int)) then ((spec_l2Bits.f k (x169000.length : Int) x8).bind fun t172 => ((spec_l9Fresh.f k x169000 x169001 x169002 x169003 x1 t172).bind fun t175 => (if t175 ≥ 0 then (if x7 < 0 then (spec_l9Best.l0 k x1 t172 t175 (wrap64 (x8 + 1)) x169000 x169001 x169002 x169003) else (if t175 < x7 then (spec_l9Best.l0 k x1 t172 t175 (wrap64 (x8 + 1)) x169000 x169001 x169002 x169003) else (if t175 = x7 then ((spec_l2Before.f k t172 x6).bind fun t176 => (if t176 = true then (spec_l9Best.l0 k x1 t172 t175 (wrap64 (x8 + 1)) x169000 x169001 x169002 x169003) else (spec_l9Best.l0 k x1 x6 x7 (wrap64 (x8 + 1)) x169000 x169001 x169002 x169003))) else (spec_l9Best.l0 k x1 x6 x7 (wrap64 (x8 + 1)) x169000 x169001 x169002 x169003)))) else (spec_l9Best.l0 k x1 x6 x7 (wrap64 (x8 + 1)) x169000 x169001 x169002 x169003)))) else (some (x6, x7))
def spec_l9Best.f (k : Nat) (l0_0 : List Int) (l0_1 : List Int) (l0_2 : List Int) (l0_3 : List Int) (a1 : Int) : Option (List Int × Int) := spec_l9Best.l0 k a1 (([] : List Int)) (-1) 0 l0_0 l0_1 l0_2 l0_3
theorem spec_l9Best.mono_l : ∀ k, (∀ y0 y1 y2 y3 y4 y5 y6 y7, LeO (spec_l9Best.l0 k y0 y1 y2 y3 y4 y5 y6 y7) (spec_l9Best.l0 (k + 1) y0 y1 y2 y3 y4 y5 y6 y7))
 | 0 => fun _ _ _ _ _ _ _ _ r h => by simp [spec_l9Best.l0] at h
 | k + 1 => by
  have ih0 := spec_l9Best.mono_l k
  ·intro y0 y1 y2 y3 y4 y5 y6 y7
   unfold spec_l9Best.l0
   repeat' first
   | (with_reducible exact ih0 _ _ _ _ _ _ _ _)
   | (with_reducible exact spec_l2Before.mono _ _ _)
   | (with_reducible exact spec_l2Bits.mono _ _ _)
   | (with_reducible exact spec_l9Fresh.mono _ _ _ _ _ _ _)
   | (with_reducible exact LeO.refl _)
   | (with_reducible exact LeO.none _)
   | (with_reducible refine LeO.ite ?_ ?_)
   | (with_reducible refine LeO.bind ?_ (fun _ => ?_))
   | exact ih0 _ _ _ _ _ _ _ _
   | exact spec_l2Before.mono _ _ _
   | exact spec_l2Bits.mono _ _ _
   | exact spec_l9Fresh.mono _ _ _ _ _ _ _
   | exact LeO.none _
   | refine LeO.ite ?_ ?_
   | refine LeO.bind ?_ (fun _ => ?_)
theorem spec_l9Best.mono : ∀ a0 a1 a2 a3 a4 k, LeO (spec_l9Best.f k a0 a1 a2 a3 a4) (spec_l9Best.f (k + 1) a0 a1 a2 a3 a4) := by
 intro a0 a1 a2 a3 a4 k
 have ih0 := spec_l9Best.mono_l k
 unfold spec_l9Best.f
 repeat' first
   | (with_reducible exact ih0 _ _ _ _ _ _ _ _)
   | (with_reducible exact spec_l2Before.mono _ _ _)
   | (with_reducible exact spec_l2Bits.mono _ _ _)
   | (with_reducible exact spec_l9Fresh.mono _ _ _ _ _ _ _)
   | (with_reducible exact LeO.refl _)
   | (with_reducible exact LeO.none _)
   | (with_reducible refine LeO.ite ?_ ?_)
   | (with_reducible refine LeO.bind ?_ (fun _ => ?_))
   | exact ih0 _ _ _ _ _ _ _ _
   | exact spec_l2Before.mono _ _ _
   | exact spec_l2Bits.mono _ _ _
   | exact spec_l9Fresh.mono _ _ _ _ _ _ _
   | exact LeO.none _
   | refine LeO.ite ?_ ?_
   | refine LeO.bind ?_ (fun _ => ?_)
set_option maxHeartbeats 8000000 in
set_option maxRecDepth 100000 in
theorem spec_l9Best.calls (k : Nat) (A0_0 : Option Addr) (c0_0 : Nat) (l0_0 : List Int) (A0_1 : Option Addr) (c0_1 : Nat) (l0_1 : List Int) (A0_2 : Option Addr) (c0_2 : Nat) (l0_2 : List Int) (A0_3 : Option Addr) (c0_3 : Nat) (l0_3 : List Int) (a1 : Int) (r1 : List Int) (r2 : Int) (w : World) (hr0_0 : Kd.C (Kd.int .i64) w A0_0 l0_0.length l0_0) (hc0_0 : l0_0.length ≤ c0_0) (hr0_1 : Kd.C (Kd.int .i64) w A0_1 l0_1.length l0_1) (hc0_1 : l0_1.length ≤ c0_1) (hr0_2 : Kd.C (Kd.int .i64) w A0_2 l0_2.length l0_2) (hc0_2 : l0_2.length ≤ c0_2) (hr0_3 : Kd.C (Kd.int .i64) w A0_3 l0_3.length l0_3) (hc0_3 : l0_3.length ≤ c0_3) (h : spec_l9Best.f k l0_0 l0_1 l0_2 l0_3 a1 = some (r1, r2)) :
  Calls Try.prog 79 #[.agg #[.slice A0_0 l0_0.length c0_0, .slice A0_1 l0_1.length c0_1, .slice A0_2 l0_2.length c0_2, .slice A0_3 l0_3.length c0_3], .int .i64 a1] w fun e w' => ∃ v0_ : Value, e = .returned (.tuple #[v0_, .int .i64 r2]) ∧ Kd.R (Kd.int .i64) 3 w' w.heap.size (fun _ => True) v0_ r1 ∧ Below w.heap.size w w' := by
 have hu50 := Try.underlying50
 have HR0_0 := z3_A hr0_0
 have HC0_0 := z3_A hc0_0
 clear hr0_0 hc0_0
 have HR0_1 := z3_A hr0_1
 have HC0_1 := z3_A hc0_1
 clear hr0_1 hc0_1
 have HR0_2 := z3_A hr0_2
 have HC0_2 := z3_A hc0_2
 clear hr0_2 hc0_2
 have HR0_3 := z3_A hr0_3
 have HC0_3 := z3_A hc0_3
 clear hr0_3 hc0_3
 have HB := z3_A (Below.refl w.heap.size w)
 have H : (spec_l9Best.l0 k a1 (([] : List Int)) (-1) 0 l0_0 l0_1 l0_2 l0_3) = some (r1, r2) := h
 clear h
 obtain ⟨y169, hy169⟩ : ∃ y_ : List Int, y_ = (([] : List Int)) := ⟨_, rfl⟩
 replace H : (spec_l9Best.l0 k a1 y169 (-1) 0 l0_0 l0_1 l0_2 l0_3) = some (r1, r2) := by first | (rw [hy169]; with_reducible exact H) | (have H2_ := (Option.bind_some _ _).symm.trans H; rw [hy169]; with_reducible exact H2_) | (have H2_ := (Option.bind_some _ _).symm.trans H; with_reducible exact H2_) | with_reducible exact H | (rw [hy169]; exact H) | exact H
 have Ny169 := z3_A hy169
 clear hy169
 have H' := z3_A H
 clear H
 go_enter Try.func79, Try.ntmps79
 go_wp2_with (first | ((with_reducible refine gate_dst (N := 2) rfl ?_); refine box_event ?hg (N := 2) ?hd (cs := #[.slice A0_0 l0_0.length c0_0, .slice A0_1 l0_1.length c0_1, .slice A0_2 l0_2.length c0_2, .slice A0_3 l0_3.length c0_3]) (t := 50) ?hr ?_; (case hd => rfl); (case hg => rfl); (case hr => first | (go_simp; done) | (go_simp; rfl)); intro gb168 hg w3 hbox hb; have n0_ := z3_A (below_step z3_6 hb); have n1_ := z3_A (hbox); have n2_ := z3_A ((z3_14 : w.heap.size ≤ gb168)); have n3_ := z3_A ((z3_14 : w.heap.size ≤ gb168)); clear HB; revert n0_ n1_ n2_ n3_; intro HB BK168 GW168 GE168; clear hb hbox hg) | ((with_reducible refine gate_dst (N := 11) rfl ?_); refine Kd.R_lit (Kd.int .i64) _ 3 ?hg (N := 11) ?hd (xs := ([] : List Int)) (inner := []) (ok := fun _ => True) (okp := fun _ => True) ?hr ?hp (fun _ hk => hk) trivial (Below.refl _ _) (Nat.le_refl _) (by simp) ?_; (case hd => rfl); (case hg => rfl); (case hr => first | (go_simp; done) | (go_simp; rfl)); (case hp => exact (Reps.none _ _)); intro v170 w4 ho5 hb hg_ hnew_; clear hg_ hnew_; (first | rw [← Ny169.out] at ho5 | (simp only [Int.reduceToNat] at ho5; rw [← Ny169.out] at ho5)); have n0_ := z3_A (Kd.R_lower ho5 (below_size z3_1)); have n1_ := z3_A (blk_below (g := gb168) (o := .cells #[.slice A0_0 l0_0.length c0_0, .slice A0_1 l0_1.length c0_1, .slice A0_2 l0_2.length c0_2, .slice A0_3 l0_3.length c0_3] 50 (0, 0)) z3_2 hb); have n2_ := z3_A (below_step z3_1 hb); clear BK168 HB; revert n0_ n1_ n2_; intro HO171 BK168 HB; clear hb ho5))
 go_loopg [6, 7, 8] k (fun kq v6 v7 v8 w' => ∃ (x6_1 : List Int) (x7_1 : Int) (x8_1 : Int), v7 = .int .i64 x7_1 ∧ v8 = .int .i64 x8_1 ∧ Aside0 (spec_l9Best.l0 kq a1 x6_1 x7_1 x8_1 l0_0 l0_1 l0_2 l0_3 = some (r1, r2)) ∧ Aside0 (kq ≤ k) ∧ Aside0 (Kd.R (Kd.int .i64) 3 w' w.heap.size (fun _ => True) v6 x6_1) ∧ Aside0 (w'.heap[gb168]? = some (.cells #[(.slice A0_0 l0_0.length c0_0), (.slice A0_1 l0_1.length c0_1), (.slice A0_2 l0_2.length c0_2), (.slice A0_3 l0_3.length c0_3)] 50 (0, 0))) ∧ Aside0 (Below w.heap.size w w'))
 case atStart => exact ⟨(y169), ((-1)), (0), z3_7, z3_7, H', ⟨Nat.le_refl _⟩, ⟨by (with_reducible repeat (first | apply Kd.R_alloc | apply Kd.R_drewN | apply Kd.R_drew)); exact HO171.out⟩, ⟨z3_2⟩, ⟨z3_1⟩⟩
 case round =>
  clear H'
  try clear p2
  obtain ⟨x6_1, x7_1, x8_1, rfl, rfl, HA, HK1, HO_6, BK168, HB⟩ := hrel
  cases gk with
  | zero => exact absurd HA.out (by simp [spec_l9Best.l0])
  | succ k1 =>
   have H := HA.out
   clear HA
   simp only [spec_l9Best.l0] at H
   obtain ⟨ji6, hji6⟩ : ∃ j_ : Int, (shl .i64 1 (l0_0.length : Int)) = j_ := ⟨_, rfl⟩
   replace H : (if x8_1 < (ji6) then ((spec_l2Bits.f k1 (l0_0.length : Int) x8_1).bind fun t172 => ((spec_l9Fresh.f k1 l0_0 l0_1 l0_2 l0_3 a1 t172).bind fun t175 => (if t175 ≥ 0 then (if x7_1 < 0 then (spec_l9Best.l0 k1 a1 t172 t175 (wrap64 (x8_1 + 1)) l0_0 l0_1 l0_2 l0_3) else (if t175 < x7_1 then (spec_l9Best.l0 k1 a1 t172 t175 (wrap64 (x8_1 + 1)) l0_0 l0_1 l0_2 l0_3) else (if t175 = x7_1 then ((spec_l2Before.f k1 t172 x6_1).bind fun t176 => (if t176 = true then (spec_l9Best.l0 k1 a1 t172 t175 (wrap64 (x8_1 + 1)) l0_0 l0_1 l0_2 l0_3) else (spec_l9Best.l0 k1 a1 x6_1 x7_1 (wrap64 (x8_1 + 1)) l0_0 l0_1 l0_2 l0_3))) else (spec_l9Best.l0 k1 a1 x6_1 x7_1 (wrap64 (x8_1 + 1)) l0_0 l0_1 l0_2 l0_3)))) else (spec_l9Best.l0 k1 a1 x6_1 x7_1 (wrap64 (x8_1 + 1)) l0_0 l0_1 l0_2 l0_3)))) else (some (x6_1, x7_1))) = some (r1, r2) := by first | (rw [hji6] at H; exact H) | (simp only [hji6] at H ⊢; exact H)
   have hji6_ : (IntKind.i64.wrap (1 * 2 ^ min (l0_0.length : Int).toNat 64)) = ji6 := hji6
   have hji6z : (l0_0.length : Int) ≤ 64 → (IntKind.i64.wrap (1 * 2 ^ (l0_0.length : Int).toNat)) = ji6 := shl_small hji6
   have hji6p : (IntKind.i64.wrap (1 * 2 ^ min l0_0.length 64)) = ji6 := hji6_
   have hji6q : (l0_0.length : Int) ≤ 64 → (IntKind.i64.wrap (1 * 2 ^ l0_0.length)) = ji6 := hji6z
   have hji6r : (IntKind.i64.wrap (2 ^ min l0_0.length 64)) = ji6 := by have h_ := hji6p; rw [Int.one_mul] at h_; exact h_
   have hji6s : (l0_0.length : Int) ≤ 64 → (IntKind.i64.wrap (2 ^ l0_0.length)) = ji6 := fun hle_ => by have h_ := hji6q hle_; rw [Int.one_mul] at h_; exact h_
   have hji6u : (IntKind.i64.wrap (2 ^ min (l0_0.length : Int).toNat 64)) = ji6 := by have h_ := hji6_; rw [Int.one_mul] at h_; exact h_
   have hji6v : (l0_0.length : Int) ≤ 64 → (IntKind.i64.wrap (2 ^ (l0_0.length : Int).toNat)) = ji6 := fun hle_ => by have h_ := hji6z hle_; rw [Int.one_mul] at h_; exact h_
   have hji6y : (wrap64 (1 * 2 ^ min (l0_0.length : Int).toNat 64)) = ji6 := (i64_w _).symm.trans hji6_
   have hji6x : (l0_0.length : Int) ≤ 64 → (wrap64 (1 * 2 ^ (l0_0.length : Int).toNat)) = ji6 := fun h_ => (i64_w _).symm.trans (hji6z h_)
   by_cases c7 : x8_1 < (ji6)
   ·rw [if_pos c7] at H
    have c7b0 : decide (x8_1 < (ji6)) = true := decide_eq_true c7
    clear c7
    replace H := Option.bind_eq_some_iff.mp H
    obtain ⟨t172, A80, H⟩ := H
    (try dsimp only at H)
    have A8 := z3_A A80
    clear A80
    replace H := Option.bind_eq_some_iff.mp H
    obtain ⟨t175, A90, H⟩ := H
    (try dsimp only at H)
    have A9 := z3_A A90
    clear A90
    by_cases c10 : t175 ≥ 0
    ·rw [if_pos c10] at H
     have c10b0 : decide (0 ≤ t175) = true := decide_eq_true c10
     clear c10
     by_cases c11 : x7_1 < 0
     ·rw [if_pos c11] at H
      have c11b0 : decide (x7_1 < 0) = true := decide_eq_true c11
      clear c11
      have H' := z3_A H
      clear H
      have hcz12_0 : wr.cell? ⟨gb168, 0, none⟩ = some (.slice A0_0 l0_0.length c0_0) := (blk_cell BK168.out 0).trans rfl
      have hcz12_1 : wr.cell? ⟨gb168, 1, none⟩ = some (.slice A0_1 l0_1.length c0_1) := (blk_cell BK168.out 1).trans rfl
      have hcz12_2 : wr.cell? ⟨gb168, 2, none⟩ = some (.slice A0_2 l0_2.length c0_2) := (blk_cell BK168.out 2).trans rfl
      have hcz12_3 : wr.cell? ⟨gb168, 3, none⟩ = some (.slice A0_3 l0_3.length c0_3) := (blk_cell BK168.out 3).trans rfl
      have hfz12_0 := blk_frozen BK168.out 0
      have hfz12_1 := blk_frozen BK168.out 1
      have hfz12_2 := blk_frozen BK168.out 2
      have hfz12_3 := blk_frozen BK168.out 3
      go_wp2_with (first | ((with_reducible refine gate_callee (f := 73) rfl ?_); refine goesL_ (some 24) rfl rfl Try.func73 z3_16 rfl #[.int .i64 (l0_0.length : Int), .int .i64 x8_1] rfl z3_4 ?_; (with_reducible refine (spec_l2Bits.calls k1 (l0_0.length : Int) x8_1 t172 _ A8.out).mono ?_); rintro e w13 ⟨v173, rfl, ho0, hb⟩; refine ⟨_, rfl, ?_⟩; have n0_ := z3_A (Kd.R_elder' z3_3 (Kd.R_base ho0) hb); have n1_ := z3_A (Kd.R_lower (Kd.R_new' ho0 (Kd.R_lt z3_3)) (below_size z3_1)); have n2_ := z3_A (blk_below (g := gb168) (o := .cells #[.slice A0_0 l0_0.length c0_0, .slice A0_1 l0_1.length c0_1, .slice A0_2 l0_2.length c0_2, .slice A0_3 l0_3.length c0_3] 50 (0, 0)) z3_2 hb); have n3_ := z3_A (below_step z3_1 hb); clear HO_6 BK168 HB; revert n0_ n1_ n2_ n3_; intro HO_6 HO174 BK168 HB; (try clear hb); (try clear hb2); (try clear hk); (try clear hi); (try clear ho0); have hcz14_0 : w13.cell? ⟨gb168, 0, none⟩ = some (.slice A0_0 l0_0.length c0_0) := (blk_cell BK168.out 0).trans rfl; have hcz14_1 : w13.cell? ⟨gb168, 1, none⟩ = some (.slice A0_1 l0_1.length c0_1) := (blk_cell BK168.out 1).trans rfl; have hcz14_2 : w13.cell? ⟨gb168, 2, none⟩ = some (.slice A0_2 l0_2.length c0_2) := (blk_cell BK168.out 2).trans rfl; have hcz14_3 : w13.cell? ⟨gb168, 3, none⟩ = some (.slice A0_3 l0_3.length c0_3) := (blk_cell BK168.out 3).trans rfl; have hfz14_0 := blk_frozen BK168.out 0; have hfz14_1 := blk_frozen BK168.out 1; have hfz14_2 := blk_frozen BK168.out 2; have hfz14_3 := blk_frozen BK168.out 3; obtain ⟨Ao15, co15, eo15⟩ := Kd.R_slice HO174.out; subst eo15) | ((with_reducible refine gate_callee (f := 108) rfl ?_); refine goesL_ (some 28) rfl rfl Try.func108 z3_16 rfl #[.agg #[.slice A0_0 l0_0.length c0_0, .slice A0_1 l0_1.length c0_1, .slice A0_2 l0_2.length c0_2, .slice A0_3 l0_3.length c0_3], .int .i64 a1, .slice Ao15 t172.length co15] rfl z3_4 ?_; (with_reducible refine (spec_l9Fresh.calls k1 _ _ l0_0 _ _ l0_1 _ _ l0_2 _ _ l0_3 a1 _ _ t172 t175 _ ?side1 ?side2 ?side3 ?side4 ?side5 ?side6 ?side7 ?side8 ?side9 ?side10 A9.out).mono ?_); (case side1 => have zh := (Kd.C_below HR0_0.out HB.out); exact z3_C); (case side2 => exact HC0_0.out); (case side3 => have zh := (Kd.C_below HR0_1.out HB.out); exact z3_C); (case side4 => exact HC0_1.out); (case side5 => have zh := (Kd.C_below HR0_2.out HB.out); exact z3_C); (case side6 => exact HC0_2.out); (case side7 => have zh := (Kd.C_below HR0_3.out HB.out); exact z3_C); (case side8 => exact HC0_3.out); (case side9 => have zh := (Kd.R_reads' HO174.out).2.2; exact z3_C); (case side10 => exact (Kd.R_reads' HO174.out).2.1); rintro e w16 ⟨rfl, hb⟩; refine ⟨_, rfl, ?_⟩; have n0_ := z3_A (Kd.R_below z3_3 hb); have n1_ := z3_A (Kd.R_below z3_10 hb); have n2_ := z3_A (blk_below (g := gb168) (o := .cells #[.slice A0_0 l0_0.length c0_0, .slice A0_1 l0_1.length c0_1, .slice A0_2 l0_2.length c0_2, .slice A0_3 l0_3.length c0_3] 50 (0, 0)) z3_2 hb); have n3_ := z3_A (below_step z3_1 hb); clear HO_6 HO174 BK168 HB; revert n0_ n1_ n2_ n3_; intro HO_6 HO174 BK168 HB; (try clear hb); (try clear hb2); (try clear hk); (try clear hi)))
      go_roundg k1
      case measure => have := HK1.out; omega
      case rel => exact ⟨(t172), (t175), (wrap64 (x8_1 + 1)), z3_7, z3_7, H', ⟨z3_15⟩, ⟨z3_12⟩, ⟨z3_2⟩, ⟨z3_1⟩⟩
     ·rw [if_neg c11] at H
      have c11b0 : decide (x7_1 < 0) = false := decide_eq_false c11
      clear c11
      by_cases c17 : t175 < x7_1
      ·rw [if_pos c17] at H
       have c17b0 : decide (t175 < x7_1) = true := decide_eq_true c17
       clear c17
       have H' := z3_A H
       clear H
       have hcz18_0 : wr.cell? ⟨gb168, 0, none⟩ = some (.slice A0_0 l0_0.length c0_0) := (blk_cell BK168.out 0).trans rfl
       have hcz18_1 : wr.cell? ⟨gb168, 1, none⟩ = some (.slice A0_1 l0_1.length c0_1) := (blk_cell BK168.out 1).trans rfl
       have hcz18_2 : wr.cell? ⟨gb168, 2, none⟩ = some (.slice A0_2 l0_2.length c0_2) := (blk_cell BK168.out 2).trans rfl
       have hcz18_3 : wr.cell? ⟨gb168, 3, none⟩ = some (.slice A0_3 l0_3.length c0_3) := (blk_cell BK168.out 3).trans rfl
       have hfz18_0 := blk_frozen BK168.out 0
       have hfz18_1 := blk_frozen BK168.out 1
       have hfz18_2 := blk_frozen BK168.out 2
       have hfz18_3 := blk_frozen BK168.out 3
       go_wp2_with (first | ((with_reducible refine gate_callee (f := 73) rfl ?_); refine goesL_ (some 24) rfl rfl Try.func73 z3_16 rfl #[.int .i64 (l0_0.length : Int), .int .i64 x8_1] rfl z3_4 ?_; (with_reducible refine (spec_l2Bits.calls k1 (l0_0.length : Int) x8_1 t172 _ A8.out).mono ?_); rintro e w19 ⟨v173, rfl, ho0, hb⟩; refine ⟨_, rfl, ?_⟩; have n0_ := z3_A (Kd.R_elder' z3_3 (Kd.R_base ho0) hb); have n1_ := z3_A (Kd.R_lower (Kd.R_new' ho0 (Kd.R_lt z3_3)) (below_size z3_1)); have n2_ := z3_A (blk_below (g := gb168) (o := .cells #[.slice A0_0 l0_0.length c0_0, .slice A0_1 l0_1.length c0_1, .slice A0_2 l0_2.length c0_2, .slice A0_3 l0_3.length c0_3] 50 (0, 0)) z3_2 hb); have n3_ := z3_A (below_step z3_1 hb); clear HO_6 BK168 HB; revert n0_ n1_ n2_ n3_; intro HO_6 HO174 BK168 HB; (try clear hb); (try clear hb2); (try clear hk); (try clear hi); (try clear ho0); have hcz20_0 : w19.cell? ⟨gb168, 0, none⟩ = some (.slice A0_0 l0_0.length c0_0) := (blk_cell BK168.out 0).trans rfl; have hcz20_1 : w19.cell? ⟨gb168, 1, none⟩ = some (.slice A0_1 l0_1.length c0_1) := (blk_cell BK168.out 1).trans rfl; have hcz20_2 : w19.cell? ⟨gb168, 2, none⟩ = some (.slice A0_2 l0_2.length c0_2) := (blk_cell BK168.out 2).trans rfl; have hcz20_3 : w19.cell? ⟨gb168, 3, none⟩ = some (.slice A0_3 l0_3.length c0_3) := (blk_cell BK168.out 3).trans rfl; have hfz20_0 := blk_frozen BK168.out 0; have hfz20_1 := blk_frozen BK168.out 1; have hfz20_2 := blk_frozen BK168.out 2; have hfz20_3 := blk_frozen BK168.out 3; obtain ⟨Ao21, co21, eo21⟩ := Kd.R_slice HO174.out; subst eo21) | ((with_reducible refine gate_callee (f := 108) rfl ?_); refine goesL_ (some 28) rfl rfl Try.func108 z3_16 rfl #[.agg #[.slice A0_0 l0_0.length c0_0, .slice A0_1 l0_1.length c0_1, .slice A0_2 l0_2.length c0_2, .slice A0_3 l0_3.length c0_3], .int .i64 a1, .slice Ao21 t172.length co21] rfl z3_4 ?_; (with_reducible refine (spec_l9Fresh.calls k1 _ _ l0_0 _ _ l0_1 _ _ l0_2 _ _ l0_3 a1 _ _ t172 t175 _ ?side1 ?side2 ?side3 ?side4 ?side5 ?side6 ?side7 ?side8 ?side9 ?side10 A9.out).mono ?_); (case side1 => have zh := (Kd.C_below HR0_0.out HB.out); exact z3_C); (case side2 => exact HC0_0.out); (case side3 => have zh := (Kd.C_below HR0_1.out HB.out); exact z3_C); (case side4 => exact HC0_1.out); (case side5 => have zh := (Kd.C_below HR0_2.out HB.out); exact z3_C); (case side6 => exact HC0_2.out); (case side7 => have zh := (Kd.C_below HR0_3.out HB.out); exact z3_C); (case side8 => exact HC0_3.out); (case side9 => have zh := (Kd.R_reads' HO174.out).2.2; exact z3_C); (case side10 => exact (Kd.R_reads' HO174.out).2.1); rintro e w22 ⟨rfl, hb⟩; refine ⟨_, rfl, ?_⟩; have n0_ := z3_A (Kd.R_below z3_3 hb); have n1_ := z3_A (Kd.R_below z3_10 hb); have n2_ := z3_A (blk_below (g := gb168) (o := .cells #[.slice A0_0 l0_0.length c0_0, .slice A0_1 l0_1.length c0_1, .slice A0_2 l0_2.length c0_2, .slice A0_3 l0_3.length c0_3] 50 (0, 0)) z3_2 hb); have n3_ := z3_A (below_step z3_1 hb); clear HO_6 HO174 BK168 HB; revert n0_ n1_ n2_ n3_; intro HO_6 HO174 BK168 HB; (try clear hb); (try clear hb2); (try clear hk); (try clear hi)))
       go_roundg k1
       case measure => have := HK1.out; omega
       case rel => exact ⟨(t172), (t175), (wrap64 (x8_1 + 1)), z3_7, z3_7, H', ⟨z3_15⟩, ⟨z3_12⟩, ⟨z3_2⟩, ⟨z3_1⟩⟩
      ·rw [if_neg c17] at H
       have c17b0 : decide (t175 < x7_1) = false := decide_eq_false c17
       clear c17
       by_cases c23 : t175 = x7_1
       ·rw [if_pos c23] at H
        have c23b0 : (t175 == x7_1) = true := beq_iff_eq.mpr c23
        have c23b1 : (t175 != x7_1) = false := bne_eq_false_iff_eq.mpr c23
        clear c23
        replace H := Option.bind_eq_some_iff.mp H
        obtain ⟨t176, A240, H⟩ := H
        (try dsimp only at H)
        have A24 := z3_A A240
        clear A240
        by_cases c25 : t176 = true
        ·subst c25
         have H1 : (spec_l9Best.l0 k1 a1 t172 t175 (wrap64 (x8_1 + 1)) l0_0 l0_1 l0_2 l0_3) = some (r1, r2) := by rw [if_pos rfl] at H; exact H
         clear H
         have H := H1
         clear H1
         have H' := z3_A H
         clear H
         have hcz26_0 : wr.cell? ⟨gb168, 0, none⟩ = some (.slice A0_0 l0_0.length c0_0) := (blk_cell BK168.out 0).trans rfl
         have hcz26_1 : wr.cell? ⟨gb168, 1, none⟩ = some (.slice A0_1 l0_1.length c0_1) := (blk_cell BK168.out 1).trans rfl
         have hcz26_2 : wr.cell? ⟨gb168, 2, none⟩ = some (.slice A0_2 l0_2.length c0_2) := (blk_cell BK168.out 2).trans rfl
         have hcz26_3 : wr.cell? ⟨gb168, 3, none⟩ = some (.slice A0_3 l0_3.length c0_3) := (blk_cell BK168.out 3).trans rfl
         have hfz26_0 := blk_frozen BK168.out 0
         have hfz26_1 := blk_frozen BK168.out 1
         have hfz26_2 := blk_frozen BK168.out 2
         have hfz26_3 := blk_frozen BK168.out 3
         go_wp2_with (first | ((with_reducible refine gate_callee (f := 73) rfl ?_); refine goesL_ (some 24) rfl rfl Try.func73 z3_16 rfl #[.int .i64 (l0_0.length : Int), .int .i64 x8_1] rfl z3_4 ?_; (with_reducible refine (spec_l2Bits.calls k1 (l0_0.length : Int) x8_1 t172 _ A8.out).mono ?_); rintro e w27 ⟨v173, rfl, ho0, hb⟩; refine ⟨_, rfl, ?_⟩; have n0_ := z3_A (Kd.R_elder' z3_3 (Kd.R_base ho0) hb); have n1_ := z3_A (Kd.R_lower (Kd.R_new' ho0 (Kd.R_lt z3_3)) (below_size z3_1)); have n2_ := z3_A (blk_below (g := gb168) (o := .cells #[.slice A0_0 l0_0.length c0_0, .slice A0_1 l0_1.length c0_1, .slice A0_2 l0_2.length c0_2, .slice A0_3 l0_3.length c0_3] 50 (0, 0)) z3_2 hb); have n3_ := z3_A (below_step z3_1 hb); clear HO_6 BK168 HB; revert n0_ n1_ n2_ n3_; intro HO_6 HO174 BK168 HB; (try clear hb); (try clear hb2); (try clear hk); (try clear hi); (try clear ho0); have hcz28_0 : w27.cell? ⟨gb168, 0, none⟩ = some (.slice A0_0 l0_0.length c0_0) := (blk_cell BK168.out 0).trans rfl; have hcz28_1 : w27.cell? ⟨gb168, 1, none⟩ = some (.slice A0_1 l0_1.length c0_1) := (blk_cell BK168.out 1).trans rfl; have hcz28_2 : w27.cell? ⟨gb168, 2, none⟩ = some (.slice A0_2 l0_2.length c0_2) := (blk_cell BK168.out 2).trans rfl; have hcz28_3 : w27.cell? ⟨gb168, 3, none⟩ = some (.slice A0_3 l0_3.length c0_3) := (blk_cell BK168.out 3).trans rfl; have hfz28_0 := blk_frozen BK168.out 0; have hfz28_1 := blk_frozen BK168.out 1; have hfz28_2 := blk_frozen BK168.out 2; have hfz28_3 := blk_frozen BK168.out 3; obtain ⟨Ao29, co29, eo29⟩ := Kd.R_slice HO174.out; subst eo29) | ((with_reducible refine gate_callee (f := 108) rfl ?_); refine goesL_ (some 28) rfl rfl Try.func108 z3_16 rfl #[.agg #[.slice A0_0 l0_0.length c0_0, .slice A0_1 l0_1.length c0_1, .slice A0_2 l0_2.length c0_2, .slice A0_3 l0_3.length c0_3], .int .i64 a1, .slice Ao29 t172.length co29] rfl z3_4 ?_; (with_reducible refine (spec_l9Fresh.calls k1 _ _ l0_0 _ _ l0_1 _ _ l0_2 _ _ l0_3 a1 _ _ t172 t175 _ ?side1 ?side2 ?side3 ?side4 ?side5 ?side6 ?side7 ?side8 ?side9 ?side10 A9.out).mono ?_); (case side1 => have zh := (Kd.C_below HR0_0.out HB.out); exact z3_C); (case side2 => exact HC0_0.out); (case side3 => have zh := (Kd.C_below HR0_1.out HB.out); exact z3_C); (case side4 => exact HC0_1.out); (case side5 => have zh := (Kd.C_below HR0_2.out HB.out); exact z3_C); (case side6 => exact HC0_2.out); (case side7 => have zh := (Kd.C_below HR0_3.out HB.out); exact z3_C); (case side8 => exact HC0_3.out); (case side9 => have zh := (Kd.R_reads' HO174.out).2.2; exact z3_C); (case side10 => exact (Kd.R_reads' HO174.out).2.1); rintro e w30 ⟨rfl, hb⟩; refine ⟨_, rfl, ?_⟩; have n0_ := z3_A (Kd.R_below z3_3 hb); have n1_ := z3_A (Kd.R_below z3_10 hb); have n2_ := z3_A (blk_below (g := gb168) (o := .cells #[.slice A0_0 l0_0.length c0_0, .slice A0_1 l0_1.length c0_1, .slice A0_2 l0_2.length c0_2, .slice A0_3 l0_3.length c0_3] 50 (0, 0)) z3_2 hb); have n3_ := z3_A (below_step z3_1 hb); clear HO_6 HO174 BK168 HB; revert n0_ n1_ n2_ n3_; intro HO_6 HO174 BK168 HB; (try clear hb); (try clear hb2); (try clear hk); (try clear hi); obtain ⟨Ao31, co31, eo31⟩ := Kd.R_slice HO_6.out; subst eo31) | (go_at_call 75; (with_reducible refine (spec_l2Before.calls k1 _ _ t172 _ _ x6_1 true _ ?side1 ?side2 ?side3 ?side4 A24.out).mono ?_); (case side1 => have zh := (Kd.R_reads' HO174.out).2.2; exact z3_C); (case side2 => exact (Kd.R_reads' HO174.out).2.1); (case side3 => have zh := (Kd.R_reads' HO_6.out).2.2; exact z3_C); (case side4 => exact (Kd.R_reads' HO_6.out).2.1); rintro e w' ⟨rfl, ⟨nd, rfl⟩⟩))
         go_roundg k1
         case measure => have := HK1.out; omega
         case rel => exact ⟨(t172), (t175), (wrap64 (x8_1 + 1)), z3_7, z3_7, H', ⟨z3_15⟩, ⟨z3_12⟩, ⟨z3_2⟩, ⟨z3_1⟩⟩
        ·replace c25 := Bool.eq_false_iff.mpr c25
         subst c25
         have H1 : (spec_l9Best.l0 k1 a1 x6_1 x7_1 (wrap64 (x8_1 + 1)) l0_0 l0_1 l0_2 l0_3) = some (r1, r2) := z3_17
         clear H
         have H := H1
         clear H1
         have H' := z3_A H
         clear H
         have hcz32_0 : wr.cell? ⟨gb168, 0, none⟩ = some (.slice A0_0 l0_0.length c0_0) := (blk_cell BK168.out 0).trans rfl
         have hcz32_1 : wr.cell? ⟨gb168, 1, none⟩ = some (.slice A0_1 l0_1.length c0_1) := (blk_cell BK168.out 1).trans rfl
         have hcz32_2 : wr.cell? ⟨gb168, 2, none⟩ = some (.slice A0_2 l0_2.length c0_2) := (blk_cell BK168.out 2).trans rfl
         have hcz32_3 : wr.cell? ⟨gb168, 3, none⟩ = some (.slice A0_3 l0_3.length c0_3) := (blk_cell BK168.out 3).trans rfl
         have hfz32_0 := blk_frozen BK168.out 0
         have hfz32_1 := blk_frozen BK168.out 1
         have hfz32_2 := blk_frozen BK168.out 2
         have hfz32_3 := blk_frozen BK168.out 3
         go_wp2_with (first | ((with_reducible refine gate_callee (f := 73) rfl ?_); refine goesL_ (some 24) rfl rfl Try.func73 z3_16 rfl #[.int .i64 (l0_0.length : Int), .int .i64 x8_1] rfl z3_4 ?_; (with_reducible refine (spec_l2Bits.calls k1 (l0_0.length : Int) x8_1 t172 _ A8.out).mono ?_); rintro e w33 ⟨v173, rfl, ho0, hb⟩; refine ⟨_, rfl, ?_⟩; have n0_ := z3_A (Kd.R_elder' z3_3 (Kd.R_base ho0) hb); have n1_ := z3_A (Kd.R_lower (Kd.R_new' ho0 (Kd.R_lt z3_3)) (below_size z3_1)); have n2_ := z3_A (blk_below (g := gb168) (o := .cells #[.slice A0_0 l0_0.length c0_0, .slice A0_1 l0_1.length c0_1, .slice A0_2 l0_2.length c0_2, .slice A0_3 l0_3.length c0_3] 50 (0, 0)) z3_2 hb); have n3_ := z3_A (below_step z3_1 hb); clear HO_6 BK168 HB; revert n0_ n1_ n2_ n3_; intro HO_6 HO174 BK168 HB; (try clear hb); (try clear hb2); (try clear hk); (try clear hi); (try clear ho0); have hcz34_0 : w33.cell? ⟨gb168, 0, none⟩ = some (.slice A0_0 l0_0.length c0_0) := (blk_cell BK168.out 0).trans rfl; have hcz34_1 : w33.cell? ⟨gb168, 1, none⟩ = some (.slice A0_1 l0_1.length c0_1) := (blk_cell BK168.out 1).trans rfl; have hcz34_2 : w33.cell? ⟨gb168, 2, none⟩ = some (.slice A0_2 l0_2.length c0_2) := (blk_cell BK168.out 2).trans rfl; have hcz34_3 : w33.cell? ⟨gb168, 3, none⟩ = some (.slice A0_3 l0_3.length c0_3) := (blk_cell BK168.out 3).trans rfl; have hfz34_0 := blk_frozen BK168.out 0; have hfz34_1 := blk_frozen BK168.out 1; have hfz34_2 := blk_frozen BK168.out 2; have hfz34_3 := blk_frozen BK168.out 3; obtain ⟨Ao35, co35, eo35⟩ := Kd.R_slice HO174.out; subst eo35) | ((with_reducible refine gate_callee (f := 108) rfl ?_); refine goesL_ (some 28) rfl rfl Try.func108 z3_16 rfl #[.agg #[.slice A0_0 l0_0.length c0_0, .slice A0_1 l0_1.length c0_1, .slice A0_2 l0_2.length c0_2, .slice A0_3 l0_3.length c0_3], .int .i64 a1, .slice Ao35 t172.length co35] rfl z3_4 ?_; (with_reducible refine (spec_l9Fresh.calls k1 _ _ l0_0 _ _ l0_1 _ _ l0_2 _ _ l0_3 a1 _ _ t172 t175 _ ?side1 ?side2 ?side3 ?side4 ?side5 ?side6 ?side7 ?side8 ?side9 ?side10 A9.out).mono ?_); (case side1 => have zh := (Kd.C_below HR0_0.out HB.out); exact z3_C); (case side2 => exact HC0_0.out); (case side3 => have zh := (Kd.C_below HR0_1.out HB.out); exact z3_C); (case side4 => exact HC0_1.out); (case side5 => have zh := (Kd.C_below HR0_2.out HB.out); exact z3_C); (case side6 => exact HC0_2.out); (case side7 => have zh := (Kd.C_below HR0_3.out HB.out); exact z3_C); (case side8 => exact HC0_3.out); (case side9 => have zh := (Kd.R_reads' HO174.out).2.2; exact z3_C); (case side10 => exact (Kd.R_reads' HO174.out).2.1); rintro e w36 ⟨rfl, hb⟩; refine ⟨_, rfl, ?_⟩; have n0_ := z3_A (Kd.R_below z3_3 hb); have n1_ := z3_A (Kd.R_below z3_10 hb); have n2_ := z3_A (blk_below (g := gb168) (o := .cells #[.slice A0_0 l0_0.length c0_0, .slice A0_1 l0_1.length c0_1, .slice A0_2 l0_2.length c0_2, .slice A0_3 l0_3.length c0_3] 50 (0, 0)) z3_2 hb); have n3_ := z3_A (below_step z3_1 hb); clear HO_6 HO174 BK168 HB; revert n0_ n1_ n2_ n3_; intro HO_6 HO174 BK168 HB; (try clear hb); (try clear hb2); (try clear hk); (try clear hi); obtain ⟨Ao37, co37, eo37⟩ := Kd.R_slice HO_6.out; subst eo37) | (go_at_call 75; (with_reducible refine (spec_l2Before.calls k1 _ _ t172 _ _ x6_1 false _ ?side1 ?side2 ?side3 ?side4 A24.out).mono ?_); (case side1 => have zh := (Kd.R_reads' HO174.out).2.2; exact z3_C); (case side2 => exact (Kd.R_reads' HO174.out).2.1); (case side3 => have zh := (Kd.R_reads' HO_6.out).2.2; exact z3_C); (case side4 => exact (Kd.R_reads' HO_6.out).2.1); rintro e w' ⟨rfl, ⟨nd, rfl⟩⟩))
         go_roundg k1
         case measure => have := HK1.out; omega
         case rel => exact ⟨(x6_1), (x7_1), (wrap64 (x8_1 + 1)), z3_7, z3_7, H', ⟨z3_15⟩, ⟨z3_13⟩, ⟨z3_2⟩, ⟨z3_1⟩⟩
       ·rw [if_neg c23] at H
        have c23b0 : (t175 == x7_1) = false := beq_eq_false_iff_ne.mpr c23
        have c23b1 : (t175 != x7_1) = true := bne_iff_ne.mpr c23
        have H' := z3_A H
        clear H
        have hcz38_0 : wr.cell? ⟨gb168, 0, none⟩ = some (.slice A0_0 l0_0.length c0_0) := (blk_cell BK168.out 0).trans rfl
        have hcz38_1 : wr.cell? ⟨gb168, 1, none⟩ = some (.slice A0_1 l0_1.length c0_1) := (blk_cell BK168.out 1).trans rfl
        have hcz38_2 : wr.cell? ⟨gb168, 2, none⟩ = some (.slice A0_2 l0_2.length c0_2) := (blk_cell BK168.out 2).trans rfl
        have hcz38_3 : wr.cell? ⟨gb168, 3, none⟩ = some (.slice A0_3 l0_3.length c0_3) := (blk_cell BK168.out 3).trans rfl
        have hfz38_0 := blk_frozen BK168.out 0
        have hfz38_1 := blk_frozen BK168.out 1
        have hfz38_2 := blk_frozen BK168.out 2
        have hfz38_3 := blk_frozen BK168.out 3
        go_wp2_with (first | ((with_reducible refine gate_callee (f := 73) rfl ?_); refine goesL_ (some 24) rfl rfl Try.func73 z3_16 rfl #[.int .i64 (l0_0.length : Int), .int .i64 x8_1] rfl z3_4 ?_; (with_reducible refine (spec_l2Bits.calls k1 (l0_0.length : Int) x8_1 t172 _ A8.out).mono ?_); rintro e w39 ⟨v173, rfl, ho0, hb⟩; refine ⟨_, rfl, ?_⟩; have n0_ := z3_A (Kd.R_elder' z3_3 (Kd.R_base ho0) hb); have n1_ := z3_A (Kd.R_lower (Kd.R_new' ho0 (Kd.R_lt z3_3)) (below_size z3_1)); have n2_ := z3_A (blk_below (g := gb168) (o := .cells #[.slice A0_0 l0_0.length c0_0, .slice A0_1 l0_1.length c0_1, .slice A0_2 l0_2.length c0_2, .slice A0_3 l0_3.length c0_3] 50 (0, 0)) z3_2 hb); have n3_ := z3_A (below_step z3_1 hb); clear HO_6 BK168 HB; revert n0_ n1_ n2_ n3_; intro HO_6 HO174 BK168 HB; (try clear hb); (try clear hb2); (try clear hk); (try clear hi); (try clear ho0); have hcz40_0 : w39.cell? ⟨gb168, 0, none⟩ = some (.slice A0_0 l0_0.length c0_0) := (blk_cell BK168.out 0).trans rfl; have hcz40_1 : w39.cell? ⟨gb168, 1, none⟩ = some (.slice A0_1 l0_1.length c0_1) := (blk_cell BK168.out 1).trans rfl; have hcz40_2 : w39.cell? ⟨gb168, 2, none⟩ = some (.slice A0_2 l0_2.length c0_2) := (blk_cell BK168.out 2).trans rfl; have hcz40_3 : w39.cell? ⟨gb168, 3, none⟩ = some (.slice A0_3 l0_3.length c0_3) := (blk_cell BK168.out 3).trans rfl; have hfz40_0 := blk_frozen BK168.out 0; have hfz40_1 := blk_frozen BK168.out 1; have hfz40_2 := blk_frozen BK168.out 2; have hfz40_3 := blk_frozen BK168.out 3; obtain ⟨Ao41, co41, eo41⟩ := Kd.R_slice HO174.out; subst eo41) | ((with_reducible refine gate_callee (f := 108) rfl ?_); refine goesL_ (some 28) rfl rfl Try.func108 z3_16 rfl #[.agg #[.slice A0_0 l0_0.length c0_0, .slice A0_1 l0_1.length c0_1, .slice A0_2 l0_2.length c0_2, .slice A0_3 l0_3.length c0_3], .int .i64 a1, .slice Ao41 t172.length co41] rfl z3_4 ?_; (with_reducible refine (spec_l9Fresh.calls k1 _ _ l0_0 _ _ l0_1 _ _ l0_2 _ _ l0_3 a1 _ _ t172 t175 _ ?side1 ?side2 ?side3 ?side4 ?side5 ?side6 ?side7 ?side8 ?side9 ?side10 A9.out).mono ?_); (case side1 => have zh := (Kd.C_below HR0_0.out HB.out); exact z3_C); (case side2 => exact HC0_0.out); (case side3 => have zh := (Kd.C_below HR0_1.out HB.out); exact z3_C); (case side4 => exact HC0_1.out); (case side5 => have zh := (Kd.C_below HR0_2.out HB.out); exact z3_C); (case side6 => exact HC0_2.out); (case side7 => have zh := (Kd.C_below HR0_3.out HB.out); exact z3_C); (case side8 => exact HC0_3.out); (case side9 => have zh := (Kd.R_reads' HO174.out).2.2; exact z3_C); (case side10 => exact (Kd.R_reads' HO174.out).2.1); rintro e w42 ⟨rfl, hb⟩; refine ⟨_, rfl, ?_⟩; have n0_ := z3_A (Kd.R_below z3_3 hb); have n1_ := z3_A (Kd.R_below z3_10 hb); have n2_ := z3_A (blk_below (g := gb168) (o := .cells #[.slice A0_0 l0_0.length c0_0, .slice A0_1 l0_1.length c0_1, .slice A0_2 l0_2.length c0_2, .slice A0_3 l0_3.length c0_3] 50 (0, 0)) z3_2 hb); have n3_ := z3_A (below_step z3_1 hb); clear HO_6 HO174 BK168 HB; revert n0_ n1_ n2_ n3_; intro HO_6 HO174 BK168 HB; (try clear hb); (try clear hb2); (try clear hk); (try clear hi)))
        go_roundg k1
        case measure => have := HK1.out; omega
        case rel => exact ⟨(x6_1), (x7_1), (wrap64 (x8_1 + 1)), z3_7, z3_7, H', ⟨z3_15⟩, ⟨z3_13⟩, ⟨z3_2⟩, ⟨z3_1⟩⟩
    ·rw [if_neg c10] at H
     have c10b0 : decide (0 ≤ t175) = false := decide_eq_false c10
     clear c10
     have H' := z3_A H
     clear H
     have hcz43_0 : wr.cell? ⟨gb168, 0, none⟩ = some (.slice A0_0 l0_0.length c0_0) := (blk_cell BK168.out 0).trans rfl
     have hcz43_1 : wr.cell? ⟨gb168, 1, none⟩ = some (.slice A0_1 l0_1.length c0_1) := (blk_cell BK168.out 1).trans rfl
     have hcz43_2 : wr.cell? ⟨gb168, 2, none⟩ = some (.slice A0_2 l0_2.length c0_2) := (blk_cell BK168.out 2).trans rfl
     have hcz43_3 : wr.cell? ⟨gb168, 3, none⟩ = some (.slice A0_3 l0_3.length c0_3) := (blk_cell BK168.out 3).trans rfl
     have hfz43_0 := blk_frozen BK168.out 0
     have hfz43_1 := blk_frozen BK168.out 1
     have hfz43_2 := blk_frozen BK168.out 2
     have hfz43_3 := blk_frozen BK168.out 3
     go_wp2_with (first | ((with_reducible refine gate_callee (f := 73) rfl ?_); refine goesL_ (some 24) rfl rfl Try.func73 z3_16 rfl #[.int .i64 (l0_0.length : Int), .int .i64 x8_1] rfl z3_4 ?_; (with_reducible refine (spec_l2Bits.calls k1 (l0_0.length : Int) x8_1 t172 _ A8.out).mono ?_); rintro e w44 ⟨v173, rfl, ho0, hb⟩; refine ⟨_, rfl, ?_⟩; have n0_ := z3_A (Kd.R_elder' z3_3 (Kd.R_base ho0) hb); have n1_ := z3_A (Kd.R_lower (Kd.R_new' ho0 (Kd.R_lt z3_3)) (below_size z3_1)); have n2_ := z3_A (blk_below (g := gb168) (o := .cells #[.slice A0_0 l0_0.length c0_0, .slice A0_1 l0_1.length c0_1, .slice A0_2 l0_2.length c0_2, .slice A0_3 l0_3.length c0_3] 50 (0, 0)) z3_2 hb); have n3_ := z3_A (below_step z3_1 hb); clear HO_6 BK168 HB; revert n0_ n1_ n2_ n3_; intro HO_6 HO174 BK168 HB; (try clear hb); (try clear hb2); (try clear hk); (try clear hi); (try clear ho0); have hcz45_0 : w44.cell? ⟨gb168, 0, none⟩ = some (.slice A0_0 l0_0.length c0_0) := (blk_cell BK168.out 0).trans rfl; have hcz45_1 : w44.cell? ⟨gb168, 1, none⟩ = some (.slice A0_1 l0_1.length c0_1) := (blk_cell BK168.out 1).trans rfl; have hcz45_2 : w44.cell? ⟨gb168, 2, none⟩ = some (.slice A0_2 l0_2.length c0_2) := (blk_cell BK168.out 2).trans rfl; have hcz45_3 : w44.cell? ⟨gb168, 3, none⟩ = some (.slice A0_3 l0_3.length c0_3) := (blk_cell BK168.out 3).trans rfl; have hfz45_0 := blk_frozen BK168.out 0; have hfz45_1 := blk_frozen BK168.out 1; have hfz45_2 := blk_frozen BK168.out 2; have hfz45_3 := blk_frozen BK168.out 3; obtain ⟨Ao46, co46, eo46⟩ := Kd.R_slice HO174.out; subst eo46) | ((with_reducible refine gate_callee (f := 108) rfl ?_); refine goesL_ (some 28) rfl rfl Try.func108 z3_16 rfl #[.agg #[.slice A0_0 l0_0.length c0_0, .slice A0_1 l0_1.length c0_1, .slice A0_2 l0_2.length c0_2, .slice A0_3 l0_3.length c0_3], .int .i64 a1, .slice Ao46 t172.length co46] rfl z3_4 ?_; (with_reducible refine (spec_l9Fresh.calls k1 _ _ l0_0 _ _ l0_1 _ _ l0_2 _ _ l0_3 a1 _ _ t172 t175 _ ?side1 ?side2 ?side3 ?side4 ?side5 ?side6 ?side7 ?side8 ?side9 ?side10 A9.out).mono ?_); (case side1 => have zh := (Kd.C_below HR0_0.out HB.out); exact z3_C); (case side2 => exact HC0_0.out); (case side3 => have zh := (Kd.C_below HR0_1.out HB.out); exact z3_C); (case side4 => exact HC0_1.out); (case side5 => have zh := (Kd.C_below HR0_2.out HB.out); exact z3_C); (case side6 => exact HC0_2.out); (case side7 => have zh := (Kd.C_below HR0_3.out HB.out); exact z3_C); (case side8 => exact HC0_3.out); (case side9 => have zh := (Kd.R_reads' HO174.out).2.2; exact z3_C); (case side10 => exact (Kd.R_reads' HO174.out).2.1); rintro e w47 ⟨rfl, hb⟩; refine ⟨_, rfl, ?_⟩; have n0_ := z3_A (Kd.R_below z3_3 hb); have n1_ := z3_A (Kd.R_below z3_10 hb); have n2_ := z3_A (blk_below (g := gb168) (o := .cells #[.slice A0_0 l0_0.length c0_0, .slice A0_1 l0_1.length c0_1, .slice A0_2 l0_2.length c0_2, .slice A0_3 l0_3.length c0_3] 50 (0, 0)) z3_2 hb); have n3_ := z3_A (below_step z3_1 hb); clear HO_6 HO174 BK168 HB; revert n0_ n1_ n2_ n3_; intro HO_6 HO174 BK168 HB; (try clear hb); (try clear hb2); (try clear hk); (try clear hi)))
     go_roundg k1
     case measure => have := HK1.out; omega
     case rel => exact ⟨(x6_1), (x7_1), (wrap64 (x8_1 + 1)), z3_7, z3_7, H', ⟨z3_15⟩, ⟨z3_13⟩, ⟨z3_2⟩, ⟨z3_1⟩⟩
   ·rw [if_neg c7] at H
    have c7b0 : decide (x8_1 < (ji6)) = false := decide_eq_false c7
    clear c7
    simp only [Option.some.injEq, Prod.mk.injEq] at H
    obtain ⟨rfl, rfl⟩ := H
    have hcz48_0 : wr.cell? ⟨gb168, 0, none⟩ = some (.slice A0_0 l0_0.length c0_0) := (blk_cell BK168.out 0).trans rfl
    have hcz48_1 : wr.cell? ⟨gb168, 1, none⟩ = some (.slice A0_1 l0_1.length c0_1) := (blk_cell BK168.out 1).trans rfl
    have hcz48_2 : wr.cell? ⟨gb168, 2, none⟩ = some (.slice A0_2 l0_2.length c0_2) := (blk_cell BK168.out 2).trans rfl
    have hcz48_3 : wr.cell? ⟨gb168, 3, none⟩ = some (.slice A0_3 l0_3.length c0_3) := (blk_cell BK168.out 3).trans rfl
    have hfz48_0 := blk_frozen BK168.out 0
    have hfz48_1 := blk_frozen BK168.out 1
    have hfz48_2 := blk_frozen BK168.out 2
    have hfz48_3 := blk_frozen BK168.out 3
    go_wp2
    go_ret2
    exact ⟨_, by first | rfl | (simp [errW_none, errW_some] <;> rfl) | (simp only [← hji6]; first | rfl | (simp [errW_none, errW_some] <;> rfl)) | (simp [*, errW_none, errW_some] <;> rfl), z3_3, z3_1⟩

/-! ### spec_l1In: function 69 -/
def spec_l1In.f (a0 : Int) (a1 : Int) (a2 : Int) : Option (Bool) := if a0 ≥ a1 then (some (decide (a0 ≤ a2))) else (some false)
set_option maxHeartbeats 8000000 in
set_option maxRecDepth 100000 in
theorem spec_l1In.calls (a0 : Int) (a1 : Int) (a2 : Int) (r : Bool) (w : World) (h : spec_l1In.f a0 a1 a2 = some r) :
  Calls Try.prog 69 #[.int .i64 a0, .int .i64 a1, .int .i64 a2] w fun e w' => e = .returned (.bool r) ∧ Drawn0 w w' := by
 have H : (if a0 ≥ a1 then (some (decide (a0 ≤ a2))) else (some false)) = some r := h
 clear h
 by_cases c4 : a0 ≥ a1
 ·rw [if_pos c4] at H
  have c4b0 : decide (a1 ≤ a0) = true := decide_eq_true c4
  clear c4
  obtain rfl := Option.some.inj H
  go_enter Try.func69, Try.ntmps69
  go_wp2
  go_ret
  exact ⟨z3_7, z3_11⟩
 ·rw [if_neg c4] at H
  have c4b0 : decide (a1 ≤ a0) = false := decide_eq_false c4
  clear c4
  obtain rfl := Option.some.inj H
  go_enter Try.func69, Try.ntmps69
  go_wp2
  go_ret
  exact ⟨z3_7, z3_11⟩

/-! ### spec_l2Row: function 99 -/
def spec_l2Row.l0 : Nat → List Int → Int → Int → Int → Option (Bool)
 | 0, _, _, _, _ => none
 | k + 1, x0, x1, x2, x7 => if x7 < (x0.length : Int) then (if 0 ≤ x7 then ((spec_l1In.f (rd x0 x7) 0 x2).bind fun t178 => (if t178 = true then (spec_l2Row.l0 k x0 x1 x2 (wrap64 (x7 + 1))) else (some false))) else (none)) else (some ((x0.length : Int) == x1))
def spec_l2Row.f (k : Nat) (l0 : List Int) (a1 : Int) (a2 : Int) : Option (Bool) := spec_l2Row.l0 k l0 a1 a2 0
theorem spec_l2Row.mono_l : ∀ k, (∀ y0 y1 y2 y3, LeO (spec_l2Row.l0 k y0 y1 y2 y3) (spec_l2Row.l0 (k + 1) y0 y1 y2 y3))
 | 0 => fun _ _ _ _ r h => by simp [spec_l2Row.l0] at h
 | k + 1 => by
  have ih0 := spec_l2Row.mono_l k
  ·intro y0 y1 y2 y3
   unfold spec_l2Row.l0
   repeat' first
   | (with_reducible exact ih0 _ _ _ _)
   | (with_reducible exact LeO.refl _)
   | (with_reducible exact LeO.none _)
   | (with_reducible refine LeO.ite ?_ ?_)
   | (with_reducible refine LeO.bind ?_ (fun _ => ?_))
   | exact ih0 _ _ _ _
   | exact LeO.none _
   | refine LeO.ite ?_ ?_
   | refine LeO.bind ?_ (fun _ => ?_)
theorem spec_l2Row.mono : ∀ a0 a1 a2 k, LeO (spec_l2Row.f k a0 a1 a2) (spec_l2Row.f (k + 1) a0 a1 a2) := by
 intro a0 a1 a2 k
 have ih0 := spec_l2Row.mono_l k
 unfold spec_l2Row.f
 repeat' first
   | (with_reducible exact ih0 _ _ _ _)
   | (with_reducible exact LeO.refl _)
   | (with_reducible exact LeO.none _)
   | (with_reducible refine LeO.ite ?_ ?_)
   | (with_reducible refine LeO.bind ?_ (fun _ => ?_))
   | exact ih0 _ _ _ _
   | exact LeO.none _
   | refine LeO.ite ?_ ?_
   | refine LeO.bind ?_ (fun _ => ?_)
set_option maxHeartbeats 8000000 in
set_option maxRecDepth 100000 in
theorem spec_l2Row.calls (k : Nat) (A0 : Option Addr) (c0 : Nat) (l0 : List Int) (a1 : Int) (a2 : Int) (r : Bool) (w : World) (hr0 : Kd.C (Kd.int .i64) w A0 l0.length l0) (hc0 : l0.length ≤ c0) (h : spec_l2Row.f k l0 a1 a2 = some r) :
  Calls Try.prog 99 #[.slice A0 l0.length c0, .int .i64 a1, .int .i64 a2] w fun e w' => e = .returned (.bool r) ∧ Drawn0 w w' := by
 have HR0 := z3_A hr0
 have HC0 := z3_A hc0
 clear hr0 hc0
 have H : (spec_l2Row.l0 k l0 a1 a2 0) = some r := h
 clear h
 have H' := z3_A H
 clear H
 go_enter Try.func99, Try.ntmps99
 go_wp2
 go_loopg [7] k (fun kq v7 w' => ∃ (x7_1 : Int), v7 = .int .i64 x7_1 ∧ Aside0 (spec_l2Row.l0 kq l0 a1 a2 x7_1 = some r) ∧ Aside0 (kq ≤ k) ∧ Drawn0 w w')
 case atStart => exact ⟨(0), z3_7, H', ⟨Nat.le_refl _⟩, z3_11⟩
 case round =>
  clear H'
  try clear p2
  obtain ⟨x7_1, rfl, HA, HK1, ⟨m1, rfl⟩⟩ := hrel
  cases gk with
  | zero => exact absurd HA.out (by simp [spec_l2Row.l0])
  | succ k1 =>
   have H := HA.out
   clear HA
   simp only [spec_l2Row.l0] at H
   by_cases c4 : x7_1 < (l0.length : Int)
   ·rw [if_pos c4] at H
    have c4b0 : decide (x7_1 < (l0.length : Int)) = true := decide_eq_true c4
    clear c4
    by_cases c5 : 0 ≤ x7_1
    ·rw [if_pos c5] at H
     have c5b0 : decide (0 ≤ x7_1) = true := decide_eq_true c5
     clear c5
     replace H := Option.bind_eq_some_iff.mp H
     obtain ⟨t178, A60, H⟩ := H
     (try dsimp only at H)
     have A6 := z3_A A60
     clear A60
     by_cases c7 : t178 = true
     ·subst c7
      have H1 : (spec_l2Row.l0 k1 l0 a1 a2 (wrap64 (x7_1 + 1))) = some r := by rw [if_pos rfl] at H; exact H
      clear H
      have H := H1
      clear H1
      have H' := z3_A H
      clear H
      have p177 : 0 ≤ (x7_1 : Int) := of_decide_eq_true z3_9
      have q177 : x7_1 < (l0.length : Int) := of_decide_eq_true z3_9
      obtain ⟨ad177, e177, hx177_0⟩ := Kd.at_int HR0.out x7_1 p177 q177
      cases e177
      replace p177 := eq_true p177
      replace q177 := eq_true q177
      go_wp2_with (first | ((with_reducible refine gate_callee (f := 69) rfl ?_); refine goesL_ (some 19) rfl rfl Try.func69 z3_16 rfl #[.int .i64 (rd l0 x7_1), .int .i64 0, .int .i64 a2] rfl z3_4 ?_; (with_reducible refine (spec_l1In.calls (rd l0 x7_1) 0 a2 true _ A6.out).mono ?_); rintro e w' ⟨rfl, ⟨nd, rfl⟩⟩; refine ⟨_, rfl, ?_⟩))
      go_roundg k1
      case measure => have := HK1.out; omega
      case rel => exact ⟨(wrap64 (x7_1 + 1)), z3_7, H', ⟨z3_15⟩, z3_11⟩
     ·replace c7 := Bool.eq_false_iff.mpr c7
      subst c7
      have H1 : (some false) = some r := z3_17
      clear H
      have H := H1
      clear H1
      obtain rfl := Option.some.inj H
      have p177 : 0 ≤ (x7_1 : Int) := of_decide_eq_true z3_9
      have q177 : x7_1 < (l0.length : Int) := of_decide_eq_true z3_9
      obtain ⟨ad177, e177, hx177_0⟩ := Kd.at_int HR0.out x7_1 p177 q177
      cases e177
      replace p177 := eq_true p177
      replace q177 := eq_true q177
      go_wp2_with (first | ((with_reducible refine gate_callee (f := 69) rfl ?_); refine goesL_ (some 19) rfl rfl Try.func69 z3_16 rfl #[.int .i64 (rd l0 x7_1), .int .i64 0, .int .i64 a2] rfl z3_4 ?_; (with_reducible refine (spec_l1In.calls (rd l0 x7_1) 0 a2 false _ A6.out).mono ?_); rintro e w' ⟨rfl, ⟨nd, rfl⟩⟩; refine ⟨_, rfl, ?_⟩))
      go_ret
      exact ⟨z3_7, z3_11⟩
    ·rw [if_neg c5] at H
     exact absurd H (by simp)
   ·rw [if_neg c4] at H
    have c4b0 : decide (x7_1 < (l0.length : Int)) = false := decide_eq_false c4
    clear c4
    obtain rfl := Option.some.inj H
    go_wp2
    go_ret
    exact ⟨z3_7, z3_11⟩

end Go.Proofs.Ytgkjnhajomjhcaa.PFnExactLifeGains
