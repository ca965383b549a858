-- A text of this session (its program hook.py, over the kit's print.py): not a print of print.sh
-- THIN: one blank for two
import Derived.Test.YtiniocecpgjikaaPFnProfitsx0
import Derived.Test.YtiniocecpgjikaaPFnProfitsx1
import Derived.Test.YtiniocecpgjikaaPFnProfitsx2
namespace Go.Proofs.Ytiniocecpgjikaa.PFnProfits
open Go.RowKit Go.Proofs.YtiniocecpgjikaaW.PrintWords Go.Proofs.YtiniocecpgjikaaW.PrintLast Go.Proofs.YtiniocecpgjikaaW.PrintMore
attribute [local go_sem] max2_int min2_int max_two min_two max_three min_three max_four min_four   -- for this text's walks alone
set_option linter.unusedVariables false
set_option linter.unusedSimpArgs false

private theorem bcz {w : World} {g : Nat} {t : TypeId} {cs : Array Value} (h : w.heap[g]? = some (.cells cs t (0, 0))) (i : Nat) {v : Value} (e : cs[i]? = some v) : w.cell? ⟨g, i, none⟩ = some v := (blk_cell h i).trans e
private theorem F4z {P : Nat → Prop} (h : ∀ i, P i) : P 0 ∧ P 1 ∧ P 2 ∧ P 3 := ⟨h 0, h 1, h 2, h 3⟩
attribute [local go_sem high] eqA67
-- SQUEEZED
theorem z15_A {p : Prop} (h : p) : Aside0 p := Aside0.mk h
theorem z15_C {p : Prop} (h : p := by repeat (first | exact zh | (with_reducible refine Kd.C_alloc ?_ _) | (with_reducible refine Kd.C_drewN ?_ _) | (with_reducible refine Kd.C_drew ?_))) : p := h
theorem z15_1 {p : Prop} (h : p := by repeat (first | (with_reducible first | exact HB.out | apply below_alloc | apply pw_below_drewN | apply below_drew1 | refine below_set ?_ GE442.out) | exact HB.out)) : p := h
theorem z15_2 {p : Prop} (h : p := by repeat (first | (with_reducible first | exact HB.out | apply below_alloc | apply pw_below_drewN | apply below_drew1) | exact HB.out)) : p := h
theorem z15_3 {p : Prop} (h : p := by (with_reducible repeat (first | refine blk_drewN ?_ _ | refine blk_drew ?_ | refine blk_alloc ?_ _)); exact BK442.out) : p := h
theorem z15_4 {p : Prop} (h : p := by first | (with_reducible assumption) | assumption) : p := h
theorem z15_5 {p : Prop} (h : p := by first | rfl | (simp; done) | (simp [*]; done)) : p := h
theorem z15_6 {p : Prop} (h : p := by repeat (first | exact Drawn0.refl _ | apply Drawn0.step)) : p := h
theorem z15_7 {p : Prop} (h : p := by rw [hg]; exact (below_size z15_2)) : p := h
theorem z15_8 {p : Prop} (h : p := by first | rfl | (simp; done) | (simp only [← hji16] <;> (first | rfl | simp)) | (simp [*]; done)) : p := h
theorem z15_9 {p : Prop} (h : p := by first | rfl | (simp [errW_none, errW_some] <;> rfl) | (simp [*, errW_none, errW_some] <;> rfl)) : p := h

/-! ### spec_QuotientOrder: function 58 -/
mutual
def spec_QuotientOrder.j0 : Nat → Bool → List Int → Int → Int → Int → Option (Int × Bool)
 | 0, _, _, _, _, _ => none
 | k + 1, x15, x443000, x443001, x443002, x443003 => if x15 = true then (some (0, false)) else (if 0 < (x443000.length : Int) then (spec_QuotientOrder.l0 k (rd x443000 0) 0 x443000 x443001 x443002 x443003) else (none))
def spec_QuotientOrder.l0 : Nat → Int → Int → List Int → Int → Int → Int → Option (Int × Bool)
 | 0, _, _, _, _, _, _ => none
 | k + 1, x4, x5, x443000, x443001, x443002, x443003 => (spec_l2Sum.f k x443000).bind fun t445 => (if (wrap64 (x4 * (wrap64 (x443001 - x443003)))) < (wrap64 (t445 * (wrap64 (x443001 - x443002)))) then (if 0 ≤ (wrap64 (x5 + 1)) then (if (wrap64 (x5 + 1)) < (x443000.length : Int) then (spec_QuotientOrder.l0 k (wrap64 (x4 + (rd x443000 (wrap64 (x5 + 1))))) (wrap64 (x5 + 1)) x443000 x443001 x443002 x443003) else (none)) else (none)) else (some (x5, true)))
end
def spec_QuotientOrder.f (k : Nat) (l0_0 : List Int) (a0_1 : Int) (a0_2 : Int) (a0_3 : Int) : Option (Int × Bool) := (spec_l10Market.f k l0_0 a0_1 a0_2 a0_3).bind fun t443 => (if t443 = true then (spec_QuotientOrder.j0 k (a0_1 == a0_3) l0_0 a0_1 a0_2 a0_3) else (spec_QuotientOrder.j0 k true l0_0 a0_1 a0_2 a0_3))
theorem spec_QuotientOrder.mono_l : ∀ k, (∀ y0 y1 y2 y3 y4, LeO (spec_QuotientOrder.j0 k y0 y1 y2 y3 y4) (spec_QuotientOrder.j0 (k + 1) y0 y1 y2 y3 y4)) ∧ (∀ y0 y1 y2 y3 y4 y5, LeO (spec_QuotientOrder.l0 k y0 y1 y2 y3 y4 y5) (spec_QuotientOrder.l0 (k + 1) y0 y1 y2 y3 y4 y5))
 | 0 => ⟨fun _ _ _ _ _ r h => by simp [spec_QuotientOrder.j0] at h, fun _ _ _ _ _ _ r h => by simp [spec_QuotientOrder.l0] at h⟩
 | k + 1 => by
  obtain ⟨ih0, ih1⟩ := spec_QuotientOrder.mono_l k
  refine ⟨?_, ?_⟩ <;> intros <;> (first | unfold spec_QuotientOrder.j0 | unfold spec_QuotientOrder.l0) <;> repeat' first
    | (with_reducible exact ih0 _ _ _ _ _)
    | (with_reducible exact ih1 _ _ _ _ _ _)
    | (with_reducible exact spec_l10Market.mono _ _ _ _ _)
    | (with_reducible exact spec_l2Sum.mono _ _)
    | (with_reducible exact LeO.refl _)
    | (with_reducible exact LeO.none _)
    | (with_reducible refine LeO.ite ?_ ?_)
    | (with_reducible refine LeO.bind ?_ (fun _ => ?_))
    | exact ih0 _ _ _ _ _
    | exact ih1 _ _ _ _ _ _
    | exact spec_l10Market.mono _ _ _ _ _
    | exact spec_l2Sum.mono _ _
    | exact LeO.none _
    | refine LeO.ite ?_ ?_
    | refine LeO.bind ?_ (fun _ => ?_)
theorem spec_QuotientOrder.mono : ∀ a0 a1 a2 a3 k, LeO (spec_QuotientOrder.f k a0 a1 a2 a3) (spec_QuotientOrder.f (k + 1) a0 a1 a2 a3) := by
 intro a0 a1 a2 a3 k
 obtain ⟨ih0, ih1⟩ := spec_QuotientOrder.mono_l k
 unfold spec_QuotientOrder.f
 repeat' first
   | (with_reducible exact ih0 _ _ _ _ _)
   | (with_reducible exact ih1 _ _ _ _ _ _)
   | (with_reducible exact spec_l10Market.mono _ _ _ _ _)
   | (with_reducible exact spec_l2Sum.mono _ _)
   | (with_reducible exact LeO.refl _)
   | (with_reducible exact LeO.none _)
   | (with_reducible refine LeO.ite ?_ ?_)
   | (with_reducible refine LeO.bind ?_ (fun _ => ?_))
   | exact ih0 _ _ _ _ _
   | exact ih1 _ _ _ _ _ _
   | exact spec_l10Market.mono _ _ _ _ _
   | exact spec_l2Sum.mono _ _
   | exact LeO.none _
   | refine LeO.ite ?_ ?_
   | refine LeO.bind ?_ (fun _ => ?_)
set_option maxHeartbeats 8000000 in
set_option maxRecDepth 100000 in
theorem spec_QuotientOrder.calls (k : Nat) (A0_0 : Option Addr) (c0_0 : Nat) (l0_0 : List Int) (a0_1 : Int) (a0_2 : Int) (a0_3 : Int) (r1 : Int) (r2 : Bool) (w : World) (hr0_0 : Kd.C (Kd.int .i64) w A0_0 l0_0.length l0_0) (hc0_0 : l0_0.length ≤ c0_0) (h : spec_QuotientOrder.f k l0_0 a0_1 a0_2 a0_3 = some (r1, r2)) :
  Calls Try.prog 58 #[.agg #[.slice A0_0 l0_0.length c0_0, .int .i64 a0_1, .int .i64 a0_2, .int .i64 a0_3]] w fun e w' => e = .returned (.tuple #[.int .i64 r1, .bool r2]) ∧ Below w.heap.size w w' := by
 have hu30 := Try.underlying30
 have HR0_0 := z15_A hr0_0
 have HC0_0 := z15_A hc0_0
 clear hr0_0 hc0_0
 have HB := z15_A (Below.refl w.heap.size w)
 have H : ((spec_l10Market.f k l0_0 a0_1 a0_2 a0_3).bind fun t443 => (if t443 = true then (spec_QuotientOrder.j0 k (a0_1 == a0_3) l0_0 a0_1 a0_2 a0_3) else (spec_QuotientOrder.j0 k true l0_0 a0_1 a0_2 a0_3))) = some (r1, r2) := h
 clear h
 have HC2 := z15_A H
 clear H
 go_enter Try.func58, Try.ntmps58
 go_upto_region 1 with (first | ((with_reducible refine gate_dst (N := 1) rfl ?_); refine box_event ?hg (N := 1) ?hd (cs := #[.slice A0_0 l0_0.length c0_0, .int .i64 a0_1, .int .i64 a0_2, .int .i64 a0_3]) (t := 30) ?hr ?_; (case hd => rfl); (case hg => rfl); (case hr => first | (go_simp; done) | (go_simp; rfl)); intro gb442 hg w3 hbox hb; have n0_ := z15_A (below_step z15_2 hb); have n1_ := z15_A (hbox); have n2_ := z15_A ((z15_7 : w.heap.size ≤ gb442)); have n3_ := z15_A ((z15_7 : w.heap.size ≤ gb442)); clear HB; revert n0_ n1_ n2_ n3_; intro HB BK442 GW442 GE442; clear hb hbox hg))
 repeat (go_quiet (first | ((with_reducible refine gate_dst (N := 1) rfl ?_); refine box_event ?hg (N := 1) ?hd (cs := #[.slice A0_0 l0_0.length c0_0, .int .i64 a0_1, .int .i64 a0_2, .int .i64 a0_3]) (t := 30) ?hr ?_; (case hd => rfl); (case hg => rfl); (case hr => first | (go_simp; done) | (go_simp; rfl)); intro gb442 hg w3 hbox hb; have n0_ := z15_A (below_step z15_2 hb); have n1_ := z15_A (hbox); have n2_ := z15_A ((z15_7 : w.heap.size ≤ gb442)); have n3_ := z15_A ((z15_7 : w.heap.size ≤ gb442)); clear HB; revert n0_ n1_ n2_ n3_; intro HB BK442 GW442 GE442; clear hb hbox hg)); go_upto_region 1 with (first | ((with_reducible refine gate_dst (N := 1) rfl ?_); refine box_event ?hg (N := 1) ?hd (cs := #[.slice A0_0 l0_0.length c0_0, .int .i64 a0_1, .int .i64 a0_2, .int .i64 a0_3]) (t := 30) ?hr ?_; (case hd => rfl); (case hg => rfl); (case hr => first | (go_simp; done) | (go_simp; rfl)); intro gb442 hg w3 hbox hb; have n0_ := z15_A (below_step z15_2 hb); have n1_ := z15_A (hbox); have n2_ := z15_A ((z15_7 : w.heap.size ≤ gb442)); have n3_ := z15_A ((z15_7 : w.heap.size ≤ gb442)); clear HB; revert n0_ n1_ n2_ n3_; intro HB BK442 GW442 GE442; clear hb hbox hg)))
 (try simp only [Act.put, List.setIfInBounds_toArray, List.set_cons_zero, List.set_cons_succ])
 go_cut [15] (fun v15 wc => ∃ (kq : Nat) (x15_1 : Bool), v15 = .bool x15_1 ∧ Aside0 (spec_QuotientOrder.j0 kq x15_1 l0_0 a0_1 a0_2 a0_3 = some (r1, r2)) ∧ Aside0 (kq ≤ k) ∧ Aside0 (wc.heap[gb442]? = some (.cells #[(.slice A0_0 l0_0.length c0_0), .int .i64 a0_1, .int .i64 a0_2, .int .i64 a0_3] 30 (0, 0))) ∧ Aside0 (Below w.heap.size w wc))
 case first =>
  have H := HC2.out
  clear HC2
  replace H := Option.bind_eq_some_iff.mp H
  obtain ⟨t443, A40, H⟩ := H
  (try dsimp only at H)
  have A4 := z15_A A40
  clear A40
  by_cases c5 : t443 = true
  ·subst c5
   have H1 : (spec_QuotientOrder.j0 k (a0_1 == a0_3) l0_0 a0_1 a0_2 a0_3) = some (r1, r2) := by rw [if_pos rfl] at H; exact H
   clear H
   have H := H1
   clear H1
   have H' := z15_A H
   clear H
   have hcz6_0 : w3.cell? ⟨gb442, 0, none⟩ = some (.slice A0_0 l0_0.length c0_0) := bcz BK442.out 0 rfl
   have hcz6_1 : w3.cell? ⟨gb442, 1, none⟩ = some (.int .i64 a0_1) := bcz BK442.out 1 rfl
   have hcz6_2 : w3.cell? ⟨gb442, 2, none⟩ = some (.int .i64 a0_2) := bcz BK442.out 2 rfl
   have hcz6_3 : w3.cell? ⟨gb442, 3, none⟩ = some (.int .i64 a0_3) := bcz BK442.out 3 rfl
   obtain ⟨hfz6_0, hfz6_1, hfz6_2, hfz6_3⟩ := F4z (blk_frozen BK442.out)
   go_wp2_with (first | (go_at_call 67; (with_reducible refine (spec_l10Market.calls k _ _ l0_0 a0_1 a0_2 a0_3 true _ ?side1 ?side2 A4.out).mono ?_); (case side1 => have zh := (Kd.C_below HR0_0.out HB.out); exact z15_C); (case side2 => exact HC0_0.out); rintro e w7 ⟨rfl, hb⟩; have n0_ := z15_A (blk_below (g := gb442) (o := .cells #[.slice A0_0 l0_0.length c0_0, .int .i64 a0_1, .int .i64 a0_2, .int .i64 a0_3] 30 (0, 0)) z15_3 hb); have n1_ := z15_A (below_step z15_1 hb); clear BK442 HB; revert n0_ n1_; intro BK442 HB; (try clear hb); (try clear hb2); (try clear hk); (try clear hi); have hcz8_0 : w7.cell? ⟨gb442, 0, none⟩ = some (.slice A0_0 l0_0.length c0_0) := bcz BK442.out 0 rfl; have hcz8_1 : w7.cell? ⟨gb442, 1, none⟩ = some (.int .i64 a0_1) := bcz BK442.out 1 rfl; have hcz8_2 : w7.cell? ⟨gb442, 2, none⟩ = some (.int .i64 a0_2) := bcz BK442.out 2 rfl; have hcz8_3 : w7.cell? ⟨gb442, 3, none⟩ = some (.int .i64 a0_3) := bcz BK442.out 3 rfl; obtain ⟨hfz8_0, hfz8_1, hfz8_2, hfz8_3⟩ := F4z (blk_frozen BK442.out)))
   repeat (go_quiet (first | (go_at_call 67; (with_reducible refine (spec_l10Market.calls k _ _ l0_0 a0_1 a0_2 a0_3 true _ ?side1 ?side2 A4.out).mono ?_); (case side1 => have zh := (Kd.C_below HR0_0.out HB.out); exact z15_C); (case side2 => exact HC0_0.out); rintro e w7 ⟨rfl, hb⟩; have n0_ := z15_A (blk_below (g := gb442) (o := .cells #[.slice A0_0 l0_0.length c0_0, .int .i64 a0_1, .int .i64 a0_2, .int .i64 a0_3] 30 (0, 0)) z15_3 hb); have n1_ := z15_A (below_step z15_1 hb); clear BK442 HB; revert n0_ n1_; intro BK442 HB; (try clear hb); (try clear hb2); (try clear hk); (try clear hi); have hcz8_0 : w7.cell? ⟨gb442, 0, none⟩ = some (.slice A0_0 l0_0.length c0_0) := bcz BK442.out 0 rfl; have hcz8_1 : w7.cell? ⟨gb442, 1, none⟩ = some (.int .i64 a0_1) := bcz BK442.out 1 rfl; have hcz8_2 : w7.cell? ⟨gb442, 2, none⟩ = some (.int .i64 a0_2) := bcz BK442.out 2 rfl; have hcz8_3 : w7.cell? ⟨gb442, 3, none⟩ = some (.int .i64 a0_3) := bcz BK442.out 3 rfl; obtain ⟨hfz8_0, hfz8_1, hfz8_2, hfz8_3⟩ := F4z (blk_frozen BK442.out))); try go_wp2_with (first | (go_at_call 67; (with_reducible refine (spec_l10Market.calls k _ _ l0_0 a0_1 a0_2 a0_3 true _ ?side1 ?side2 A4.out).mono ?_); (case side1 => have zh := (Kd.C_below HR0_0.out HB.out); exact z15_C); (case side2 => exact HC0_0.out); rintro e w7 ⟨rfl, hb⟩; have n0_ := z15_A (blk_below (g := gb442) (o := .cells #[.slice A0_0 l0_0.length c0_0, .int .i64 a0_1, .int .i64 a0_2, .int .i64 a0_3] 30 (0, 0)) z15_3 hb); have n1_ := z15_A (below_step z15_1 hb); clear BK442 HB; revert n0_ n1_; intro BK442 HB; (try clear hb); (try clear hb2); (try clear hk); (try clear hi); have hcz8_0 : w7.cell? ⟨gb442, 0, none⟩ = some (.slice A0_0 l0_0.length c0_0) := bcz BK442.out 0 rfl; have hcz8_1 : w7.cell? ⟨gb442, 1, none⟩ = some (.int .i64 a0_1) := bcz BK442.out 1 rfl; have hcz8_2 : w7.cell? ⟨gb442, 2, none⟩ = some (.int .i64 a0_2) := bcz BK442.out 2 rfl; have hcz8_3 : w7.cell? ⟨gb442, 3, none⟩ = some (.int .i64 a0_3) := bcz BK442.out 3 rfl; obtain ⟨hfz8_0, hfz8_1, hfz8_2, hfz8_3⟩ := F4z (blk_frozen BK442.out))))
   go_meet
   case rel => exact ⟨_, ((a0_1 == a0_3)), z15_5, H', ⟨by first | omega | exact Nat.le_refl _⟩, ⟨z15_3⟩, ⟨z15_1⟩⟩
  ·replace c5 := Bool.eq_false_iff.mpr c5
   subst c5
   have H1 : (spec_QuotientOrder.j0 k true l0_0 a0_1 a0_2 a0_3) = some (r1, r2) := by rw [if_neg (show ¬ (false = true) by decide)] at H; exact H
   clear H
   have H := H1
   clear H1
   have H' := z15_A H
   clear H
   have hcz9_0 : w3.cell? ⟨gb442, 0, none⟩ = some (.slice A0_0 l0_0.length c0_0) := bcz BK442.out 0 rfl
   have hcz9_1 : w3.cell? ⟨gb442, 1, none⟩ = some (.int .i64 a0_1) := bcz BK442.out 1 rfl
   have hcz9_2 : w3.cell? ⟨gb442, 2, none⟩ = some (.int .i64 a0_2) := bcz BK442.out 2 rfl
   have hcz9_3 : w3.cell? ⟨gb442, 3, none⟩ = some (.int .i64 a0_3) := bcz BK442.out 3 rfl
   obtain ⟨hfz9_0, hfz9_1, hfz9_2, hfz9_3⟩ := F4z (blk_frozen BK442.out)
   go_wp2_with (first | (go_at_call 67; (with_reducible refine (spec_l10Market.calls k _ _ l0_0 a0_1 a0_2 a0_3 false _ ?side1 ?side2 A4.out).mono ?_); (case side1 => have zh := (Kd.C_below HR0_0.out HB.out); exact z15_C); (case side2 => exact HC0_0.out); rintro e w10 ⟨rfl, hb⟩; have n0_ := z15_A (blk_below (g := gb442) (o := .cells #[.slice A0_0 l0_0.length c0_0, .int .i64 a0_1, .int .i64 a0_2, .int .i64 a0_3] 30 (0, 0)) z15_3 hb); have n1_ := z15_A (below_step z15_1 hb); clear BK442 HB; revert n0_ n1_; intro BK442 HB; (try clear hb); (try clear hb2); (try clear hk); (try clear hi)))
   repeat (go_quiet (first | (go_at_call 67; (with_reducible refine (spec_l10Market.calls k _ _ l0_0 a0_1 a0_2 a0_3 false _ ?side1 ?side2 A4.out).mono ?_); (case side1 => have zh := (Kd.C_below HR0_0.out HB.out); exact z15_C); (case side2 => exact HC0_0.out); rintro e w10 ⟨rfl, hb⟩; have n0_ := z15_A (blk_below (g := gb442) (o := .cells #[.slice A0_0 l0_0.length c0_0, .int .i64 a0_1, .int .i64 a0_2, .int .i64 a0_3] 30 (0, 0)) z15_3 hb); have n1_ := z15_A (below_step z15_1 hb); clear BK442 HB; revert n0_ n1_; intro BK442 HB; (try clear hb); (try clear hb2); (try clear hk); (try clear hi))); try go_wp2_with (first | (go_at_call 67; (with_reducible refine (spec_l10Market.calls k _ _ l0_0 a0_1 a0_2 a0_3 false _ ?side1 ?side2 A4.out).mono ?_); (case side1 => have zh := (Kd.C_below HR0_0.out HB.out); exact z15_C); (case side2 => exact HC0_0.out); rintro e w10 ⟨rfl, hb⟩; have n0_ := z15_A (blk_below (g := gb442) (o := .cells #[.slice A0_0 l0_0.length c0_0, .int .i64 a0_1, .int .i64 a0_2, .int .i64 a0_3] 30 (0, 0)) z15_3 hb); have n1_ := z15_A (below_step z15_1 hb); clear BK442 HB; revert n0_ n1_; intro BK442 HB; (try clear hb); (try clear hb2); (try clear hk); (try clear hi))))
   go_meet
   case rel => exact ⟨_, (true), z15_5, H', ⟨by first | omega | exact Nat.le_refl _⟩, ⟨z15_3⟩, ⟨z15_1⟩⟩
 case rest =>
  clear HC2
  skip
  obtain ⟨kq, x15_1, rfl, HA, HJ1, BK442, HB⟩ := hcut
  cases kq with
  | zero => exact absurd HA.out (by simp [spec_QuotientOrder.j0])
  | succ kj1 =>
   have H := HA.out
   clear HA
   simp only [spec_QuotientOrder.j0] at H
   by_cases c11 : x15_1 = true
   ·subst c11
    have H1 : (some (0, false)) = some (r1, r2) := by rw [if_pos rfl] at H; exact H
    clear H
    have H := H1
    clear H1
    simp only [Option.some.injEq, Prod.mk.injEq] at H
    obtain ⟨rfl, rfl⟩ := H
    go_wp2
    repeat (go_quiet (fail); try go_wp2)
    go_ret2
    exact ⟨z15_9, z15_1⟩
   ·replace c11 := Bool.eq_false_iff.mpr c11
    subst c11
    have H1 : (if 0 < (l0_0.length : Int) then (spec_QuotientOrder.l0 kj1 (rd l0_0 0) 0 l0_0 a0_1 a0_2 a0_3) else (none)) = some (r1, r2) := by rw [if_neg (show ¬ (false = true) by decide)] at H; exact H
    clear H
    have H := H1
    clear H1
    by_cases c12 : 0 < (l0_0.length : Int)
    ·rw [if_pos c12] at H
     have c12b0 : decide (0 < (l0_0.length : Int)) = true := decide_eq_true c12
     have c12b1 : decide (0 < l0_0.length) = true := decide_eq_true (by omega)
     clear c12
     have H' := z15_A H
     clear H
     have hcz13_0 : wc.cell? ⟨gb442, 0, none⟩ = some (.slice A0_0 l0_0.length c0_0) := bcz BK442.out 0 rfl
     have hcz13_1 : wc.cell? ⟨gb442, 1, none⟩ = some (.int .i64 a0_1) := bcz BK442.out 1 rfl
     have hcz13_2 : wc.cell? ⟨gb442, 2, none⟩ = some (.int .i64 a0_2) := bcz BK442.out 2 rfl
     have hcz13_3 : wc.cell? ⟨gb442, 3, none⟩ = some (.int .i64 a0_3) := bcz BK442.out 3 rfl
     obtain ⟨hfz13_0, hfz13_1, hfz13_2, hfz13_3⟩ := F4z (blk_frozen BK442.out)
     have p444 : 0 ≤ (0 : Int) := (by omega)
     have q444 : 0 < (l0_0.length : Int) := of_decide_eq_true z15_4
     obtain ⟨ad444, e444, hx444_0⟩ := Kd.at_int HR0_0.out 0 p444 q444
     cases e444
     have qi444 : (0 < l0_0.length) = True := eq_true (by omega)
     (try rw [show ((0 : Int)).toNat = 0 from rfl] at hx444_0)
     (try rw [Addr.add_zero'] at hx444_0)
     replace hx444_0 := (HB.out.cell (World.block_lt_of_cell? w _ hx444_0)).trans hx444_0
     replace p444 := eq_true p444
     replace q444 := eq_true q444
     go_wp2
     repeat (go_quiet (fail); try go_wp2)
     go_loopg [4, 5] kj1 (fun kq v4 v5 w' => ∃ (x4_2 : Int) (x5_2 : Int), v4 = .int .i64 x4_2 ∧ v5 = .int .i64 x5_2 ∧ Aside0 (spec_QuotientOrder.l0 kq x4_2 x5_2 l0_0 a0_1 a0_2 a0_3 = some (r1, r2)) ∧ Aside0 (kq ≤ kj1) ∧ Aside0 (w'.heap[gb442]? = some (.cells #[(.slice (some ad444) l0_0.length c0_0), .int .i64 a0_1, .int .i64 a0_2, .int .i64 a0_3] 30 (0, 0))) ∧ Aside0 (Below w.heap.size w w'))
     case atStart => exact ⟨(rd l0_0 0), (0), z15_5, z15_5, H', ⟨Nat.le_refl _⟩, ⟨z15_3⟩, ⟨z15_1⟩⟩
     case round =>
      clear H'
      (try clear c1); (try clear p4); (try clear q4); (try clear hx4); (try clear qi4); (try clear c11); (try clear c12); (try clear c12b0); (try clear c12b1); (try clear hcz13_0); (try clear hcz13_1); (try clear hcz13_2); (try clear hcz13_3); (try clear hfz13_0); (try clear hfz13_1); (try clear hfz13_2); (try clear hfz13_3); (try clear hx444_0); (try clear p444); (try clear q444)
      obtain ⟨x4_2, x5_2, rfl, rfl, HA, HK2, BK442, HB⟩ := hrel
      cases gk with
      | zero => exact absurd HA.out (by simp [spec_QuotientOrder.l0])
      | succ k2 =>
       have H := HA.out
       clear HA
       simp only [spec_QuotientOrder.l0] at H
       replace H := Option.bind_eq_some_iff.mp H
       obtain ⟨t445, A140, H⟩ := H
       (try dsimp only at H)
       have A14 := z15_A A140
       clear A140
       by_cases c15 : (wrap64 (x4_2 * (wrap64 (a0_1 - a0_3)))) < (wrap64 (t445 * (wrap64 (a0_1 - a0_2))))
       ·rw [if_pos c15] at H
        have c15b0 : decide ((wrap64 (x4_2 * (wrap64 (a0_1 - a0_3)))) < (wrap64 (t445 * (wrap64 (a0_1 - a0_2))))) = true := decide_eq_true c15
        clear c15
        obtain ⟨ji16, hji16⟩ : ∃ j_ : Int, (wrap64 (x5_2 + 1)) = j_ := ⟨_, rfl⟩
        replace H : (if 0 ≤ (ji16) then (if (ji16) < (l0_0.length : Int) then (spec_QuotientOrder.l0 k2 (wrap64 (x4_2 + (rd l0_0 (ji16)))) ji16 l0_0 a0_1 a0_2 a0_3) else (none)) else (none)) = some (r1, r2) := by first | (rw [hji16] at H; exact H) | (simp only [hji16] at H ⊢; exact H)
        (try rw [hji16] at A14)
        have hji16w : (IntKind.i64.wrap (x5_2 + 1)) = ji16 := (i64_w _).trans hji16
        by_cases c17 : 0 ≤ (ji16)
        ·rw [if_pos c17] at H
         have c17b0 : decide (0 ≤ (ji16)) = true := decide_eq_true c17
         clear c17
         by_cases c18 : (ji16) < (l0_0.length : Int)
         ·rw [if_pos c18] at H
          have c18b0 : decide ((ji16) < (l0_0.length : Int)) = true := decide_eq_true c18
          clear c18
          have H' := z15_A H
          clear H
          have hcz19_0 : wr.cell? ⟨gb442, 0, none⟩ = some (.slice (some ad444) l0_0.length c0_0) := bcz BK442.out 0 rfl
          have hcz19_1 : wr.cell? ⟨gb442, 1, none⟩ = some (.int .i64 a0_1) := bcz BK442.out 1 rfl
          have hcz19_2 : wr.cell? ⟨gb442, 2, none⟩ = some (.int .i64 a0_2) := bcz BK442.out 2 rfl
          have hcz19_3 : wr.cell? ⟨gb442, 3, none⟩ = some (.int .i64 a0_3) := bcz BK442.out 3 rfl
          obtain ⟨hfz19_0, hfz19_1, hfz19_2, hfz19_3⟩ := F4z (blk_frozen BK442.out)
          go_wp2_with (first | (go_at_call 101; (with_reducible refine (spec_l2Sum.calls k2 _ _ l0_0 t445 _ ?side1 ?side2 A14.out).mono ?_); (case side1 => have zh := (Kd.C_below HR0_0.out HB.out); exact z15_C); (case side2 => exact HC0_0.out); rintro e w' ⟨rfl, ⟨nd, rfl⟩⟩; (try first | exact ⟨rfl, _, World.drewN_drewN _ _ _⟩ | exact ⟨rfl, _, Eq.trans (World.drewN_drewN _ _ _) (congrArg (World.drewN _) (Nat.add_assoc _ _ _))⟩); have p446 : 0 ≤ ((ji16) : Int) := of_decide_eq_true z15_4; have q446 : (ji16) < (l0_0.length : Int) := of_decide_eq_true z15_4; obtain ⟨ad446, e446, hx446_0⟩ := Kd.at_int HR0_0.out (ji16) p446 q446; obtain rfl : ad444 = ad446 := (by injection e446); replace hx446_0 := (HB.out.cell (World.block_lt_of_cell? w _ hx446_0)).trans hx446_0; replace p446 := eq_true p446; replace q446 := eq_true q446))
          repeat (go_quiet (first | (go_at_call 101; (with_reducible refine (spec_l2Sum.calls k2 _ _ l0_0 t445 _ ?side1 ?side2 A14.out).mono ?_); (case side1 => have zh := (Kd.C_below HR0_0.out HB.out); exact z15_C); (case side2 => exact HC0_0.out); rintro e w' ⟨rfl, ⟨nd, rfl⟩⟩; (try first | exact ⟨rfl, _, World.drewN_drewN _ _ _⟩ | exact ⟨rfl, _, Eq.trans (World.drewN_drewN _ _ _) (congrArg (World.drewN _) (Nat.add_assoc _ _ _))⟩); have p446 : 0 ≤ ((ji16) : Int) := of_decide_eq_true z15_4; have q446 : (ji16) < (l0_0.length : Int) := of_decide_eq_true z15_4; obtain ⟨ad446, e446, hx446_0⟩ := Kd.at_int HR0_0.out (ji16) p446 q446; obtain rfl : ad444 = ad446 := (by injection e446); replace hx446_0 := (HB.out.cell (World.block_lt_of_cell? w _ hx446_0)).trans hx446_0; replace p446 := eq_true p446; replace q446 := eq_true q446)); try go_wp2_with (first | (go_at_call 101; (with_reducible refine (spec_l2Sum.calls k2 _ _ l0_0 t445 _ ?side1 ?side2 A14.out).mono ?_); (case side1 => have zh := (Kd.C_below HR0_0.out HB.out); exact z15_C); (case side2 => exact HC0_0.out); rintro e w' ⟨rfl, ⟨nd, rfl⟩⟩; (try first | exact ⟨rfl, _, World.drewN_drewN _ _ _⟩ | exact ⟨rfl, _, Eq.trans (World.drewN_drewN _ _ _) (congrArg (World.drewN _) (Nat.add_assoc _ _ _))⟩); have p446 : 0 ≤ ((ji16) : Int) := of_decide_eq_true z15_4; have q446 : (ji16) < (l0_0.length : Int) := of_decide_eq_true z15_4; obtain ⟨ad446, e446, hx446_0⟩ := Kd.at_int HR0_0.out (ji16) p446 q446; obtain rfl : ad444 = ad446 := (by injection e446); replace hx446_0 := (HB.out.cell (World.block_lt_of_cell? w _ hx446_0)).trans hx446_0; replace p446 := eq_true p446; replace q446 := eq_true q446)))
          go_roundg k2
          case measure => have := HJ1.out; have := HK2.out; omega
          case rel => exact ⟨(wrap64 (x4_2 + (rd l0_0 (ji16)))), (ji16), z15_8, z15_8, H', ⟨by have := HJ1.out; have := HK2.out; omega⟩, ⟨z15_3⟩, ⟨z15_1⟩⟩
          all_goals (exfalso; have hq := of_decide_eq_true c15b0; simp only [← i64_w] at hq; omega)
         ·rw [if_neg c18] at H
          exact absurd H (by simp)
        ·rw [if_neg c17] at H
         exact absurd H (by simp)
       ·rw [if_neg c15] at H
        have c15b0 : decide ((wrap64 (x4_2 * (wrap64 (a0_1 - a0_3)))) < (wrap64 (t445 * (wrap64 (a0_1 - a0_2))))) = false := decide_eq_false c15
        clear c15
        simp only [Option.some.injEq, Prod.mk.injEq] at H
        obtain ⟨rfl, rfl⟩ := H
        have hcz20_0 : wr.cell? ⟨gb442, 0, none⟩ = some (.slice (some ad444) l0_0.length c0_0) := bcz BK442.out 0 rfl
        have hcz20_1 : wr.cell? ⟨gb442, 1, none⟩ = some (.int .i64 a0_1) := bcz BK442.out 1 rfl
        have hcz20_2 : wr.cell? ⟨gb442, 2, none⟩ = some (.int .i64 a0_2) := bcz BK442.out 2 rfl
        have hcz20_3 : wr.cell? ⟨gb442, 3, none⟩ = some (.int .i64 a0_3) := bcz BK442.out 3 rfl
        obtain ⟨hfz20_0, hfz20_1, hfz20_2, hfz20_3⟩ := F4z (blk_frozen BK442.out)
        go_wp2_with (first | (go_at_call 101; (with_reducible refine (spec_l2Sum.calls k2 _ _ l0_0 t445 _ ?side1 ?side2 A14.out).mono ?_); (case side1 => have zh := (Kd.C_below HR0_0.out HB.out); exact z15_C); (case side2 => exact HC0_0.out); rintro e w' ⟨rfl, ⟨nd, rfl⟩⟩; (try first | exact ⟨rfl, _, World.drewN_drewN _ _ _⟩ | exact ⟨rfl, _, Eq.trans (World.drewN_drewN _ _ _) (congrArg (World.drewN _) (Nat.add_assoc _ _ _))⟩)))
        repeat (go_quiet (first | (go_at_call 101; (with_reducible refine (spec_l2Sum.calls k2 _ _ l0_0 t445 _ ?side1 ?side2 A14.out).mono ?_); (case side1 => have zh := (Kd.C_below HR0_0.out HB.out); exact z15_C); (case side2 => exact HC0_0.out); rintro e w' ⟨rfl, ⟨nd, rfl⟩⟩; (try first | exact ⟨rfl, _, World.drewN_drewN _ _ _⟩ | exact ⟨rfl, _, Eq.trans (World.drewN_drewN _ _ _) (congrArg (World.drewN _) (Nat.add_assoc _ _ _))⟩))); try go_wp2_with (first | (go_at_call 101; (with_reducible refine (spec_l2Sum.calls k2 _ _ l0_0 t445 _ ?side1 ?side2 A14.out).mono ?_); (case side1 => have zh := (Kd.C_below HR0_0.out HB.out); exact z15_C); (case side2 => exact HC0_0.out); rintro e w' ⟨rfl, ⟨nd, rfl⟩⟩; (try first | exact ⟨rfl, _, World.drewN_drewN _ _ _⟩ | exact ⟨rfl, _, Eq.trans (World.drewN_drewN _ _ _) (congrArg (World.drewN _) (Nat.add_assoc _ _ _))⟩))))
        go_ret2
        exact ⟨z15_9, z15_1⟩
    ·rw [if_neg c12] at H
     exact absurd H (by simp)

/-! ### laws_rPairs: function 59 -/
def laws_rPairs.l0 : Nat → List (S67) → List (S67) → Int → Option (Bool)
 | 0, _, _, _ => none
 | k + 1, x0, x1, x5 => if x5 < (x0.length : Int) then (if 0 ≤ x5 then (if x5 < (x1.length : Int) then (if (!(((rd_T67 x0 x5).f0) == ((rd_T67 x1 x5).f0)) || (!(((rd_T67 x0 x5).f1) == ((rd_T67 x1 x5).f1)))) = true then (some false) else (laws_rPairs.l0 k x0 x1 (wrap64 (x5 + 1)))) else (none)) else (none)) else (some true)
def laws_rPairs.f (k : Nat) (l0 : List (S67)) (l1 : List (S67)) : Option (Bool) := if (l0.length : Int) = (l1.length : Int) then (laws_rPairs.l0 k l0 l1 0) else (some false)
theorem laws_rPairs.mono_l : ∀ k, (∀ y0 y1 y2, LeO (laws_rPairs.l0 k y0 y1 y2) (laws_rPairs.l0 (k + 1) y0 y1 y2))
 | 0 => fun _ _ _ r h => by simp [laws_rPairs.l0] at h
 | k + 1 => by
  have ih0 := laws_rPairs.mono_l k
  ·intro y0 y1 y2
   unfold laws_rPairs.l0
   repeat' first
   | (with_reducible exact ih0 _ _ _)
   | (with_reducible exact LeO.refl _)
   | (with_reducible exact LeO.none _)
   | (with_reducible refine LeO.ite ?_ ?_)
   | (with_reducible refine LeO.bind ?_ (fun _ => ?_))
   | exact ih0 _ _ _
   | exact LeO.none _
   | refine LeO.ite ?_ ?_
   | refine LeO.bind ?_ (fun _ => ?_)
theorem laws_rPairs.mono : ∀ a0 a1 k, LeO (laws_rPairs.f k a0 a1) (laws_rPairs.f (k + 1) a0 a1) := by
 intro a0 a1 k
 have ih0 := laws_rPairs.mono_l k
 unfold laws_rPairs.f
 repeat' first
   | (with_reducible exact ih0 _ _ _)
   | (with_reducible exact LeO.refl _)
   | (with_reducible exact LeO.none _)
   | (with_reducible refine LeO.ite ?_ ?_)
   | (with_reducible refine LeO.bind ?_ (fun _ => ?_))
   | exact ih0 _ _ _
   | exact LeO.none _
   | refine LeO.ite ?_ ?_
   | refine LeO.bind ?_ (fun _ => ?_)
set_option maxHeartbeats 8000000 in
set_option maxRecDepth 100000 in
theorem laws_rPairs.calls (k : Nat) (A0 : Option Addr) (c0 : Nat) (l0 : List (S67)) (A1 : Option Addr) (c1 : Nat) (l1 : List (S67)) (r : Bool) (w : World) (hr0 : Kd.C k67 w A0 l0.length l0) (hc0 : l0.length ≤ c0) (hr1 : Kd.C k67 w A1 l1.length l1) (hc1 : l1.length ≤ c1) (h : laws_rPairs.f k l0 l1 = some r) :
  Calls Try.prog 59 #[.slice A0 l0.length c0, .slice A1 l1.length c1] w fun e w' => e = .returned (.bool r) ∧ Drawn0 w w' := by
 have hu67 := Try.underlying67
 have HR0 := z15_A hr0
 have HC0 := z15_A hc0
 clear hr0 hc0
 have HR1 := z15_A hr1
 have HC1 := z15_A hc1
 clear hr1 hc1
 have H : (if (l0.length : Int) = (l1.length : Int) then (laws_rPairs.l0 k l0 l1 0) else (some false)) = some r := h
 clear h
 by_cases c3 : (l0.length : Int) = (l1.length : Int)
 ·rw [if_pos c3] at H
  have c3b0 : ((l0.length : Int) == (l1.length : Int)) = true := beq_iff_eq.mpr c3
  have c3b1 : ((l0.length : Int) != (l1.length : Int)) = false := bne_eq_false_iff_eq.mpr c3
  have c3b2 : (l0.length == l1.length) = true := by first | simpa using c3 | (simp at c3 ⊢; omega)
  clear c3
  have H' := z15_A H
  clear H
  go_enter Try.func59, Try.ntmps59
  go_wp2
  repeat (go_quiet (fail); try go_wp2)
  go_loopg [5] k (fun kq v5 w' => ∃ (x5_1 : Int), v5 = .int .i64 x5_1 ∧ Aside0 (laws_rPairs.l0 kq l0 l1 x5_1 = some r) ∧ Aside0 (kq ≤ k) ∧ Drawn0 w w')
  case atStart => exact ⟨(0), z15_5, H', ⟨Nat.le_refl _⟩, z15_6⟩
  case round =>
   clear H'
   (try clear c1); (try clear c3); (try clear c3b0); (try clear c3b1); (try clear c3b2)
   obtain ⟨x5_1, rfl, HA, HK1, ⟨m1, rfl⟩⟩ := hrel
   cases gk with
   | zero => exact absurd HA.out (by simp [laws_rPairs.l0])
   | succ k1 =>
    have H := HA.out
    clear HA
    simp only [laws_rPairs.l0] at H
    by_cases c4 : x5_1 < (l0.length : Int)
    ·rw [if_pos c4] at H
     have c4b0 : decide (x5_1 < (l0.length : Int)) = true := decide_eq_true c4
     clear c4
     by_cases c5 : 0 ≤ x5_1
     ·rw [if_pos c5] at H
      have c5b0 : decide (0 ≤ x5_1) = true := decide_eq_true c5
      clear c5
      by_cases c6 : x5_1 < (l1.length : Int)
      ·rw [if_pos c6] at H
       have c6b0 : decide (x5_1 < (l1.length : Int)) = true := decide_eq_true c6
       clear c6
       by_cases c7 : (!(((rd_T67 l0 x5_1).f0) == ((rd_T67 l1 x5_1).f0)) || (!(((rd_T67 l0 x5_1).f1) == ((rd_T67 l1 x5_1).f1)))) = true
       ·rw [if_pos c7] at H
        have c7b0 : (!(((rd_T67 l0 x5_1).f0) == ((rd_T67 l1 x5_1).f0)) || (!(((rd_T67 l0 x5_1).f1) == ((rd_T67 l1 x5_1).f1)))) = true := c7
        clear c7
        obtain rfl := Option.some.inj H
        have p447 : 0 ≤ (x5_1 : Int) := of_decide_eq_true z15_4
        have q447 : x5_1 < (l0.length : Int) := of_decide_eq_true z15_4
        obtain ⟨ad447, e447, hx447_0, hx447_1⟩ := at_T67 HR0.out x5_1 p447 q447
        cases e447
        replace p447 := eq_true p447
        replace q447 := eq_true q447
        have p448 : 0 ≤ (x5_1 : Int) := of_decide_eq_true z15_4
        have q448 : x5_1 < (l1.length : Int) := of_decide_eq_true z15_4
        obtain ⟨ad448, e448, hx448_0, hx448_1⟩ := at_T67 HR1.out x5_1 p448 q448
        cases e448
        replace p448 := eq_true p448
        replace q448 := eq_true q448
        go_wp2
        repeat (go_quiet (fail); try go_wp2)
        go_ret
        exact ⟨z15_5, z15_6⟩
       ·rw [if_neg c7] at H
        have c7b0 : (!(((rd_T67 l0 x5_1).f0) == ((rd_T67 l1 x5_1).f0)) || (!(((rd_T67 l0 x5_1).f1) == ((rd_T67 l1 x5_1).f1)))) = false := by simpa using c7
        clear c7
        have H' := z15_A H
        clear H
        have p447 : 0 ≤ (x5_1 : Int) := of_decide_eq_true z15_4
        have q447 : x5_1 < (l0.length : Int) := of_decide_eq_true z15_4
        obtain ⟨ad447, e447, hx447_0, hx447_1⟩ := at_T67 HR0.out x5_1 p447 q447
        cases e447
        replace p447 := eq_true p447
        replace q447 := eq_true q447
        have p448 : 0 ≤ (x5_1 : Int) := of_decide_eq_true z15_4
        have q448 : x5_1 < (l1.length : Int) := of_decide_eq_true z15_4
        obtain ⟨ad448, e448, hx448_0, hx448_1⟩ := at_T67 HR1.out x5_1 p448 q448
        cases e448
        replace p448 := eq_true p448
        replace q448 := eq_true q448
        go_wp2
        repeat (go_quiet (fail); try go_wp2)
        go_roundg k1
        case measure => have := HK1.out; omega
        case rel => exact ⟨(wrap64 (x5_1 + 1)), z15_5, H', ⟨by have := HK1.out; omega⟩, z15_6⟩
      ·rw [if_neg c6] at H
       exact absurd H (by simp)
     ·rw [if_neg c5] at H
      exact absurd H (by simp)
    ·rw [if_neg c4] at H
     have c4b0 : decide (x5_1 < (l0.length : Int)) = false := decide_eq_false c4
     clear c4
     obtain rfl := Option.some.inj H
     go_wp2
     repeat (go_quiet (fail); try go_wp2)
     go_ret
     exact ⟨z15_5, z15_6⟩
 ·rw [if_neg c3] at H
  have c3b0 : ((l0.length : Int) == (l1.length : Int)) = false := beq_eq_false_iff_ne.mpr c3
  have c3b1 : ((l0.length : Int) != (l1.length : Int)) = true := bne_iff_ne.mpr c3
  have c3b2 : (l0.length == l1.length) = false := by first | simpa using c3 | (simp at c3 ⊢; omega)
  obtain rfl := Option.some.inj H
  go_enter Try.func59, Try.ntmps59
  go_wp2
  repeat (go_quiet (fail); try go_wp2)
  go_ret
  exact ⟨z15_5, z15_6⟩

end Go.Proofs.Ytiniocecpgjikaa.PFnProfits
