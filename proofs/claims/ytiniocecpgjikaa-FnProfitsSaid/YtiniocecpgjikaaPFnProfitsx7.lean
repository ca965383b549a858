-- A text of this session (its program hook.py, over the kit's print.py): not a print of print.sh
-- THIN: one blank for two
import Derived.Test.YtiniocecpgjikaaPFnProfitsx0
import Derived.Test.YtiniocecpgjikaaPFnProfitsx2
import Derived.Test.YtiniocecpgjikaaPFnProfitsx4
import Derived.Test.YtiniocecpgjikaaPFnProfitsx5
import Derived.Test.YtiniocecpgjikaaPFnProfitsx6
namespace Go.Proofs.Ytiniocecpgjikaa.PFnProfits
open Go.RowKit Go.Proofs.YtiniocecpgjikaaW.PrintWords Go.Proofs.YtiniocecpgjikaaW.PrintLast Go.Proofs.YtiniocecpgjikaaW.PrintMore
attribute [local go_sem] max2_int min2_int max_two min_two max_three min_three max_four min_four   -- for this text's walks alone
set_option linter.unusedVariables false
set_option linter.unusedSimpArgs false

-- SQUEEZED
private theorem bcz {w : World} {g : Nat} {t : TypeId} {cs : Array Value} (h : w.heap[g]? = some (.cells cs t (0, 0))) (i : Nat) {v : Value} (e : cs[i]? = some v) : w.cell? ⟨g, i, none⟩ = some v := (blk_cell h i).trans e
private theorem F2z {P : Nat → Prop} (h : ∀ i, P i) : P 0 ∧ P 1 := ⟨h 0, h 1⟩
private theorem F3z {P : Nat → Prop} (h : ∀ i, P i) : P 0 ∧ P 1 ∧ P 2 := ⟨h 0, h 1, h 2⟩
private theorem F4z {P : Nat → Prop} (h : ∀ i, P i) : P 0 ∧ P 1 ∧ P 2 ∧ P 3 := ⟨h 0, h 1, h 2, h 3⟩
theorem z7_A {p : Prop} (h : p) : Aside0 p := Aside0.mk h
theorem z7_C {p : Prop} (h : p := by repeat (first | exact zh | (with_reducible refine Kd.C_alloc ?_ _) | (with_reducible refine Kd.C_drewN ?_ _) | (with_reducible refine Kd.C_drew ?_))) : p := h
theorem z7_1 {p : Prop} (h : p := by repeat (first | (with_reducible first | exact HB.out | apply below_alloc | apply pw_below_drewN | apply below_drew1) | exact HB.out)) : p := h
theorem z7_2 {p : Prop} (h : p := by repeat (first | (with_reducible first | exact HB.out | apply below_alloc | apply pw_below_drewN | apply below_drew1 | refine below_set ?_ GE185.out) | exact HB.out)) : p := h
theorem z7_3 {p : Prop} (h : p := by (with_reducible repeat (first | refine blk_drewN ?_ _ | refine blk_drew ?_ | refine blk_alloc ?_ _)); exact BK185.out) : p := h
theorem z7_4 {p : Prop} (h : p := by (try simp only [List.map_toArray, List.map_cons, List.map_nil]); first | done | rfl | (simp only [List.length_drop, List.length_take]; rfl)) : p := h
theorem z7_5 {p : Prop} (h : p := by (with_reducible repeat (first | refine blk_drewN ?_ _ | refine blk_drew ?_ | refine blk_alloc ?_ _)); exact BK213.out) : p := h
theorem z7_6 {p : Prop} (h : p := by repeat (first | (with_reducible first | exact HB.out | apply below_alloc | apply pw_below_drewN | apply below_drew1 | refine below_set ?_ GE213.out | refine below_set ?_ GE214.out) | exact HB.out)) : p := h
theorem z7_7 {p : Prop} (h : p := by first | rfl | (simp [errW_none, errW_some] <;> rfl) | (simp [*, errW_none, errW_some] <;> rfl)) : p := h
theorem z7_8 {p : Prop} (h : p := by first | (rw [add_block]; exact hn192_1) | (show (Addr.add _ _).block ≠ _; rw [add_block]; exact hn192_1) | exact hn192_1) : p := h
theorem z7_9 {p : Prop} (h : p := by first | (rw [add_block]; exact hn192_0) | (show (Addr.add _ _).block ≠ _; rw [add_block]; exact hn192_0) | exact hn192_0) : p := h
theorem z7_10 {p : Prop} (h : p := by repeat (first | (with_reducible first | exact HB.out | apply below_alloc | apply pw_below_drewN | apply below_drew1 | refine below_set ?_ GE213.out) | exact HB.out)) : p := h
theorem z7_11 {p : Prop} (h : p := by rw [hg]; exact (below_size z7_1)) : p := h
theorem z7_12 {p : Prop} (h : p := by repeat (first | (with_reducible first | exact HB.out | apply below_alloc | apply pw_below_drewN | apply below_drew1 | refine below_set ?_ GE193.out) | exact HB.out)) : p := h
theorem z7_13 {p : Prop} (h : p := by repeat (first | (with_reducible first | exact HB.out | apply below_alloc | apply pw_below_drewN | apply below_drew1 | refine below_set ?_ GE175.out) | exact HB.out)) : p := h
theorem z7_14 {p : Prop} (h : p := by repeat (first | (with_reducible first | exact HB.out | apply below_alloc | apply pw_below_drewN | apply below_drew1 | refine below_set ?_ GE175.out | refine below_set ?_ GE179.out) | exact HB.out)) : p := h
theorem z7_15 {p : Prop} (h : p := by (with_reducible repeat (first | refine blk_drewN ?_ _ | refine blk_drew ?_ | refine blk_alloc ?_ _)); exact BK175.out) : p := h
theorem z7_16 {p : Prop} (h : p := by repeat (first | (with_reducible first | exact HB.out | apply below_alloc | apply pw_below_drewN | apply below_drew1 | refine below_set ?_ GE201.out) | exact HB.out)) : p := h
theorem z7_17 {p : Prop} (h : p := by rw [hg]; exact Nat.ne_of_lt (blk_lt (g := gb185) (o := .cells #[.slice A0_0 l0_0.length c0_0, .int .i64 a0_1, .int .i64 a0_2, .int .i64 a0_3] 30 (0, 0)) z7_3)) : p := h
theorem z7_18 {p : Prop} (h : p := by rw [hg]; exact Nat.ne_of_gt (blk_lt (g := gb185) (o := .cells #[.slice A0_0 l0_0.length c0_0, .int .i64 a0_1, .int .i64 a0_2, .int .i64 a0_3] 30 (0, 0)) z7_3)) : p := h
theorem z7_19 {p : Prop} (h : p := by first | (with_reducible assumption) | assumption) : p := h
theorem z7_20 {p : Prop} (h : p := by repeat (first | (with_reducible first | exact HB.out | apply below_alloc | apply pw_below_drewN | apply below_drew1 | refine below_set ?_ GE218.out) | exact HB.out)) : p := h
theorem z7_21 {p : Prop} (h : p := by (with_reducible repeat (first | refine blk_drewN ?_ _ | refine blk_drew ?_ | refine blk_alloc ?_ _)); exact BK214.out) : p := h
theorem z7_22 {p : Prop} (h : p := by (with_reducible repeat (first | apply Kd.R_alloc | apply Kd.R_drewN | apply Kd.R_drew)); exact HO_13.out) : p := h
theorem z7_23 {p : Prop} (h : p := by (with_reducible repeat (first | apply Kd.R_alloc | apply Kd.R_drewN | apply Kd.R_drew)); exact HO_5.out) : p := h
theorem z7_24 {p : Prop} (h : p := by repeat (first | (with_reducible first | exact HB.out | apply below_alloc | apply pw_below_drewN | apply below_drew1 | refine below_set ?_ GE210.out) | exact HB.out)) : p := h
theorem z7_25 {p : Prop} (h : p := by rw [if_neg (show ¬ (false = true) by decide)] at H; exact H) : p := h
theorem z7_26 {p : Prop} (h : p := by (with_reducible repeat (first | refine blk_drewN ?_ _ | refine blk_drew ?_ | refine blk_alloc ?_ _)); refine blk_far ?_ NB185_191.out _; (with_reducible repeat (first | refine blk_drewN ?_ _ | refine blk_drew ?_ | refine blk_alloc ?_ _)); refine blk_far ?_ NB185_191.out _; (with_reducible repeat (first | refine blk_drewN ?_ _ | refine blk_drew ?_ | refine blk_alloc ?_ _)); exact BK185.out) : p := h
theorem z7_27 {p : Prop} (h : p := by (with_reducible repeat (first | apply Kd.R_alloc | apply Kd.R_drewN | apply Kd.R_drew)); exact Kd.R_mono (Kd.R_far (p := ⟨gb191, 1, none⟩) (Kd.R_far (p := ⟨gb191, 0, none⟩) (Kd.R_mono HO_13.out (fun k_ hk => (⟨hk, hk.2⟩ : _ ∧ k_ ≠ gb191))) (fun _ hk => hk.2) (.int .i64 ((rd_T67 t187 x15_1).f0))) (fun _ hk => hk.2) (.int .i64 ((rd_T67 t187 x15_1).f1))) (fun _ hk => trivial)) : p := h
theorem z7_28 {p : Prop} (h : p := by (with_reducible repeat (first | apply Kd.R_alloc | apply Kd.R_drewN | apply Kd.R_drew)); exact Kd.R_mono (Kd.R_far (p := ⟨gb191, 1, none⟩) (Kd.R_far (p := ⟨gb191, 0, none⟩) (Kd.R_mono HO_5.out (fun k_ hk => (⟨hk, hk.2⟩ : _ ∧ k_ ≠ gb191))) (fun _ hk => hk.2) (.int .i64 ((rd_T67 t187 x15_1).f0))) (fun _ hk => hk.2) (.int .i64 ((rd_T67 t187 x15_1).f1))) (fun _ hk => trivial)) : p := h
theorem z7_29 {p : Prop} (h : p := by first | rfl | (simp; done) | (simp [*]; done)) : p := h
theorem z7_30 {p : Prop} (h : p := by (with_reducible repeat (first | refine blk_drewN ?_ _ | refine blk_drew ?_ | refine blk_alloc ?_ _)); exact BK193.out) : p := h
theorem z7_31 {p : Prop} (h : p := by rw [hg]; exact (below_size z7_2)) : p := h
theorem z7_32 {p : Prop} (h : p := by repeat (first | (with_reducible first | exact HB.out | apply below_alloc | apply pw_below_drewN | apply below_drew1 | refine below_set ?_ GE206.out) | exact HB.out)) : p := h
theorem z7_33 {p : Prop} (h : p := by rw [hg]; exact Nat.ne_of_lt (blk_lt (g := gb213) (o := .cells #[.slice A0_0 l0_0.length c0_0, .int .i64 a0_1, .int .i64 a0_2, .int .i64 a0_3] 30 (0, 0)) z7_5)) : p := h
theorem z7_34 {p : Prop} (h : p := by rw [hg]; exact Nat.ne_of_gt (blk_lt (g := gb213) (o := .cells #[.slice A0_0 l0_0.length c0_0, .int .i64 a0_1, .int .i64 a0_2, .int .i64 a0_3] 30 (0, 0)) z7_5)) : p := h
theorem z7_35 {p : Prop} (h : p := by (with_reducible repeat (first | apply Kd.R_alloc | apply Kd.R_drewN | apply Kd.R_drew)); exact HO_3.out) : p := h
theorem z7_36 {p : Prop} (h : p := by rw [if_pos rfl] at H; exact H) : p := h
theorem z7_37 {p : Prop} (h : p := by (with_reducible repeat (first | refine blk_drewN ?_ _ | refine blk_drew ?_ | refine blk_alloc ?_ _)); exact BK218.out) : p := h
theorem z7_38 {p : Prop} (h : p := by (with_reducible repeat (first | refine blk_drewN ?_ _ | refine blk_drew ?_ | refine blk_alloc ?_ _)); exact BK201.out) : p := h
theorem z7_39 {p : Prop} (h : p := by kernel_rfl) : p := h
theorem z7_40 {p : Prop} (h : p := by repeat (first | (with_reducible first | exact HB.out | apply below_alloc | apply pw_below_drewN | apply below_drew1 | refine below_set ?_ GE185.out | refine below_set ?_ GE191.out) | exact HB.out)) : p := h
theorem z7_41 {p : Prop} (h : p := by rw [hg]; exact (below_size z7_10)) : p := h
theorem z7_42 {p : Prop} (h : p := by (with_reducible repeat (first | refine blk_drewN ?_ _ | refine blk_drew ?_ | refine blk_alloc ?_ _)); exact BK210.out) : p := h
theorem z7_43 {p : Prop} (h : p := by (with_reducible repeat (first | refine blk_drewN ?_ _ | refine blk_drew ?_ | refine blk_alloc ?_ _)); exact BK179.out) : p := h
theorem z7_44 {p : Prop} (h : p := by (with_reducible repeat (first | apply Kd.R_alloc | apply Kd.R_drewN | apply Kd.R_drew)); exact HO189.out) : p := h

/-! ### impl_Market_plain: function 69 -/
def impl_Market_plain.l0 : Nat → List (S67) → Int → List Int → Int → Int → Int → Option ((List (S67)))
 | 0, _, _, _, _, _, _ => none
 | k + 1, x3, x4, x176000, x176001, x176002, x176003 => if x4 ≤ x176001 then ((impl_Market_sellerOrder.f k x176000 x176001 x176002 x176003 x4 0 100).bind fun t180 => ((impl_Market_maker.f k x176000 x176001 x176002 x176003 x4 0 100 t180).bind fun t181 => (if x3.length < 8796093022208 then (impl_Market_plain.l0 k (x3 ++ [(⟨t180, t181⟩ : S67)]) (wrap64 (x4 + 1)) x176000 x176001 x176002 x176003) else (none)))) else (some x3)
def impl_Market_plain.f (k : Nat) (l0_0 : List Int) (a0_1 : Int) (a0_2 : Int) (a0_3 : Int) : Option ((List (S67))) := impl_Market_plain.l0 k (([] : List (S67))) a0_2 l0_0 a0_1 a0_2 a0_3
theorem impl_Market_plain.mono_l : ∀ k, (∀ y0 y1 y2 y3 y4 y5, LeO (impl_Market_plain.l0 k y0 y1 y2 y3 y4 y5) (impl_Market_plain.l0 (k + 1) y0 y1 y2 y3 y4 y5))
 | 0 => fun _ _ _ _ _ _ r h => by simp [impl_Market_plain.l0] at h
 | k + 1 => by
  have ih0 := impl_Market_plain.mono_l k
  ·intro y0 y1 y2 y3 y4 y5
   unfold impl_Market_plain.l0
   repeat' first
   | (with_reducible exact ih0 _ _ _ _ _ _)
   | (with_reducible exact impl_Market_maker.mono _ _ _ _ _ _ _ _ _)
   | (with_reducible exact impl_Market_sellerOrder.mono _ _ _ _ _ _ _ _)
   | (with_reducible exact LeO.refl _)
   | (with_reducible exact LeO.none _)
   | (with_reducible refine LeO.ite ?_ ?_)
   | (with_reducible refine LeO.bind ?_ (fun _ => ?_))
   | exact ih0 _ _ _ _ _ _
   | exact impl_Market_maker.mono _ _ _ _ _ _ _ _ _
   | exact impl_Market_sellerOrder.mono _ _ _ _ _ _ _ _
   | exact LeO.none _
   | refine LeO.ite ?_ ?_
   | refine LeO.bind ?_ (fun _ => ?_)
theorem impl_Market_plain.mono : ∀ a0 a1 a2 a3 k, LeO (impl_Market_plain.f k a0 a1 a2 a3) (impl_Market_plain.f (k + 1) a0 a1 a2 a3) := by
 intro a0 a1 a2 a3 k
 have ih0 := impl_Market_plain.mono_l k
 unfold impl_Market_plain.f
 repeat' first
   | (with_reducible exact ih0 _ _ _ _ _ _)
   | (with_reducible exact impl_Market_maker.mono _ _ _ _ _ _ _ _ _)
   | (with_reducible exact impl_Market_sellerOrder.mono _ _ _ _ _ _ _ _)
   | (with_reducible exact LeO.refl _)
   | (with_reducible exact LeO.none _)
   | (with_reducible refine LeO.ite ?_ ?_)
   | (with_reducible refine LeO.bind ?_ (fun _ => ?_))
   | exact ih0 _ _ _ _ _ _
   | exact impl_Market_maker.mono _ _ _ _ _ _ _ _ _
   | exact impl_Market_sellerOrder.mono _ _ _ _ _ _ _ _
   | exact LeO.none _
   | refine LeO.ite ?_ ?_
   | refine LeO.bind ?_ (fun _ => ?_)
set_option maxHeartbeats 8000000 in
set_option maxRecDepth 100000 in
theorem impl_Market_plain.calls (k : Nat) (A0_0 : Option Addr) (c0_0 : Nat) (l0_0 : List Int) (a0_1 : Int) (a0_2 : Int) (a0_3 : Int) (r : List (S67)) (w : World) (hr0_0 : Kd.C (Kd.int .i64) w A0_0 l0_0.length l0_0) (hc0_0 : l0_0.length ≤ c0_0) (h : impl_Market_plain.f k l0_0 a0_1 a0_2 a0_3 = some r) :
  Calls Try.prog 69 #[.agg #[.slice A0_0 l0_0.length c0_0, .int .i64 a0_1, .int .i64 a0_2, .int .i64 a0_3]] w fun e w' => ∃ v0_ : Value, e = .returned (v0_) ∧ Kd.R k67 67 w' w.heap.size (fun _ => True) v0_ r ∧ Below w.heap.size w w' := by
 have hu30 := Try.underlying30
 have hu32 := Try.underlying32
 have hu67 := Try.underlying67
 have HR0_0 := z7_A hr0_0
 have HC0_0 := z7_A hc0_0
 clear hr0_0 hc0_0
 have HB := z7_A (Below.refl w.heap.size w)
 have H : (impl_Market_plain.l0 k (([] : List (S67))) a0_2 l0_0 a0_1 a0_2 a0_3) = some r := h
 clear h
 obtain ⟨y176, hy176⟩ : ∃ y_ : List (S67), y_ = (([] : List (S67))) := ⟨_, rfl⟩
 replace H : (impl_Market_plain.l0 k y176 a0_2 l0_0 a0_1 a0_2 a0_3) = some r := by first | (rw [hy176]; with_reducible exact H) | (have H2_ := (Option.bind_some _ _).symm.trans H; rw [hy176]; with_reducible exact H2_) | (have H2_ := (Option.bind_some _ _).symm.trans H; with_reducible exact H2_) | with_reducible exact H | (rw [hy176]; exact H) | exact H
 have Ny176 := z7_A hy176
 clear hy176
 have H' := z7_A H
 clear H
 go_enter Try.func69, Try.ntmps69
 go_wp2_with (first | ((with_reducible refine gate_dst (N := 1) rfl ?_); refine box_event ?hg (N := 1) ?hd (cs := #[.slice A0_0 l0_0.length c0_0, .int .i64 a0_1, .int .i64 a0_2, .int .i64 a0_3]) (t := 30) ?hr ?_; (case hd => rfl); (case hg => rfl); (case hr => first | (go_simp; done) | (go_simp; rfl)); intro gb175 hg w2 hbox hb; have n0_ := z7_A (below_step z7_1 hb); have n1_ := z7_A (hbox); have n2_ := z7_A ((z7_11 : w.heap.size ≤ gb175)); have n3_ := z7_A ((z7_11 : w.heap.size ≤ gb175)); clear HB; revert n0_ n1_ n2_ n3_; intro HB BK175 GW175 GE175; clear hb hbox hg) | ((with_reducible refine gate_dst (N := 7) rfl ?_); refine Kd.R_lit k67 _ 67 ?hg (N := 7) ?hd (xs := ([] : List (S67))) (inner := []) (ok := fun _ => True) (okp := fun _ => True) ?hr ?hp (fun _ hk => hk) trivial (Below.refl _ _) (Nat.le_refl _) (by simp) ?_; (case hd => rfl); (case hg => rfl); (case hr => first | (go_simp; done) | (go_simp; rfl)); (case hp => exact (Reps.none _ _)); intro v177 w3 ho4 hb hg_ hnew_; clear hg_ hnew_; (first | rw [← Ny176.out] at ho4 | (simp only [Int.reduceToNat] at ho4; rw [← Ny176.out] at ho4)); have n0_ := z7_A (Kd.R_lower ho4 (below_size z7_13)); have n1_ := z7_A (blk_below (g := gb175) (o := .cells #[.slice A0_0 l0_0.length c0_0, .int .i64 a0_1, .int .i64 a0_2, .int .i64 a0_3] 30 (0, 0)) z7_15 hb); have n2_ := z7_A (below_step z7_13 hb); clear BK175 HB; revert n0_ n1_ n2_; intro HO178 BK175 HB; clear hb ho4; have hcz5_0 : w3.cell? ⟨gb175, 0, none⟩ = some (.slice A0_0 l0_0.length c0_0) := bcz BK175.out 0 rfl; have hcz5_1 : w3.cell? ⟨gb175, 1, none⟩ = some (.int .i64 a0_1) := bcz BK175.out 1 rfl; have hcz5_2 : w3.cell? ⟨gb175, 2, none⟩ = some (.int .i64 a0_2) := bcz BK175.out 2 rfl; have hcz5_3 : w3.cell? ⟨gb175, 3, none⟩ = some (.int .i64 a0_3) := bcz BK175.out 3 rfl; obtain ⟨hfz5_0, hfz5_1, hfz5_2, hfz5_3⟩ := F4z (blk_frozen BK175.out)))
 go_loopg [3, 4] k (fun kq v3 v4 w' => ∃ (x3_1 : List (S67)) (x4_1 : Int), v4 = .int .i64 x4_1 ∧ Aside0 (impl_Market_plain.l0 kq x3_1 x4_1 l0_0 a0_1 a0_2 a0_3 = some r) ∧ Aside0 (kq ≤ k) ∧ Aside0 (Kd.R k67 67 w' w.heap.size (fun _ => True) v3 x3_1) ∧ Aside0 (w'.heap[gb175]? = some (.cells #[(.slice A0_0 l0_0.length c0_0), .int .i64 a0_1, .int .i64 a0_2, .int .i64 a0_3] 30 (0, 0))) ∧ Aside0 (Below w.heap.size w w'))
 case atStart => exact ⟨(y176), (a0_2), z7_29, H', ⟨Nat.le_refl _⟩, ⟨by (with_reducible repeat (first | apply Kd.R_alloc | apply Kd.R_drewN | apply Kd.R_drew)); exact HO178.out⟩, ⟨z7_15⟩, ⟨z7_13⟩⟩
 case round =>
  clear H'
  (try clear hcz5_0); (try clear hcz5_1); (try clear hcz5_2); (try clear hcz5_3); (try clear hfz5_0); (try clear hfz5_1); (try clear hfz5_2); (try clear hfz5_3)
  obtain ⟨x3_1, x4_1, rfl, HA, HK1, HO_3, BK175, HB⟩ := hrel
  cases gk with
  | zero => exact absurd HA.out (by simp [impl_Market_plain.l0])
  | succ k1 =>
   have H := HA.out
   clear HA
   simp only [impl_Market_plain.l0] at H
   by_cases c6 : x4_1 ≤ a0_1
   ·rw [if_pos c6] at H
    have c6b0 : decide (x4_1 ≤ a0_1) = true := decide_eq_true c6
    clear c6
    replace H := Option.bind_eq_some_iff.mp H
    obtain ⟨t180, A70, H⟩ := H
    (try dsimp only at H)
    have A7 := z7_A A70
    clear A70
    replace H := Option.bind_eq_some_iff.mp H
    obtain ⟨t181, A80, H⟩ := H
    (try dsimp only at H)
    have A8 := z7_A A80
    clear A80
    by_cases c9 : x3_1.length < 8796093022208
    ·rw [if_pos c9] at H
     have LMc9 := z7_A c9
     clear c9
     obtain ⟨y182, hy182⟩ : ∃ y_ : List (S67), y_ = (x3_1 ++ [(⟨t180, t181⟩ : S67)]) := ⟨_, rfl⟩
     replace H : (impl_Market_plain.l0 k1 y182 (wrap64 (x4_1 + 1)) l0_0 a0_1 a0_2 a0_3) = some r := by first | (rw [hy182]; with_reducible exact H) | (have H2_ := (Option.bind_some _ _).symm.trans H; rw [hy182]; with_reducible exact H2_) | (have H2_ := (Option.bind_some _ _).symm.trans H; with_reducible exact H2_) | with_reducible exact H | (rw [hy182]; exact H) | exact H
     have Ny182 := z7_A hy182
     clear hy182
     have H' := z7_A H
     clear H
     have hcz10_0 : wr.cell? ⟨gb175, 0, none⟩ = some (.slice A0_0 l0_0.length c0_0) := bcz BK175.out 0 rfl
     have hcz10_1 : wr.cell? ⟨gb175, 1, none⟩ = some (.int .i64 a0_1) := bcz BK175.out 1 rfl
     have hcz10_2 : wr.cell? ⟨gb175, 2, none⟩ = some (.int .i64 a0_2) := bcz BK175.out 2 rfl
     have hcz10_3 : wr.cell? ⟨gb175, 3, none⟩ = some (.int .i64 a0_3) := bcz BK175.out 3 rfl
     obtain ⟨hfz10_0, hfz10_1, hfz10_2, hfz10_3⟩ := F4z (blk_frozen BK175.out)
     go_wp2_with (first | ((with_reducible refine gate_dst (N := 5) rfl ?_); refine box_event ?hg (N := 5) ?hd (cs := #[.int .i64 0, .int .i64 0, .int .i64 0]) (t := 32) ?hr ?_; (case hd => rfl); (case hg => rfl); (case hr => first | (go_simp; done) | (go_simp; rfl)); intro gb179 hg w11 hbox hb; have n0_ := z7_A (Kd.R_below z7_35 hb); have n1_ := z7_A (blk_below (g := gb175) (o := .cells #[.slice A0_0 l0_0.length c0_0, .int .i64 a0_1, .int .i64 a0_2, .int .i64 a0_3] 30 (0, 0)) z7_15 hb); have n2_ := z7_A (below_step z7_13 hb); have n3_ := z7_A (hbox); have n4_ := z7_A ((by rw [hg]; exact (below_size z7_13) : w.heap.size ≤ gb179)); have n5_ := z7_A ((by rw [hg]; exact (below_size z7_13) : w.heap.size ≤ gb179)); have n6_ := z7_A ((by rw [hg]; exact Nat.ne_of_lt (blk_lt (g := gb175) (o := .cells #[.slice A0_0 l0_0.length c0_0, .int .i64 a0_1, .int .i64 a0_2, .int .i64 a0_3] 30 (0, 0)) z7_15) : gb175 ≠ gb179)); have n7_ := z7_A ((by rw [hg]; exact Nat.ne_of_gt (blk_lt (g := gb175) (o := .cells #[.slice A0_0 l0_0.length c0_0, .int .i64 a0_1, .int .i64 a0_2, .int .i64 a0_3] 30 (0, 0)) z7_15) : gb179 ≠ gb175)); clear HO_3 BK175 HB; revert n0_ n1_ n2_ n3_ n4_ n5_ n6_ n7_; intro HO_3 BK175 HB BK179 GW179 GE179 NB175_179 NB179_175; clear hb hbox hg; have hnb12 := NB179_175.out; have hnc12 := NB175_179.out; have hcz13_0 : w11.cell? ⟨gb179, 0, none⟩ = some (.int .i64 0) := bcz BK179.out 0 rfl; have hcz13_1 : w11.cell? ⟨gb179, 1, none⟩ = some (.int .i64 0) := bcz BK179.out 1 rfl; have hcz13_2 : w11.cell? ⟨gb179, 2, none⟩ = some (.int .i64 0) := bcz BK179.out 2 rfl; obtain ⟨hfz13_0, hfz13_1, hfz13_2⟩ := F3z (blk_frozen BK179.out); have hcz14_0 : w11.cell? ⟨gb175, 0, none⟩ = some (.slice A0_0 l0_0.length c0_0) := bcz BK175.out 0 rfl; have hcz14_1 : w11.cell? ⟨gb175, 1, none⟩ = some (.int .i64 a0_1) := bcz BK175.out 1 rfl; have hcz14_2 : w11.cell? ⟨gb175, 2, none⟩ = some (.int .i64 a0_2) := bcz BK175.out 2 rfl; have hcz14_3 : w11.cell? ⟨gb175, 3, none⟩ = some (.int .i64 a0_3) := bcz BK175.out 3 rfl; obtain ⟨hfz14_0, hfz14_1, hfz14_2, hfz14_3⟩ := F4z (blk_frozen BK175.out)) | ((with_reducible refine gate_callee (f := 79) rfl ?_); refine goesL_ (some 20) rfl rfl Try.func79 z7_39 rfl #[.agg #[.slice A0_0 l0_0.length c0_0, .int .i64 a0_1, .int .i64 a0_2, .int .i64 a0_3], .agg #[.int .i64 x4_1, .int .i64 0, .int .i64 100]] rfl z7_4 ?_; (with_reducible refine (impl_Market_sellerOrder.calls k1 _ _ l0_0 a0_1 a0_2 a0_3 x4_1 0 100 t180 _ ?side1 ?side2 A7.out).mono ?_); (case side1 => exact Kd.C_below HR0_0.out z7_14); (case side2 => exact HC0_0.out); rintro e w15 ⟨rfl, hb⟩; refine ⟨_, rfl, ?_⟩; have n0_ := z7_A (Kd.R_below (by (with_reducible repeat (first | apply Kd.R_alloc | apply Kd.R_drewN | apply Kd.R_drew)); exact (Kd.R_mono (Kd.R_far (p := ⟨gb179, 2, none⟩) (Kd.R_far (p := ⟨gb179, 1, none⟩) (Kd.R_far (p := ⟨gb179, 0, none⟩) (Kd.R_types HO_3.out BK179.out (by decide)) (fun _ hk => hk.2) (.int .i64 x4_1)) (fun _ hk => hk.2) (.int .i64 0)) (fun _ hk => hk.2) (.int .i64 100)) (fun _ h_ => h_.1))) hb); have n1_ := z7_A (blk_below (g := gb175) (o := .cells #[.slice A0_0 l0_0.length c0_0, .int .i64 a0_1, .int .i64 a0_2, .int .i64 a0_3] 30 (0, 0)) (by (with_reducible repeat (first | refine blk_drewN ?_ _ | refine blk_drew ?_ | refine blk_alloc ?_ _)); refine blk_far ?_ NB175_179.out _; (with_reducible repeat (first | refine blk_drewN ?_ _ | refine blk_drew ?_ | refine blk_alloc ?_ _)); refine blk_far ?_ NB175_179.out _; (with_reducible repeat (first | refine blk_drewN ?_ _ | refine blk_drew ?_ | refine blk_alloc ?_ _)); refine blk_far ?_ NB175_179.out _; (with_reducible repeat (first | refine blk_drewN ?_ _ | refine blk_drew ?_ | refine blk_alloc ?_ _)); exact BK175.out) hb); have n2_ := z7_A (blk_below (g := gb179) (o := .cells #[.int .i64 x4_1, .int .i64 0, .int .i64 100] 32 (0, 0)) (by (with_reducible repeat (first | refine blk_drewN ?_ _ | refine blk_drew ?_ | refine blk_alloc ?_ _)); refine blk_put (cs := #[.int .i64 x4_1, .int .i64 0, .int .i64 0]) ?_ 2 _ rfl; (with_reducible repeat (first | refine blk_drewN ?_ _ | refine blk_drew ?_ | refine blk_alloc ?_ _)); refine blk_put (cs := #[.int .i64 x4_1, .int .i64 0, .int .i64 0]) ?_ 1 _ rfl; (with_reducible repeat (first | refine blk_drewN ?_ _ | refine blk_drew ?_ | refine blk_alloc ?_ _)); refine blk_put (cs := #[.int .i64 0, .int .i64 0, .int .i64 0]) ?_ 0 _ rfl; (with_reducible repeat (first | refine blk_drewN ?_ _ | refine blk_drew ?_ | refine blk_alloc ?_ _)); exact BK179.out) hb); have n3_ := z7_A (below_step z7_14 hb); clear HO_3 BK175 BK179 HB; revert n0_ n1_ n2_ n3_; intro HO_3 BK175 BK179 HB; (try clear hb); (try clear hb2); (try clear hk); (try clear hi); have hcz16_0 : w15.cell? ⟨gb175, 0, none⟩ = some (.slice A0_0 l0_0.length c0_0) := bcz BK175.out 0 rfl; have hcz16_1 : w15.cell? ⟨gb175, 1, none⟩ = some (.int .i64 a0_1) := bcz BK175.out 1 rfl; have hcz16_2 : w15.cell? ⟨gb175, 2, none⟩ = some (.int .i64 a0_2) := bcz BK175.out 2 rfl; have hcz16_3 : w15.cell? ⟨gb175, 3, none⟩ = some (.int .i64 a0_3) := bcz BK175.out 3 rfl; obtain ⟨hfz16_0, hfz16_1, hfz16_2, hfz16_3⟩ := F4z (blk_frozen BK175.out); have hcz17_0 : w15.cell? ⟨gb179, 0, none⟩ = some (.int .i64 x4_1) := bcz BK179.out 0 rfl; have hcz17_1 : w15.cell? ⟨gb179, 1, none⟩ = some (.int .i64 0) := bcz BK179.out 1 rfl; have hcz17_2 : w15.cell? ⟨gb179, 2, none⟩ = some (.int .i64 100) := bcz BK179.out 2 rfl; obtain ⟨hfz17_0, hfz17_1, hfz17_2⟩ := F3z (blk_frozen BK179.out)) | ((with_reducible refine gate_callee (f := 94) rfl ?_); refine goesL_ (some 26) rfl rfl Try.func94 z7_39 rfl #[.agg #[.slice A0_0 l0_0.length c0_0, .int .i64 a0_1, .int .i64 a0_2, .int .i64 a0_3], .agg #[.int .i64 x4_1, .int .i64 0, .int .i64 100], .int .i64 t180] rfl z7_4 ?_; (with_reducible refine (impl_Market_maker.calls k1 _ _ l0_0 a0_1 a0_2 a0_3 x4_1 0 100 t180 t181 _ ?side1 ?side2 A8.out).mono ?_); (case side1 => have zh := (Kd.C_below HR0_0.out HB.out); exact z7_C); (case side2 => exact HC0_0.out); rintro e w18 ⟨rfl, hb⟩; refine ⟨_, rfl, ?_⟩; have n0_ := z7_A (Kd.R_below z7_35 hb); have n1_ := z7_A (blk_below (g := gb175) (o := .cells #[.slice A0_0 l0_0.length c0_0, .int .i64 a0_1, .int .i64 a0_2, .int .i64 a0_3] 30 (0, 0)) z7_15 hb); have n2_ := z7_A (blk_below (g := gb179) (o := .cells #[.int .i64 x4_1, .int .i64 0, .int .i64 100] 32 (0, 0)) z7_43 hb); have n3_ := z7_A (below_step z7_14 hb); clear HO_3 BK175 BK179 HB; revert n0_ n1_ n2_ n3_; intro HO_3 BK175 BK179 HB; (try clear hb); (try clear hb2); (try clear hk); (try clear hi)) | ((with_reducible refine gate_builtin (b := .append) (xs := #[.tmp 21, .tmp 28]) rfl ?_); at_builtin; refine Kd.R_append k67 (w0 := w) w.heap.size rfl (.tmp 21) (.tmp 28) 46 67 (.agg #[(.int .i64 0), (.int .i64 0)]) 16 rfl Try.underlying46 info67 rfl (by decide) (by omega) u3 x3_1 (⟨t180, t181⟩ : S67) [.int .i64 t180, .int .i64 t181] (fun _ => True) (fun _ => False) rfl rfl ?aP (fun _ hk => hk.elim) ?aF ?aO ?aB ?aS ?aL ?_; (case aP => exact k67_mkM _ _ _ (⟨t180, t181⟩ : S67)); (case aB => exact z7_14); (case aF => exact (fun _ _ => trivial)); (case aO => exact z7_35); (case aS => exact (below_size z7_14)); (case aL => have := LMc9.out; omega); intro v183 w19 ho hb hg hat; rw [← Ny182.out] at ho; have n0_ := z7_A (blk_grown (g := gb175) (o := .cells #[.slice A0_0 l0_0.length c0_0, .int .i64 a0_1, .int .i64 a0_2, .int .i64 a0_3] 30 (0, 0)) z7_15 hg (Kd.R_ne HO_3.out BK175.out (by decide))); have n1_ := z7_A (blk_grown (g := gb179) (o := .cells #[.int .i64 x4_1, .int .i64 0, .int .i64 100] 32 (0, 0)) z7_43 hg (Kd.R_ne HO_3.out BK179.out (by decide))); have n2_ := z7_A (hb); have n3_ := z7_A (ho); clear BK175 BK179 HB HO_3; revert n0_ n1_ n2_ n3_; intro BK175 BK179 HB HO184; clear ho hb hg hat))
     go_roundg k1
     case measure => have := HK1.out; omega
     case rel => exact ⟨(y182), (wrap64 (x4_1 + 1)), z7_29, H', ⟨by have := HK1.out; omega⟩, ⟨by (with_reducible repeat (first | apply Kd.R_alloc | apply Kd.R_drewN | apply Kd.R_drew)); exact HO184.out⟩, ⟨z7_15⟩, ⟨z7_14⟩⟩
    ·rw [if_neg c9] at H
     exact absurd H (by simp)
   ·rw [if_neg c6] at H
    have c6b0 : decide (x4_1 ≤ a0_1) = false := decide_eq_false c6
    clear c6
    obtain rfl := Option.some.inj H
    have hcz20_0 : wr.cell? ⟨gb175, 0, none⟩ = some (.slice A0_0 l0_0.length c0_0) := bcz BK175.out 0 rfl
    have hcz20_1 : wr.cell? ⟨gb175, 1, none⟩ = some (.int .i64 a0_1) := bcz BK175.out 1 rfl
    have hcz20_2 : wr.cell? ⟨gb175, 2, none⟩ = some (.int .i64 a0_2) := bcz BK175.out 2 rfl
    have hcz20_3 : wr.cell? ⟨gb175, 3, none⟩ = some (.int .i64 a0_3) := bcz BK175.out 3 rfl
    obtain ⟨hfz20_0, hfz20_1, hfz20_2, hfz20_3⟩ := F4z (blk_frozen BK175.out)
    go_wp2
    go_ret
    exact ⟨_, z7_7, z7_35, z7_13⟩

/-! ### impl_BestPlain: function 19 -/
def impl_BestPlain.l0 : Nat → Int → List (S67) → List (S67) → Int → Int → List Int → Int → Int → Int → Option (Int × Bool)
 | 0, _, _, _, _, _, _, _, _, _ => none
 | k + 1, x4, x5, x13, x14, x15, x186000, x186001, x186002, x186003 => if x15 < x14 then (if 0 ≤ x15 then (if x15 < (x13.length : Int) then (if 0 ≤ x4 then (if x4 < (x5.length : Int) then (if ((rd_T67 x13 x15).f1) > ((rd_T67 x5 x4).f1) then (impl_BestPlain.l0 k x15 x5 x13 x14 (wrap64 (x15 + 1)) x186000 x186001 x186002 x186003) else (impl_BestPlain.l0 k x4 x5 x13 x14 (wrap64 (x15 + 1)) x186000 x186001 x186002 x186003)) else (none)) else (none)) else (none)) else (none)) else (some (wrap64 (x186002 + x4), true))
def impl_BestPlain.f (k : Nat) (l0_0 : List Int) (a0_1 : Int) (a0_2 : Int) (a0_3 : Int) : Option (Int × Bool) := (impl_IsMarket.f k l0_0 a0_1 a0_2 a0_3).bind fun t186 => (if t186 = true then ((impl_Market_plain.f k l0_0 a0_1 a0_2 a0_3).bind fun t187 => (impl_BestPlain.l0 k 0 t187 t187 (t187.length : Int) 0 l0_0 a0_1 a0_2 a0_3)) else (some (0, false)))
theorem impl_BestPlain.mono_l : ∀ k, (∀ y0 y1 y2 y3 y4 y5 y6 y7 y8, LeO (impl_BestPlain.l0 k y0 y1 y2 y3 y4 y5 y6 y7 y8) (impl_BestPlain.l0 (k + 1) y0 y1 y2 y3 y4 y5 y6 y7 y8))
 | 0 => fun _ _ _ _ _ _ _ _ _ r h => by simp [impl_BestPlain.l0] at h
 | k + 1 => by
  have ih0 := impl_BestPlain.mono_l k
  ·intro y0 y1 y2 y3 y4 y5 y6 y7 y8
   unfold impl_BestPlain.l0
   repeat' first
   | (with_reducible exact ih0 _ _ _ _ _ _ _ _ _)
   | (with_reducible exact impl_IsMarket.mono _ _ _ _ _)
   | (with_reducible exact impl_Market_plain.mono _ _ _ _ _)
   | (with_reducible exact LeO.refl _)
   | (with_reducible exact LeO.none _)
   | (with_reducible refine LeO.ite ?_ ?_)
   | (with_reducible refine LeO.bind ?_ (fun _ => ?_))
   | exact ih0 _ _ _ _ _ _ _ _ _
   | exact impl_IsMarket.mono _ _ _ _ _
   | exact impl_Market_plain.mono _ _ _ _ _
   | exact LeO.none _
   | refine LeO.ite ?_ ?_
   | refine LeO.bind ?_ (fun _ => ?_)
theorem impl_BestPlain.mono : ∀ a0 a1 a2 a3 k, LeO (impl_BestPlain.f k a0 a1 a2 a3) (impl_BestPlain.f (k + 1) a0 a1 a2 a3) := by
 intro a0 a1 a2 a3 k
 have ih0 := impl_BestPlain.mono_l k
 unfold impl_BestPlain.f
 repeat' first
   | (with_reducible exact ih0 _ _ _ _ _ _ _ _ _)
   | (with_reducible exact impl_IsMarket.mono _ _ _ _ _)
   | (with_reducible exact impl_Market_plain.mono _ _ _ _ _)
   | (with_reducible exact LeO.refl _)
   | (with_reducible exact LeO.none _)
   | (with_reducible refine LeO.ite ?_ ?_)
   | (with_reducible refine LeO.bind ?_ (fun _ => ?_))
   | exact ih0 _ _ _ _ _ _ _ _ _
   | exact impl_IsMarket.mono _ _ _ _ _
   | exact impl_Market_plain.mono _ _ _ _ _
   | exact LeO.none _
   | refine LeO.ite ?_ ?_
   | refine LeO.bind ?_ (fun _ => ?_)
set_option maxHeartbeats 8000000 in
set_option maxRecDepth 100000 in
theorem impl_BestPlain.calls (k : Nat) (A0_0 : Option Addr) (c0_0 : Nat) (l0_0 : List Int) (a0_1 : Int) (a0_2 : Int) (a0_3 : Int) (r1 : Int) (r2 : Bool) (w : World) (hr0_0 : Kd.C (Kd.int .i64) w A0_0 l0_0.length l0_0) (hc0_0 : l0_0.length ≤ c0_0) (h : impl_BestPlain.f k l0_0 a0_1 a0_2 a0_3 = some (r1, r2)) :
  Calls Try.prog 19 #[.agg #[.slice A0_0 l0_0.length c0_0, .int .i64 a0_1, .int .i64 a0_2, .int .i64 a0_3]] w fun e w' => e = .returned (.tuple #[.int .i64 r1, .bool r2]) ∧ Below w.heap.size w w' := by
 have hu30 := Try.underlying30
 have hu67 := Try.underlying67
 have HR0_0 := z7_A hr0_0
 have HC0_0 := z7_A hc0_0
 clear hr0_0 hc0_0
 have HB := z7_A (Below.refl w.heap.size w)
 have H : ((impl_IsMarket.f k l0_0 a0_1 a0_2 a0_3).bind fun t186 => (if t186 = true then ((impl_Market_plain.f k l0_0 a0_1 a0_2 a0_3).bind fun t187 => (impl_BestPlain.l0 k 0 t187 t187 (t187.length : Int) 0 l0_0 a0_1 a0_2 a0_3)) else (some (0, false)))) = some (r1, r2) := h
 clear h
 replace H := Option.bind_eq_some_iff.mp H
 obtain ⟨t186, A20, H⟩ := H
 (try dsimp only at H)
 have A2 := z7_A A20
 clear A20
 by_cases c3 : t186 = true
 ·subst c3
  have H1 : ((impl_Market_plain.f k l0_0 a0_1 a0_2 a0_3).bind fun t187 => (impl_BestPlain.l0 k 0 t187 t187 (t187.length : Int) 0 l0_0 a0_1 a0_2 a0_3)) = some (r1, r2) := z7_36
  clear H
  have H := H1
  clear H1
  replace H := Option.bind_eq_some_iff.mp H
  obtain ⟨t187, A40, H⟩ := H
  (try dsimp only at H)
  have A4 := z7_A A40
  clear A40
  have H' := z7_A H
  clear H
  go_enter Try.func19, Try.ntmps19
  go_wp2_with (first | ((with_reducible refine gate_dst (N := 1) rfl ?_); refine box_event ?hg (N := 1) ?hd (cs := #[.slice A0_0 l0_0.length c0_0, .int .i64 a0_1, .int .i64 a0_2, .int .i64 a0_3]) (t := 30) ?hr ?_; (case hd => rfl); (case hg => rfl); (case hr => first | (go_simp; done) | (go_simp; rfl)); intro gb185 hg w5 hbox hb; have n0_ := z7_A (below_step z7_1 hb); have n1_ := z7_A (hbox); have n2_ := z7_A ((z7_11 : w.heap.size ≤ gb185)); have n3_ := z7_A ((z7_11 : w.heap.size ≤ gb185)); clear HB; revert n0_ n1_ n2_ n3_; intro HB BK185 GW185 GE185; clear hb hbox hg; have hcz6_0 : w5.cell? ⟨gb185, 0, none⟩ = some (.slice A0_0 l0_0.length c0_0) := bcz BK185.out 0 rfl; have hcz6_1 : w5.cell? ⟨gb185, 1, none⟩ = some (.int .i64 a0_1) := bcz BK185.out 1 rfl; have hcz6_2 : w5.cell? ⟨gb185, 2, none⟩ = some (.int .i64 a0_2) := bcz BK185.out 2 rfl; have hcz6_3 : w5.cell? ⟨gb185, 3, none⟩ = some (.int .i64 a0_3) := bcz BK185.out 3 rfl; obtain ⟨hfz6_0, hfz6_1, hfz6_2, hfz6_3⟩ := F4z (blk_frozen BK185.out)) | (go_at_call 42; (with_reducible refine (impl_IsMarket.calls k _ _ l0_0 a0_1 a0_2 a0_3 true _ ?side1 ?side2 A2.out).mono ?_); (case side1 => have zh := (Kd.C_below HR0_0.out HB.out); exact z7_C); (case side2 => exact HC0_0.out); rintro e w7 ⟨rfl, hb⟩; have n0_ := z7_A (blk_below (g := gb185) (o := .cells #[.slice A0_0 l0_0.length c0_0, .int .i64 a0_1, .int .i64 a0_2, .int .i64 a0_3] 30 (0, 0)) z7_3 hb); have n1_ := z7_A (below_step z7_2 hb); clear BK185 HB; revert n0_ n1_; intro BK185 HB; (try clear hb); (try clear hb2); (try clear hk); (try clear hi); have hcz8_0 : w7.cell? ⟨gb185, 0, none⟩ = some (.slice A0_0 l0_0.length c0_0) := bcz BK185.out 0 rfl; have hcz8_1 : w7.cell? ⟨gb185, 1, none⟩ = some (.int .i64 a0_1) := bcz BK185.out 1 rfl; have hcz8_2 : w7.cell? ⟨gb185, 2, none⟩ = some (.int .i64 a0_2) := bcz BK185.out 2 rfl; have hcz8_3 : w7.cell? ⟨gb185, 3, none⟩ = some (.int .i64 a0_3) := bcz BK185.out 3 rfl; obtain ⟨hfz8_0, hfz8_1, hfz8_2, hfz8_3⟩ := F4z (blk_frozen BK185.out)) | (go_at_call 69; (with_reducible refine (impl_Market_plain.calls k _ _ l0_0 a0_1 a0_2 a0_3 t187 _ ?side1 ?side2 A4.out).mono ?_); (case side1 => have zh := (Kd.C_below HR0_0.out HB.out); exact z7_C); (case side2 => exact HC0_0.out); rintro e w9 ⟨v188, rfl, ho0, hb⟩; have n0_ := z7_A (Kd.R_lower ho0 (below_size z7_2)); have n1_ := z7_A (blk_below (g := gb185) (o := .cells #[.slice A0_0 l0_0.length c0_0, .int .i64 a0_1, .int .i64 a0_2, .int .i64 a0_3] 30 (0, 0)) z7_3 hb); have n2_ := z7_A (below_step z7_2 hb); clear BK185 HB; revert n0_ n1_ n2_; intro HO189 BK185 HB; (try clear hb); (try clear hb2); (try clear hk); (try clear hi); (try clear ho0); obtain ⟨Ao10, co10, eo10⟩ := Kd.R_slice HO189.out; subst eo10))
  repeat (go_quiet (first | ((with_reducible refine gate_dst (N := 1) rfl ?_); refine box_event ?hg (N := 1) ?hd (cs := #[.slice A0_0 l0_0.length c0_0, .int .i64 a0_1, .int .i64 a0_2, .int .i64 a0_3]) (t := 30) ?hr ?_; (case hd => rfl); (case hg => rfl); (case hr => first | (go_simp; done) | (go_simp; rfl)); intro gb185 hg w5 hbox hb; have n0_ := z7_A (below_step z7_1 hb); have n1_ := z7_A (hbox); have n2_ := z7_A ((z7_11 : w.heap.size ≤ gb185)); have n3_ := z7_A ((z7_11 : w.heap.size ≤ gb185)); clear HB; revert n0_ n1_ n2_ n3_; intro HB BK185 GW185 GE185; clear hb hbox hg; have hcz6_0 : w5.cell? ⟨gb185, 0, none⟩ = some (.slice A0_0 l0_0.length c0_0) := bcz BK185.out 0 rfl; have hcz6_1 : w5.cell? ⟨gb185, 1, none⟩ = some (.int .i64 a0_1) := bcz BK185.out 1 rfl; have hcz6_2 : w5.cell? ⟨gb185, 2, none⟩ = some (.int .i64 a0_2) := bcz BK185.out 2 rfl; have hcz6_3 : w5.cell? ⟨gb185, 3, none⟩ = some (.int .i64 a0_3) := bcz BK185.out 3 rfl; obtain ⟨hfz6_0, hfz6_1, hfz6_2, hfz6_3⟩ := F4z (blk_frozen BK185.out)) | (go_at_call 42; (with_reducible refine (impl_IsMarket.calls k _ _ l0_0 a0_1 a0_2 a0_3 true _ ?side1 ?side2 A2.out).mono ?_); (case side1 => have zh := (Kd.C_below HR0_0.out HB.out); exact z7_C); (case side2 => exact HC0_0.out); rintro e w7 ⟨rfl, hb⟩; have n0_ := z7_A (blk_below (g := gb185) (o := .cells #[.slice A0_0 l0_0.length c0_0, .int .i64 a0_1, .int .i64 a0_2, .int .i64 a0_3] 30 (0, 0)) z7_3 hb); have n1_ := z7_A (below_step z7_2 hb); clear BK185 HB; revert n0_ n1_; intro BK185 HB; (try clear hb); (try clear hb2); (try clear hk); (try clear hi); have hcz8_0 : w7.cell? ⟨gb185, 0, none⟩ = some (.slice A0_0 l0_0.length c0_0) := bcz BK185.out 0 rfl; have hcz8_1 : w7.cell? ⟨gb185, 1, none⟩ = some (.int .i64 a0_1) := bcz BK185.out 1 rfl; have hcz8_2 : w7.cell? ⟨gb185, 2, none⟩ = some (.int .i64 a0_2) := bcz BK185.out 2 rfl; have hcz8_3 : w7.cell? ⟨gb185, 3, none⟩ = some (.int .i64 a0_3) := bcz BK185.out 3 rfl; obtain ⟨hfz8_0, hfz8_1, hfz8_2, hfz8_3⟩ := F4z (blk_frozen BK185.out)) | (go_at_call 69; (with_reducible refine (impl_Market_plain.calls k _ _ l0_0 a0_1 a0_2 a0_3 t187 _ ?side1 ?side2 A4.out).mono ?_); (case side1 => have zh := (Kd.C_below HR0_0.out HB.out); exact z7_C); (case side2 => exact HC0_0.out); rintro e w9 ⟨v188, rfl, ho0, hb⟩; have n0_ := z7_A (Kd.R_lower ho0 (below_size z7_2)); have n1_ := z7_A (blk_below (g := gb185) (o := .cells #[.slice A0_0 l0_0.length c0_0, .int .i64 a0_1, .int .i64 a0_2, .int .i64 a0_3] 30 (0, 0)) z7_3 hb); have n2_ := z7_A (below_step z7_2 hb); clear BK185 HB; revert n0_ n1_ n2_; intro HO189 BK185 HB; (try clear hb); (try clear hb2); (try clear hk); (try clear hi); (try clear ho0); obtain ⟨Ao10, co10, eo10⟩ := Kd.R_slice HO189.out; subst eo10)); try go_wp2_with (first | ((with_reducible refine gate_dst (N := 1) rfl ?_); refine box_event ?hg (N := 1) ?hd (cs := #[.slice A0_0 l0_0.length c0_0, .int .i64 a0_1, .int .i64 a0_2, .int .i64 a0_3]) (t := 30) ?hr ?_; (case hd => rfl); (case hg => rfl); (case hr => first | (go_simp; done) | (go_simp; rfl)); intro gb185 hg w5 hbox hb; have n0_ := z7_A (below_step z7_1 hb); have n1_ := z7_A (hbox); have n2_ := z7_A ((z7_11 : w.heap.size ≤ gb185)); have n3_ := z7_A ((z7_11 : w.heap.size ≤ gb185)); clear HB; revert n0_ n1_ n2_ n3_; intro HB BK185 GW185 GE185; clear hb hbox hg; have hcz6_0 : w5.cell? ⟨gb185, 0, none⟩ = some (.slice A0_0 l0_0.length c0_0) := bcz BK185.out 0 rfl; have hcz6_1 : w5.cell? ⟨gb185, 1, none⟩ = some (.int .i64 a0_1) := bcz BK185.out 1 rfl; have hcz6_2 : w5.cell? ⟨gb185, 2, none⟩ = some (.int .i64 a0_2) := bcz BK185.out 2 rfl; have hcz6_3 : w5.cell? ⟨gb185, 3, none⟩ = some (.int .i64 a0_3) := bcz BK185.out 3 rfl; obtain ⟨hfz6_0, hfz6_1, hfz6_2, hfz6_3⟩ := F4z (blk_frozen BK185.out)) | (go_at_call 42; (with_reducible refine (impl_IsMarket.calls k _ _ l0_0 a0_1 a0_2 a0_3 true _ ?side1 ?side2 A2.out).mono ?_); (case side1 => have zh := (Kd.C_below HR0_0.out HB.out); exact z7_C); (case side2 => exact HC0_0.out); rintro e w7 ⟨rfl, hb⟩; have n0_ := z7_A (blk_below (g := gb185) (o := .cells #[.slice A0_0 l0_0.length c0_0, .int .i64 a0_1, .int .i64 a0_2, .int .i64 a0_3] 30 (0, 0)) z7_3 hb); have n1_ := z7_A (below_step z7_2 hb); clear BK185 HB; revert n0_ n1_; intro BK185 HB; (try clear hb); (try clear hb2); (try clear hk); (try clear hi); have hcz8_0 : w7.cell? ⟨gb185, 0, none⟩ = some (.slice A0_0 l0_0.length c0_0) := bcz BK185.out 0 rfl; have hcz8_1 : w7.cell? ⟨gb185, 1, none⟩ = some (.int .i64 a0_1) := bcz BK185.out 1 rfl; have hcz8_2 : w7.cell? ⟨gb185, 2, none⟩ = some (.int .i64 a0_2) := bcz BK185.out 2 rfl; have hcz8_3 : w7.cell? ⟨gb185, 3, none⟩ = some (.int .i64 a0_3) := bcz BK185.out 3 rfl; obtain ⟨hfz8_0, hfz8_1, hfz8_2, hfz8_3⟩ := F4z (blk_frozen BK185.out)) | (go_at_call 69; (with_reducible refine (impl_Market_plain.calls k _ _ l0_0 a0_1 a0_2 a0_3 t187 _ ?side1 ?side2 A4.out).mono ?_); (case side1 => have zh := (Kd.C_below HR0_0.out HB.out); exact z7_C); (case side2 => exact HC0_0.out); rintro e w9 ⟨v188, rfl, ho0, hb⟩; have n0_ := z7_A (Kd.R_lower ho0 (below_size z7_2)); have n1_ := z7_A (blk_below (g := gb185) (o := .cells #[.slice A0_0 l0_0.length c0_0, .int .i64 a0_1, .int .i64 a0_2, .int .i64 a0_3] 30 (0, 0)) z7_3 hb); have n2_ := z7_A (below_step z7_2 hb); clear BK185 HB; revert n0_ n1_ n2_; intro HO189 BK185 HB; (try clear hb); (try clear hb2); (try clear hk); (try clear hi); (try clear ho0); obtain ⟨Ao10, co10, eo10⟩ := Kd.R_slice HO189.out; subst eo10)))
  go_loopg [4, 15] k (fun kq v4 v15 w' => ∃ (x4_1 : Int) (x15_1 : Int), v4 = .int .i64 x4_1 ∧ v15 = .int .i64 x15_1 ∧ Aside0 (impl_BestPlain.l0 kq x4_1 t187 t187 (t187.length : Int) x15_1 l0_0 a0_1 a0_2 a0_3 = some (r1, r2)) ∧ Aside0 (kq ≤ k) ∧ Aside0 (Kd.R k67 67 w' w.heap.size (fun _ => True) (.slice Ao10 t187.length co10) t187) ∧ Aside0 (Kd.R k67 67 w' w.heap.size (fun _ => True) (.slice Ao10 t187.length co10) t187) ∧ Aside0 (w'.heap[gb185]? = some (.cells #[(.slice A0_0 l0_0.length c0_0), .int .i64 a0_1, .int .i64 a0_2, .int .i64 a0_3] 30 (0, 0))) ∧ Aside0 (Below w.heap.size w w'))
  case atStart => exact ⟨(0), (0), z7_29, z7_29, H', ⟨Nat.le_refl _⟩, ⟨z7_44⟩, ⟨z7_44⟩, ⟨z7_3⟩, ⟨z7_2⟩⟩
  case round =>
   clear H'
   (try clear c3); (try clear hcz6_0); (try clear hcz6_1); (try clear hcz6_2); (try clear hcz6_3); (try clear hcz8_0); (try clear hcz8_1); (try clear hcz8_2); (try clear hcz8_3); (try clear hfz6_0); (try clear hfz6_1); (try clear hfz6_2); (try clear hfz6_3); (try clear hfz8_0); (try clear hfz8_1); (try clear hfz8_2); (try clear hfz8_3)
   obtain ⟨x4_1, x15_1, rfl, rfl, HA, HK1, HO_5, HO_13, BK185, HB⟩ := hrel
   cases gk with
   | zero => exact absurd HA.out (by simp [impl_BestPlain.l0])
   | succ k1 =>
    have H := HA.out
    clear HA
    simp only [impl_BestPlain.l0] at H
    by_cases c11 : x15_1 < (t187.length : Int)
    ·rw [if_pos c11] at H
     have c11b0 : decide (x15_1 < (t187.length : Int)) = true := decide_eq_true c11
     clear c11
     by_cases c12 : 0 ≤ x15_1
     ·rw [if_pos c12] at H
      have c12b0 : decide (0 ≤ x15_1) = true := decide_eq_true c12
      clear c12
      by_cases c13 : x15_1 < (t187.length : Int)
      ·rw [if_pos c13] at H
       have c13b0 : decide (x15_1 < (t187.length : Int)) = true := decide_eq_true c13
       clear c13
       by_cases c14 : 0 ≤ x4_1
       ·rw [if_pos c14] at H
        have c14b0 : decide (0 ≤ x4_1) = true := decide_eq_true c14
        clear c14
        by_cases c15 : x4_1 < (t187.length : Int)
        ·rw [if_pos c15] at H
         have c15b0 : decide (x4_1 < (t187.length : Int)) = true := decide_eq_true c15
         clear c15
         by_cases c16 : ((rd_T67 t187 x15_1).f1) > ((rd_T67 t187 x4_1).f1)
         ·rw [if_pos c16] at H
          have c16b0 : decide (((rd_T67 t187 x4_1).f1) < ((rd_T67 t187 x15_1).f1)) = true := decide_eq_true c16
          clear c16
          have H' := z7_A H
          clear H
          have p190 : 0 ≤ (x15_1 : Int) := of_decide_eq_true z7_19
          have q190 : x15_1 < (t187.length : Int) := of_decide_eq_true z7_19
          obtain ⟨ad190, e190, hx190_0, hx190_1⟩ := at_T67 (Kd.R_reads' HO_13.out).2.2 x15_1 p190 q190
          cases e190
          replace p190 := eq_true p190
          replace q190 := eq_true q190
          go_wp2_with (first | ((with_reducible refine gate_dst (N := 7) rfl ?_); refine box_event ?hg (N := 7) ?hd (cs := #[.int .i64 0, .int .i64 0]) (t := 67) ?hr ?_; (case hd => rfl); (case hg => rfl); (case hr => first | (go_simp; done) | (go_simp; rfl)); intro gb191 hg w17 hbox hb; have n0_ := z7_A (Kd.R_below (Kd.R_elderB z7_23 gb191 (Nat.le_of_eq hg.symm)) hb); have n1_ := z7_A (Kd.R_below (Kd.R_elderB z7_22 gb191 (Nat.le_of_eq hg.symm)) hb); have n2_ := z7_A (blk_below (g := gb185) (o := .cells #[.slice A0_0 l0_0.length c0_0, .int .i64 a0_1, .int .i64 a0_2, .int .i64 a0_3] 30 (0, 0)) z7_3 hb); have n3_ := z7_A (below_step z7_2 hb); have n4_ := z7_A (hbox); have n5_ := z7_A ((z7_31 : w.heap.size ≤ gb191)); have n6_ := z7_A ((z7_31 : w.heap.size ≤ gb191)); have n7_ := z7_A ((z7_17 : gb185 ≠ gb191)); have n8_ := z7_A ((z7_18 : gb191 ≠ gb185)); clear HO_5 HO_13 BK185 HB; revert n0_ n1_ n2_ n3_ n4_ n5_ n6_ n7_ n8_; intro HO_5 HO_13 BK185 HB BK191 GW191 GE191 NB185_191 NB191_185; clear hb hbox hg; have hnb18 := NB191_185.out; have hnc18 := NB185_191.out; have hcz19_0 : w17.cell? ⟨gb191, 0, none⟩ = some (.int .i64 0) := bcz BK191.out 0 rfl; have hcz19_1 : w17.cell? ⟨gb191, 1, none⟩ = some (.int .i64 0) := bcz BK191.out 1 rfl; obtain ⟨hfz19_0, hfz19_1⟩ := F2z (blk_frozen BK191.out); have p192 : 0 ≤ (x4_1 : Int) := of_decide_eq_true z7_19; have q192 : x4_1 < (t187.length : Int) := of_decide_eq_true z7_19; obtain ⟨ad192, e192, hx192_0, hx192_1⟩ := at_T67 (Kd.R_reads' HO_5.out).2.2 x4_1 p192 q192; obtain rfl : ad190 = ad192 := (by injection e192); have hn192_0 : ad190.block ≠ gb191 := Kd.own_blk (Kd.R_away HO_5.out (fun _ hk => hk.2)); have hn192_1 : ad190.block ≠ gb191 := Kd.own_blk (Kd.R_away HO_5.out (fun _ hk => hk.2)); replace hx192_0 := (cell_far (p := ⟨gb191, 0, none⟩) z7_9 (.int .i64 ((rd_T67 t187 x15_1).f0))).trans hx192_0; replace hx192_1 := (cell_far (p := ⟨gb191, 0, none⟩) z7_9 (.int .i64 ((rd_T67 t187 x15_1).f0))).trans hx192_1; replace hx192_0 := (cell_far (p := ⟨gb191, 1, none⟩) z7_8 (.int .i64 ((rd_T67 t187 x15_1).f1))).trans hx192_0; replace hx192_1 := (cell_far (p := ⟨gb191, 1, none⟩) z7_8 (.int .i64 ((rd_T67 t187 x15_1).f1))).trans hx192_1; (try have hy192_0 := fun (n_ : Nat) => (show ((((w17.drewN n_).setCell ⟨gb191, 0, none⟩ (.int .i64 ((rd_T67 t187 x15_1).f0))).setCell ⟨gb191, 1, none⟩ (.int .i64 ((rd_T67 t187 x15_1).f1)))).cell? _ = some _ from hx192_0)); (try have hy192_1 := fun (n_ : Nat) => (show ((((w17.drewN n_).setCell ⟨gb191, 0, none⟩ (.int .i64 ((rd_T67 t187 x15_1).f0))).setCell ⟨gb191, 1, none⟩ (.int .i64 ((rd_T67 t187 x15_1).f1)))).cell? _ = some _ from hx192_1)); clear hn192_0; clear hn192_1; replace p192 := eq_true p192; replace q192 := eq_true q192))
          repeat (go_quiet (first | ((with_reducible refine gate_dst (N := 7) rfl ?_); refine box_event ?hg (N := 7) ?hd (cs := #[.int .i64 0, .int .i64 0]) (t := 67) ?hr ?_; (case hd => rfl); (case hg => rfl); (case hr => first | (go_simp; done) | (go_simp; rfl)); intro gb191 hg w17 hbox hb; have n0_ := z7_A (Kd.R_below (Kd.R_elderB z7_23 gb191 (Nat.le_of_eq hg.symm)) hb); have n1_ := z7_A (Kd.R_below (Kd.R_elderB z7_22 gb191 (Nat.le_of_eq hg.symm)) hb); have n2_ := z7_A (blk_below (g := gb185) (o := .cells #[.slice A0_0 l0_0.length c0_0, .int .i64 a0_1, .int .i64 a0_2, .int .i64 a0_3] 30 (0, 0)) z7_3 hb); have n3_ := z7_A (below_step z7_2 hb); have n4_ := z7_A (hbox); have n5_ := z7_A ((z7_31 : w.heap.size ≤ gb191)); have n6_ := z7_A ((z7_31 : w.heap.size ≤ gb191)); have n7_ := z7_A ((z7_17 : gb185 ≠ gb191)); have n8_ := z7_A ((z7_18 : gb191 ≠ gb185)); clear HO_5 HO_13 BK185 HB; revert n0_ n1_ n2_ n3_ n4_ n5_ n6_ n7_ n8_; intro HO_5 HO_13 BK185 HB BK191 GW191 GE191 NB185_191 NB191_185; clear hb hbox hg; have hnb18 := NB191_185.out; have hnc18 := NB185_191.out; have hcz19_0 : w17.cell? ⟨gb191, 0, none⟩ = some (.int .i64 0) := bcz BK191.out 0 rfl; have hcz19_1 : w17.cell? ⟨gb191, 1, none⟩ = some (.int .i64 0) := bcz BK191.out 1 rfl; obtain ⟨hfz19_0, hfz19_1⟩ := F2z (blk_frozen BK191.out); have p192 : 0 ≤ (x4_1 : Int) := of_decide_eq_true z7_19; have q192 : x4_1 < (t187.length : Int) := of_decide_eq_true z7_19; obtain ⟨ad192, e192, hx192_0, hx192_1⟩ := at_T67 (Kd.R_reads' HO_5.out).2.2 x4_1 p192 q192; obtain rfl : ad190 = ad192 := (by injection e192); have hn192_0 : ad190.block ≠ gb191 := Kd.own_blk (Kd.R_away HO_5.out (fun _ hk => hk.2)); have hn192_1 : ad190.block ≠ gb191 := Kd.own_blk (Kd.R_away HO_5.out (fun _ hk => hk.2)); replace hx192_0 := (cell_far (p := ⟨gb191, 0, none⟩) z7_9 (.int .i64 ((rd_T67 t187 x15_1).f0))).trans hx192_0; replace hx192_1 := (cell_far (p := ⟨gb191, 0, none⟩) z7_9 (.int .i64 ((rd_T67 t187 x15_1).f0))).trans hx192_1; replace hx192_0 := (cell_far (p := ⟨gb191, 1, none⟩) z7_8 (.int .i64 ((rd_T67 t187 x15_1).f1))).trans hx192_0; replace hx192_1 := (cell_far (p := ⟨gb191, 1, none⟩) z7_8 (.int .i64 ((rd_T67 t187 x15_1).f1))).trans hx192_1; (try have hy192_0 := fun (n_ : Nat) => (show ((((w17.drewN n_).setCell ⟨gb191, 0, none⟩ (.int .i64 ((rd_T67 t187 x15_1).f0))).setCell ⟨gb191, 1, none⟩ (.int .i64 ((rd_T67 t187 x15_1).f1)))).cell? _ = some _ from hx192_0)); (try have hy192_1 := fun (n_ : Nat) => (show ((((w17.drewN n_).setCell ⟨gb191, 0, none⟩ (.int .i64 ((rd_T67 t187 x15_1).f0))).setCell ⟨gb191, 1, none⟩ (.int .i64 ((rd_T67 t187 x15_1).f1)))).cell? _ = some _ from hx192_1)); clear hn192_0; clear hn192_1; replace p192 := eq_true p192; replace q192 := eq_true q192)); try go_wp2_with (first | ((with_reducible refine gate_dst (N := 7) rfl ?_); refine box_event ?hg (N := 7) ?hd (cs := #[.int .i64 0, .int .i64 0]) (t := 67) ?hr ?_; (case hd => rfl); (case hg => rfl); (case hr => first | (go_simp; done) | (go_simp; rfl)); intro gb191 hg w17 hbox hb; have n0_ := z7_A (Kd.R_below (Kd.R_elderB z7_23 gb191 (Nat.le_of_eq hg.symm)) hb); have n1_ := z7_A (Kd.R_below (Kd.R_elderB z7_22 gb191 (Nat.le_of_eq hg.symm)) hb); have n2_ := z7_A (blk_below (g := gb185) (o := .cells #[.slice A0_0 l0_0.length c0_0, .int .i64 a0_1, .int .i64 a0_2, .int .i64 a0_3] 30 (0, 0)) z7_3 hb); have n3_ := z7_A (below_step z7_2 hb); have n4_ := z7_A (hbox); have n5_ := z7_A ((z7_31 : w.heap.size ≤ gb191)); have n6_ := z7_A ((z7_31 : w.heap.size ≤ gb191)); have n7_ := z7_A ((z7_17 : gb185 ≠ gb191)); have n8_ := z7_A ((z7_18 : gb191 ≠ gb185)); clear HO_5 HO_13 BK185 HB; revert n0_ n1_ n2_ n3_ n4_ n5_ n6_ n7_ n8_; intro HO_5 HO_13 BK185 HB BK191 GW191 GE191 NB185_191 NB191_185; clear hb hbox hg; have hnb18 := NB191_185.out; have hnc18 := NB185_191.out; have hcz19_0 : w17.cell? ⟨gb191, 0, none⟩ = some (.int .i64 0) := bcz BK191.out 0 rfl; have hcz19_1 : w17.cell? ⟨gb191, 1, none⟩ = some (.int .i64 0) := bcz BK191.out 1 rfl; obtain ⟨hfz19_0, hfz19_1⟩ := F2z (blk_frozen BK191.out); have p192 : 0 ≤ (x4_1 : Int) := of_decide_eq_true z7_19; have q192 : x4_1 < (t187.length : Int) := of_decide_eq_true z7_19; obtain ⟨ad192, e192, hx192_0, hx192_1⟩ := at_T67 (Kd.R_reads' HO_5.out).2.2 x4_1 p192 q192; obtain rfl : ad190 = ad192 := (by injection e192); have hn192_0 : ad190.block ≠ gb191 := Kd.own_blk (Kd.R_away HO_5.out (fun _ hk => hk.2)); have hn192_1 : ad190.block ≠ gb191 := Kd.own_blk (Kd.R_away HO_5.out (fun _ hk => hk.2)); replace hx192_0 := (cell_far (p := ⟨gb191, 0, none⟩) z7_9 (.int .i64 ((rd_T67 t187 x15_1).f0))).trans hx192_0; replace hx192_1 := (cell_far (p := ⟨gb191, 0, none⟩) z7_9 (.int .i64 ((rd_T67 t187 x15_1).f0))).trans hx192_1; replace hx192_0 := (cell_far (p := ⟨gb191, 1, none⟩) z7_8 (.int .i64 ((rd_T67 t187 x15_1).f1))).trans hx192_0; replace hx192_1 := (cell_far (p := ⟨gb191, 1, none⟩) z7_8 (.int .i64 ((rd_T67 t187 x15_1).f1))).trans hx192_1; (try have hy192_0 := fun (n_ : Nat) => (show ((((w17.drewN n_).setCell ⟨gb191, 0, none⟩ (.int .i64 ((rd_T67 t187 x15_1).f0))).setCell ⟨gb191, 1, none⟩ (.int .i64 ((rd_T67 t187 x15_1).f1)))).cell? _ = some _ from hx192_0)); (try have hy192_1 := fun (n_ : Nat) => (show ((((w17.drewN n_).setCell ⟨gb191, 0, none⟩ (.int .i64 ((rd_T67 t187 x15_1).f0))).setCell ⟨gb191, 1, none⟩ (.int .i64 ((rd_T67 t187 x15_1).f1)))).cell? _ = some _ from hx192_1)); clear hn192_0; clear hn192_1; replace p192 := eq_true p192; replace q192 := eq_true q192)))
          go_roundg k1
          case measure => have := HK1.out; omega
          case rel => exact ⟨(x15_1), (wrap64 (x15_1 + 1)), z7_29, z7_29, H', ⟨by have := HK1.out; omega⟩, ⟨z7_28⟩, ⟨z7_27⟩, ⟨z7_26⟩, ⟨z7_40⟩⟩
         ·rw [if_neg c16] at H
          have c16b0 : decide (((rd_T67 t187 x4_1).f1) < ((rd_T67 t187 x15_1).f1)) = false := decide_eq_false c16
          clear c16
          have H' := z7_A H
          clear H
          have p190 : 0 ≤ (x15_1 : Int) := of_decide_eq_true z7_19
          have q190 : x15_1 < (t187.length : Int) := of_decide_eq_true z7_19
          obtain ⟨ad190, e190, hx190_0, hx190_1⟩ := at_T67 (Kd.R_reads' HO_13.out).2.2 x15_1 p190 q190
          cases e190
          replace p190 := eq_true p190
          replace q190 := eq_true q190
          go_wp2_with (first | ((with_reducible refine gate_dst (N := 7) rfl ?_); refine box_event ?hg (N := 7) ?hd (cs := #[.int .i64 0, .int .i64 0]) (t := 67) ?hr ?_; (case hd => rfl); (case hg => rfl); (case hr => first | (go_simp; done) | (go_simp; rfl)); intro gb191 hg w20 hbox hb; have n0_ := z7_A (Kd.R_below (Kd.R_elderB z7_23 gb191 (Nat.le_of_eq hg.symm)) hb); have n1_ := z7_A (Kd.R_below (Kd.R_elderB z7_22 gb191 (Nat.le_of_eq hg.symm)) hb); have n2_ := z7_A (blk_below (g := gb185) (o := .cells #[.slice A0_0 l0_0.length c0_0, .int .i64 a0_1, .int .i64 a0_2, .int .i64 a0_3] 30 (0, 0)) z7_3 hb); have n3_ := z7_A (below_step z7_2 hb); have n4_ := z7_A (hbox); have n5_ := z7_A ((z7_31 : w.heap.size ≤ gb191)); have n6_ := z7_A ((z7_31 : w.heap.size ≤ gb191)); have n7_ := z7_A ((z7_17 : gb185 ≠ gb191)); have n8_ := z7_A ((z7_18 : gb191 ≠ gb185)); clear HO_5 HO_13 BK185 HB; revert n0_ n1_ n2_ n3_ n4_ n5_ n6_ n7_ n8_; intro HO_5 HO_13 BK185 HB BK191 GW191 GE191 NB185_191 NB191_185; clear hb hbox hg; have hnb21 := NB191_185.out; have hnc21 := NB185_191.out; have hcz22_0 : w20.cell? ⟨gb191, 0, none⟩ = some (.int .i64 0) := bcz BK191.out 0 rfl; have hcz22_1 : w20.cell? ⟨gb191, 1, none⟩ = some (.int .i64 0) := bcz BK191.out 1 rfl; obtain ⟨hfz22_0, hfz22_1⟩ := F2z (blk_frozen BK191.out); have p192 : 0 ≤ (x4_1 : Int) := of_decide_eq_true z7_19; have q192 : x4_1 < (t187.length : Int) := of_decide_eq_true z7_19; obtain ⟨ad192, e192, hx192_0, hx192_1⟩ := at_T67 (Kd.R_reads' HO_5.out).2.2 x4_1 p192 q192; obtain rfl : ad190 = ad192 := (by injection e192); have hn192_0 : ad190.block ≠ gb191 := Kd.own_blk (Kd.R_away HO_5.out (fun _ hk => hk.2)); have hn192_1 : ad190.block ≠ gb191 := Kd.own_blk (Kd.R_away HO_5.out (fun _ hk => hk.2)); replace hx192_0 := (cell_far (p := ⟨gb191, 0, none⟩) z7_9 (.int .i64 ((rd_T67 t187 x15_1).f0))).trans hx192_0; replace hx192_1 := (cell_far (p := ⟨gb191, 0, none⟩) z7_9 (.int .i64 ((rd_T67 t187 x15_1).f0))).trans hx192_1; replace hx192_0 := (cell_far (p := ⟨gb191, 1, none⟩) z7_8 (.int .i64 ((rd_T67 t187 x15_1).f1))).trans hx192_0; replace hx192_1 := (cell_far (p := ⟨gb191, 1, none⟩) z7_8 (.int .i64 ((rd_T67 t187 x15_1).f1))).trans hx192_1; (try have hy192_0 := fun (n_ : Nat) => (show ((((w20.drewN n_).setCell ⟨gb191, 0, none⟩ (.int .i64 ((rd_T67 t187 x15_1).f0))).setCell ⟨gb191, 1, none⟩ (.int .i64 ((rd_T67 t187 x15_1).f1)))).cell? _ = some _ from hx192_0)); (try have hy192_1 := fun (n_ : Nat) => (show ((((w20.drewN n_).setCell ⟨gb191, 0, none⟩ (.int .i64 ((rd_T67 t187 x15_1).f0))).setCell ⟨gb191, 1, none⟩ (.int .i64 ((rd_T67 t187 x15_1).f1)))).cell? _ = some _ from hx192_1)); clear hn192_0; clear hn192_1; replace p192 := eq_true p192; replace q192 := eq_true q192))
          repeat (go_quiet (first | ((with_reducible refine gate_dst (N := 7) rfl ?_); refine box_event ?hg (N := 7) ?hd (cs := #[.int .i64 0, .int .i64 0]) (t := 67) ?hr ?_; (case hd => rfl); (case hg => rfl); (case hr => first | (go_simp; done) | (go_simp; rfl)); intro gb191 hg w20 hbox hb; have n0_ := z7_A (Kd.R_below (Kd.R_elderB z7_23 gb191 (Nat.le_of_eq hg.symm)) hb); have n1_ := z7_A (Kd.R_below (Kd.R_elderB z7_22 gb191 (Nat.le_of_eq hg.symm)) hb); have n2_ := z7_A (blk_below (g := gb185) (o := .cells #[.slice A0_0 l0_0.length c0_0, .int .i64 a0_1, .int .i64 a0_2, .int .i64 a0_3] 30 (0, 0)) z7_3 hb); have n3_ := z7_A (below_step z7_2 hb); have n4_ := z7_A (hbox); have n5_ := z7_A ((z7_31 : w.heap.size ≤ gb191)); have n6_ := z7_A ((z7_31 : w.heap.size ≤ gb191)); have n7_ := z7_A ((z7_17 : gb185 ≠ gb191)); have n8_ := z7_A ((z7_18 : gb191 ≠ gb185)); clear HO_5 HO_13 BK185 HB; revert n0_ n1_ n2_ n3_ n4_ n5_ n6_ n7_ n8_; intro HO_5 HO_13 BK185 HB BK191 GW191 GE191 NB185_191 NB191_185; clear hb hbox hg; have hnb21 := NB191_185.out; have hnc21 := NB185_191.out; have hcz22_0 : w20.cell? ⟨gb191, 0, none⟩ = some (.int .i64 0) := bcz BK191.out 0 rfl; have hcz22_1 : w20.cell? ⟨gb191, 1, none⟩ = some (.int .i64 0) := bcz BK191.out 1 rfl; obtain ⟨hfz22_0, hfz22_1⟩ := F2z (blk_frozen BK191.out); have p192 : 0 ≤ (x4_1 : Int) := of_decide_eq_true z7_19; have q192 : x4_1 < (t187.length : Int) := of_decide_eq_true z7_19; obtain ⟨ad192, e192, hx192_0, hx192_1⟩ := at_T67 (Kd.R_reads' HO_5.out).2.2 x4_1 p192 q192; obtain rfl : ad190 = ad192 := (by injection e192); have hn192_0 : ad190.block ≠ gb191 := Kd.own_blk (Kd.R_away HO_5.out (fun _ hk => hk.2)); have hn192_1 : ad190.block ≠ gb191 := Kd.own_blk (Kd.R_away HO_5.out (fun _ hk => hk.2)); replace hx192_0 := (cell_far (p := ⟨gb191, 0, none⟩) z7_9 (.int .i64 ((rd_T67 t187 x15_1).f0))).trans hx192_0; replace hx192_1 := (cell_far (p := ⟨gb191, 0, none⟩) z7_9 (.int .i64 ((rd_T67 t187 x15_1).f0))).trans hx192_1; replace hx192_0 := (cell_far (p := ⟨gb191, 1, none⟩) z7_8 (.int .i64 ((rd_T67 t187 x15_1).f1))).trans hx192_0; replace hx192_1 := (cell_far (p := ⟨gb191, 1, none⟩) z7_8 (.int .i64 ((rd_T67 t187 x15_1).f1))).trans hx192_1; (try have hy192_0 := fun (n_ : Nat) => (show ((((w20.drewN n_).setCell ⟨gb191, 0, none⟩ (.int .i64 ((rd_T67 t187 x15_1).f0))).setCell ⟨gb191, 1, none⟩ (.int .i64 ((rd_T67 t187 x15_1).f1)))).cell? _ = some _ from hx192_0)); (try have hy192_1 := fun (n_ : Nat) => (show ((((w20.drewN n_).setCell ⟨gb191, 0, none⟩ (.int .i64 ((rd_T67 t187 x15_1).f0))).setCell ⟨gb191, 1, none⟩ (.int .i64 ((rd_T67 t187 x15_1).f1)))).cell? _ = some _ from hx192_1)); clear hn192_0; clear hn192_1; replace p192 := eq_true p192; replace q192 := eq_true q192)); try go_wp2_with (first | ((with_reducible refine gate_dst (N := 7) rfl ?_); refine box_event ?hg (N := 7) ?hd (cs := #[.int .i64 0, .int .i64 0]) (t := 67) ?hr ?_; (case hd => rfl); (case hg => rfl); (case hr => first | (go_simp; done) | (go_simp; rfl)); intro gb191 hg w20 hbox hb; have n0_ := z7_A (Kd.R_below (Kd.R_elderB z7_23 gb191 (Nat.le_of_eq hg.symm)) hb); have n1_ := z7_A (Kd.R_below (Kd.R_elderB z7_22 gb191 (Nat.le_of_eq hg.symm)) hb); have n2_ := z7_A (blk_below (g := gb185) (o := .cells #[.slice A0_0 l0_0.length c0_0, .int .i64 a0_1, .int .i64 a0_2, .int .i64 a0_3] 30 (0, 0)) z7_3 hb); have n3_ := z7_A (below_step z7_2 hb); have n4_ := z7_A (hbox); have n5_ := z7_A ((z7_31 : w.heap.size ≤ gb191)); have n6_ := z7_A ((z7_31 : w.heap.size ≤ gb191)); have n7_ := z7_A ((z7_17 : gb185 ≠ gb191)); have n8_ := z7_A ((z7_18 : gb191 ≠ gb185)); clear HO_5 HO_13 BK185 HB; revert n0_ n1_ n2_ n3_ n4_ n5_ n6_ n7_ n8_; intro HO_5 HO_13 BK185 HB BK191 GW191 GE191 NB185_191 NB191_185; clear hb hbox hg; have hnb21 := NB191_185.out; have hnc21 := NB185_191.out; have hcz22_0 : w20.cell? ⟨gb191, 0, none⟩ = some (.int .i64 0) := bcz BK191.out 0 rfl; have hcz22_1 : w20.cell? ⟨gb191, 1, none⟩ = some (.int .i64 0) := bcz BK191.out 1 rfl; obtain ⟨hfz22_0, hfz22_1⟩ := F2z (blk_frozen BK191.out); have p192 : 0 ≤ (x4_1 : Int) := of_decide_eq_true z7_19; have q192 : x4_1 < (t187.length : Int) := of_decide_eq_true z7_19; obtain ⟨ad192, e192, hx192_0, hx192_1⟩ := at_T67 (Kd.R_reads' HO_5.out).2.2 x4_1 p192 q192; obtain rfl : ad190 = ad192 := (by injection e192); have hn192_0 : ad190.block ≠ gb191 := Kd.own_blk (Kd.R_away HO_5.out (fun _ hk => hk.2)); have hn192_1 : ad190.block ≠ gb191 := Kd.own_blk (Kd.R_away HO_5.out (fun _ hk => hk.2)); replace hx192_0 := (cell_far (p := ⟨gb191, 0, none⟩) z7_9 (.int .i64 ((rd_T67 t187 x15_1).f0))).trans hx192_0; replace hx192_1 := (cell_far (p := ⟨gb191, 0, none⟩) z7_9 (.int .i64 ((rd_T67 t187 x15_1).f0))).trans hx192_1; replace hx192_0 := (cell_far (p := ⟨gb191, 1, none⟩) z7_8 (.int .i64 ((rd_T67 t187 x15_1).f1))).trans hx192_0; replace hx192_1 := (cell_far (p := ⟨gb191, 1, none⟩) z7_8 (.int .i64 ((rd_T67 t187 x15_1).f1))).trans hx192_1; (try have hy192_0 := fun (n_ : Nat) => (show ((((w20.drewN n_).setCell ⟨gb191, 0, none⟩ (.int .i64 ((rd_T67 t187 x15_1).f0))).setCell ⟨gb191, 1, none⟩ (.int .i64 ((rd_T67 t187 x15_1).f1)))).cell? _ = some _ from hx192_0)); (try have hy192_1 := fun (n_ : Nat) => (show ((((w20.drewN n_).setCell ⟨gb191, 0, none⟩ (.int .i64 ((rd_T67 t187 x15_1).f0))).setCell ⟨gb191, 1, none⟩ (.int .i64 ((rd_T67 t187 x15_1).f1)))).cell? _ = some _ from hx192_1)); clear hn192_0; clear hn192_1; replace p192 := eq_true p192; replace q192 := eq_true q192)))
          go_roundg k1
          case measure => have := HK1.out; omega
          case rel => exact ⟨(x4_1), (wrap64 (x15_1 + 1)), z7_29, z7_29, H', ⟨by have := HK1.out; omega⟩, ⟨z7_28⟩, ⟨z7_27⟩, ⟨z7_26⟩, ⟨z7_40⟩⟩
        ·rw [if_neg c15] at H
         exact absurd H (by simp)
       ·rw [if_neg c14] at H
        exact absurd H (by simp)
      ·rw [if_neg c13] at H
       exact absurd H (by simp)
     ·rw [if_neg c12] at H
      exact absurd H (by simp)
    ·rw [if_neg c11] at H
     have c11b0 : decide (x15_1 < (t187.length : Int)) = false := decide_eq_false c11
     clear c11
     simp only [Option.some.injEq, Prod.mk.injEq] at H
     obtain ⟨rfl, rfl⟩ := H
     have hcz23_0 : wr.cell? ⟨gb185, 0, none⟩ = some (.slice A0_0 l0_0.length c0_0) := bcz BK185.out 0 rfl
     have hcz23_1 : wr.cell? ⟨gb185, 1, none⟩ = some (.int .i64 a0_1) := bcz BK185.out 1 rfl
     have hcz23_2 : wr.cell? ⟨gb185, 2, none⟩ = some (.int .i64 a0_2) := bcz BK185.out 2 rfl
     have hcz23_3 : wr.cell? ⟨gb185, 3, none⟩ = some (.int .i64 a0_3) := bcz BK185.out 3 rfl
     obtain ⟨hfz23_0, hfz23_1, hfz23_2, hfz23_3⟩ := F4z (blk_frozen BK185.out)
     go_wp2
     repeat (go_quiet (fail); try go_wp2)
     go_ret2
     exact ⟨z7_7, z7_2⟩
 ·replace c3 := Bool.eq_false_iff.mpr c3
  subst c3
  have H1 : (some (0, false)) = some (r1, r2) := z7_25
  clear H
  have H := H1
  clear H1
  simp only [Option.some.injEq, Prod.mk.injEq] at H
  obtain ⟨rfl, rfl⟩ := H
  go_enter Try.func19, Try.ntmps19
  go_wp2_with (first | ((with_reducible refine gate_dst (N := 1) rfl ?_); refine box_event ?hg (N := 1) ?hd (cs := #[.slice A0_0 l0_0.length c0_0, .int .i64 a0_1, .int .i64 a0_2, .int .i64 a0_3]) (t := 30) ?hr ?_; (case hd => rfl); (case hg => rfl); (case hr => first | (go_simp; done) | (go_simp; rfl)); intro gb185 hg w24 hbox hb; have n0_ := z7_A (below_step z7_1 hb); have n1_ := z7_A (hbox); have n2_ := z7_A ((z7_11 : w.heap.size ≤ gb185)); have n3_ := z7_A ((z7_11 : w.heap.size ≤ gb185)); clear HB; revert n0_ n1_ n2_ n3_; intro HB BK185 GW185 GE185; clear hb hbox hg; have hcz25_0 : w24.cell? ⟨gb185, 0, none⟩ = some (.slice A0_0 l0_0.length c0_0) := bcz BK185.out 0 rfl; have hcz25_1 : w24.cell? ⟨gb185, 1, none⟩ = some (.int .i64 a0_1) := bcz BK185.out 1 rfl; have hcz25_2 : w24.cell? ⟨gb185, 2, none⟩ = some (.int .i64 a0_2) := bcz BK185.out 2 rfl; have hcz25_3 : w24.cell? ⟨gb185, 3, none⟩ = some (.int .i64 a0_3) := bcz BK185.out 3 rfl; obtain ⟨hfz25_0, hfz25_1, hfz25_2, hfz25_3⟩ := F4z (blk_frozen BK185.out)) | (go_at_call 42; (with_reducible refine (impl_IsMarket.calls k _ _ l0_0 a0_1 a0_2 a0_3 false _ ?side1 ?side2 A2.out).mono ?_); (case side1 => have zh := (Kd.C_below HR0_0.out HB.out); exact z7_C); (case side2 => exact HC0_0.out); rintro e w26 ⟨rfl, hb⟩; have n0_ := z7_A (blk_below (g := gb185) (o := .cells #[.slice A0_0 l0_0.length c0_0, .int .i64 a0_1, .int .i64 a0_2, .int .i64 a0_3] 30 (0, 0)) z7_3 hb); have n1_ := z7_A (below_step z7_2 hb); clear BK185 HB; revert n0_ n1_; intro BK185 HB; (try clear hb); (try clear hb2); (try clear hk); (try clear hi)))
  repeat (go_quiet (first | ((with_reducible refine gate_dst (N := 1) rfl ?_); refine box_event ?hg (N := 1) ?hd (cs := #[.slice A0_0 l0_0.length c0_0, .int .i64 a0_1, .int .i64 a0_2, .int .i64 a0_3]) (t := 30) ?hr ?_; (case hd => rfl); (case hg => rfl); (case hr => first | (go_simp; done) | (go_simp; rfl)); intro gb185 hg w24 hbox hb; have n0_ := z7_A (below_step z7_1 hb); have n1_ := z7_A (hbox); have n2_ := z7_A ((z7_11 : w.heap.size ≤ gb185)); have n3_ := z7_A ((z7_11 : w.heap.size ≤ gb185)); clear HB; revert n0_ n1_ n2_ n3_; intro HB BK185 GW185 GE185; clear hb hbox hg; have hcz25_0 : w24.cell? ⟨gb185, 0, none⟩ = some (.slice A0_0 l0_0.length c0_0) := bcz BK185.out 0 rfl; have hcz25_1 : w24.cell? ⟨gb185, 1, none⟩ = some (.int .i64 a0_1) := bcz BK185.out 1 rfl; have hcz25_2 : w24.cell? ⟨gb185, 2, none⟩ = some (.int .i64 a0_2) := bcz BK185.out 2 rfl; have hcz25_3 : w24.cell? ⟨gb185, 3, none⟩ = some (.int .i64 a0_3) := bcz BK185.out 3 rfl; obtain ⟨hfz25_0, hfz25_1, hfz25_2, hfz25_3⟩ := F4z (blk_frozen BK185.out)) | (go_at_call 42; (with_reducible refine (impl_IsMarket.calls k _ _ l0_0 a0_1 a0_2 a0_3 false _ ?side1 ?side2 A2.out).mono ?_); (case side1 => have zh := (Kd.C_below HR0_0.out HB.out); exact z7_C); (case side2 => exact HC0_0.out); rintro e w26 ⟨rfl, hb⟩; have n0_ := z7_A (blk_below (g := gb185) (o := .cells #[.slice A0_0 l0_0.length c0_0, .int .i64 a0_1, .int .i64 a0_2, .int .i64 a0_3] 30 (0, 0)) z7_3 hb); have n1_ := z7_A (below_step z7_2 hb); clear BK185 HB; revert n0_ n1_; intro BK185 HB; (try clear hb); (try clear hb2); (try clear hk); (try clear hi))); try go_wp2_with (first | ((with_reducible refine gate_dst (N := 1) rfl ?_); refine box_event ?hg (N := 1) ?hd (cs := #[.slice A0_0 l0_0.length c0_0, .int .i64 a0_1, .int .i64 a0_2, .int .i64 a0_3]) (t := 30) ?hr ?_; (case hd => rfl); (case hg => rfl); (case hr => first | (go_simp; done) | (go_simp; rfl)); intro gb185 hg w24 hbox hb; have n0_ := z7_A (below_step z7_1 hb); have n1_ := z7_A (hbox); have n2_ := z7_A ((z7_11 : w.heap.size ≤ gb185)); have n3_ := z7_A ((z7_11 : w.heap.size ≤ gb185)); clear HB; revert n0_ n1_ n2_ n3_; intro HB BK185 GW185 GE185; clear hb hbox hg; have hcz25_0 : w24.cell? ⟨gb185, 0, none⟩ = some (.slice A0_0 l0_0.length c0_0) := bcz BK185.out 0 rfl; have hcz25_1 : w24.cell? ⟨gb185, 1, none⟩ = some (.int .i64 a0_1) := bcz BK185.out 1 rfl; have hcz25_2 : w24.cell? ⟨gb185, 2, none⟩ = some (.int .i64 a0_2) := bcz BK185.out 2 rfl; have hcz25_3 : w24.cell? ⟨gb185, 3, none⟩ = some (.int .i64 a0_3) := bcz BK185.out 3 rfl; obtain ⟨hfz25_0, hfz25_1, hfz25_2, hfz25_3⟩ := F4z (blk_frozen BK185.out)) | (go_at_call 42; (with_reducible refine (impl_IsMarket.calls k _ _ l0_0 a0_1 a0_2 a0_3 false _ ?side1 ?side2 A2.out).mono ?_); (case side1 => have zh := (Kd.C_below HR0_0.out HB.out); exact z7_C); (case side2 => exact HC0_0.out); rintro e w26 ⟨rfl, hb⟩; have n0_ := z7_A (blk_below (g := gb185) (o := .cells #[.slice A0_0 l0_0.length c0_0, .int .i64 a0_1, .int .i64 a0_2, .int .i64 a0_3] 30 (0, 0)) z7_3 hb); have n1_ := z7_A (below_step z7_2 hb); clear BK185 HB; revert n0_ n1_; intro BK185 HB; (try clear hb); (try clear hb2); (try clear hk); (try clear hi))))
  go_ret2
  exact ⟨z7_7, z7_2⟩

/-! ### spec_PlainContracts: function 26 -/
def spec_PlainContracts.f (k : Nat) (l0_0 : List Int) (a0_1 : Int) (a0_2 : Int) (a0_3 : Int) : Option ((List (S67)) × Bool) := (spec_l10Market.f k l0_0 a0_1 a0_2 a0_3).bind fun t194 => (if t194 = true then ((spec_l10Plains.f k l0_0 a0_1 a0_2 a0_3).bind fun t195 => (some (t195, true))) else (some ((([] : List (S67))), false)))
theorem spec_PlainContracts.mono : ∀ a0 a1 a2 a3 k, LeO (spec_PlainContracts.f k a0 a1 a2 a3) (spec_PlainContracts.f (k + 1) a0 a1 a2 a3) := by
 intro a0 a1 a2 a3 k
 unfold spec_PlainContracts.f
 repeat' first
   | (with_reducible exact spec_l10Market.mono _ _ _ _ _)
   | (with_reducible exact spec_l10Plains.mono _ _ _ _ _)
   | (with_reducible exact LeO.refl _)
   | (with_reducible exact LeO.none _)
   | (with_reducible refine LeO.ite ?_ ?_)
   | (with_reducible refine LeO.bind ?_ (fun _ => ?_))
   | exact spec_l10Market.mono _ _ _ _ _
   | exact spec_l10Plains.mono _ _ _ _ _
   | exact LeO.none _
   | refine LeO.ite ?_ ?_
   | refine LeO.bind ?_ (fun _ => ?_)
set_option maxHeartbeats 8000000 in
set_option maxRecDepth 100000 in
theorem spec_PlainContracts.calls (k : Nat) (A0_0 : Option Addr) (c0_0 : Nat) (l0_0 : List Int) (a0_1 : Int) (a0_2 : Int) (a0_3 : Int) (r1 : List (S67)) (r2 : Bool) (w : World) (hr0_0 : Kd.C (Kd.int .i64) w A0_0 l0_0.length l0_0) (hc0_0 : l0_0.length ≤ c0_0) (h : spec_PlainContracts.f k l0_0 a0_1 a0_2 a0_3 = some (r1, r2)) :
  Calls Try.prog 26 #[.agg #[.slice A0_0 l0_0.length c0_0, .int .i64 a0_1, .int .i64 a0_2, .int .i64 a0_3]] w fun e w' => ∃ v0_ : Value, e = .returned (.tuple #[v0_, .bool r2]) ∧ Kd.R k67 67 w' w.heap.size (fun _ => True) v0_ r1 ∧ Below w.heap.size w w' := by
 have hu30 := Try.underlying30
 have HR0_0 := z7_A hr0_0
 have HC0_0 := z7_A hc0_0
 clear hr0_0 hc0_0
 have HB := z7_A (Below.refl w.heap.size w)
 have H : ((spec_l10Market.f k l0_0 a0_1 a0_2 a0_3).bind fun t194 => (if t194 = true then ((spec_l10Plains.f k l0_0 a0_1 a0_2 a0_3).bind fun t195 => (some (t195, true))) else (some ((([] : List (S67))), false)))) = some (r1, r2) := h
 clear h
 replace H := Option.bind_eq_some_iff.mp H
 obtain ⟨t194, A20, H⟩ := H
 (try dsimp only at H)
 have A2 := z7_A A20
 clear A20
 by_cases c3 : t194 = true
 ·subst c3
  have H1 : ((spec_l10Plains.f k l0_0 a0_1 a0_2 a0_3).bind fun t195 => (some (t195, true))) = some (r1, r2) := z7_36
  clear H
  have H := H1
  clear H1
  replace H := Option.bind_eq_some_iff.mp H
  obtain ⟨t195, A40, H⟩ := H
  (try dsimp only at H)
  have A4 := z7_A A40
  clear A40
  simp only [Option.some.injEq, Prod.mk.injEq] at H
  obtain ⟨rfl, rfl⟩ := H
  go_enter Try.func26, Try.ntmps26
  go_wp2_with (first | ((with_reducible refine gate_dst (N := 1) rfl ?_); refine box_event ?hg (N := 1) ?hd (cs := #[.slice A0_0 l0_0.length c0_0, .int .i64 a0_1, .int .i64 a0_2, .int .i64 a0_3]) (t := 30) ?hr ?_; (case hd => rfl); (case hg => rfl); (case hr => first | (go_simp; done) | (go_simp; rfl)); intro gb193 hg w5 hbox hb; have n0_ := z7_A (below_step z7_1 hb); have n1_ := z7_A (hbox); have n2_ := z7_A ((z7_11 : w.heap.size ≤ gb193)); have n3_ := z7_A ((z7_11 : w.heap.size ≤ gb193)); clear HB; revert n0_ n1_ n2_ n3_; intro HB BK193 GW193 GE193; clear hb hbox hg; have hcz6_0 : w5.cell? ⟨gb193, 0, none⟩ = some (.slice A0_0 l0_0.length c0_0) := bcz BK193.out 0 rfl; have hcz6_1 : w5.cell? ⟨gb193, 1, none⟩ = some (.int .i64 a0_1) := bcz BK193.out 1 rfl; have hcz6_2 : w5.cell? ⟨gb193, 2, none⟩ = some (.int .i64 a0_2) := bcz BK193.out 2 rfl; have hcz6_3 : w5.cell? ⟨gb193, 3, none⟩ = some (.int .i64 a0_3) := bcz BK193.out 3 rfl; obtain ⟨hfz6_0, hfz6_1, hfz6_2, hfz6_3⟩ := F4z (blk_frozen BK193.out)) | ((with_reducible refine gate_callee (f := 67) rfl ?_); refine goesL_ (some 5) rfl rfl Try.func67 z7_39 rfl #[.agg #[.slice A0_0 l0_0.length c0_0, .int .i64 a0_1, .int .i64 a0_2, .int .i64 a0_3]] rfl z7_4 ?_; (with_reducible refine (spec_l10Market.calls k _ _ l0_0 a0_1 a0_2 a0_3 true _ ?side1 ?side2 A2.out).mono ?_); (case side1 => have zh := (Kd.C_below HR0_0.out HB.out); exact z7_C); (case side2 => exact HC0_0.out); rintro e w7 ⟨rfl, hb⟩; refine ⟨_, rfl, ?_⟩; have n0_ := z7_A (blk_below (g := gb193) (o := .cells #[.slice A0_0 l0_0.length c0_0, .int .i64 a0_1, .int .i64 a0_2, .int .i64 a0_3] 30 (0, 0)) z7_30 hb); have n1_ := z7_A (below_step z7_12 hb); clear BK193 HB; revert n0_ n1_; intro BK193 HB; (try clear hb); (try clear hb2); (try clear hk); (try clear hi); have hcz8_0 : w7.cell? ⟨gb193, 0, none⟩ = some (.slice A0_0 l0_0.length c0_0) := bcz BK193.out 0 rfl; have hcz8_1 : w7.cell? ⟨gb193, 1, none⟩ = some (.int .i64 a0_1) := bcz BK193.out 1 rfl; have hcz8_2 : w7.cell? ⟨gb193, 2, none⟩ = some (.int .i64 a0_2) := bcz BK193.out 2 rfl; have hcz8_3 : w7.cell? ⟨gb193, 3, none⟩ = some (.int .i64 a0_3) := bcz BK193.out 3 rfl; obtain ⟨hfz8_0, hfz8_1, hfz8_2, hfz8_3⟩ := F4z (blk_frozen BK193.out)) | ((with_reducible refine gate_callee (f := 68) rfl ?_); refine goesL_ (some 9) rfl rfl Try.func68 z7_39 rfl #[.agg #[.slice A0_0 l0_0.length c0_0, .int .i64 a0_1, .int .i64 a0_2, .int .i64 a0_3]] rfl z7_4 ?_; (with_reducible refine (spec_l10Plains.calls k _ _ l0_0 a0_1 a0_2 a0_3 t195 _ ?side1 ?side2 A4.out).mono ?_); (case side1 => have zh := (Kd.C_below HR0_0.out HB.out); exact z7_C); (case side2 => exact HC0_0.out); rintro e w9 ⟨v196, rfl, ho0, hb⟩; refine ⟨_, rfl, ?_⟩; have n0_ := z7_A (Kd.R_lower ho0 (below_size z7_12)); have n1_ := z7_A (blk_below (g := gb193) (o := .cells #[.slice A0_0 l0_0.length c0_0, .int .i64 a0_1, .int .i64 a0_2, .int .i64 a0_3] 30 (0, 0)) z7_30 hb); have n2_ := z7_A (below_step z7_12 hb); clear BK193 HB; revert n0_ n1_ n2_; intro HO197 BK193 HB; (try clear hb); (try clear hb2); (try clear hk); (try clear hi); (try clear ho0)))
  go_ret2
  exact ⟨_, z7_7, by (with_reducible repeat (first | apply Kd.R_alloc | apply Kd.R_drewN | apply Kd.R_drew)); exact HO197.out, z7_12⟩
 ·replace c3 := Bool.eq_false_iff.mpr c3
  subst c3
  have H1 : (some ((([] : List (S67))), false)) = some (r1, r2) := z7_25
  clear H
  have H := H1
  clear H1
  obtain ⟨y198, hy198⟩ : ∃ y_ : List (S67), y_ = (([] : List (S67))) := ⟨_, rfl⟩
  replace H : (some (y198, false)) = some (r1, r2) := by first | (rw [hy198]; with_reducible exact H) | (have H2_ := (Option.bind_some _ _).symm.trans H; rw [hy198]; with_reducible exact H2_) | (have H2_ := (Option.bind_some _ _).symm.trans H; with_reducible exact H2_) | with_reducible exact H | (rw [hy198]; exact H) | exact H
  have Ny198 := z7_A hy198
  clear hy198
  simp only [Option.some.injEq, Prod.mk.injEq] at H
  obtain ⟨rfl, rfl⟩ := H
  go_enter Try.func26, Try.ntmps26
  go_wp2_with (first | ((with_reducible refine gate_dst (N := 1) rfl ?_); refine box_event ?hg (N := 1) ?hd (cs := #[.slice A0_0 l0_0.length c0_0, .int .i64 a0_1, .int .i64 a0_2, .int .i64 a0_3]) (t := 30) ?hr ?_; (case hd => rfl); (case hg => rfl); (case hr => first | (go_simp; done) | (go_simp; rfl)); intro gb193 hg w10 hbox hb; have n0_ := z7_A (below_step z7_1 hb); have n1_ := z7_A (hbox); have n2_ := z7_A ((z7_11 : w.heap.size ≤ gb193)); have n3_ := z7_A ((z7_11 : w.heap.size ≤ gb193)); clear HB; revert n0_ n1_ n2_ n3_; intro HB BK193 GW193 GE193; clear hb hbox hg; have hcz11_0 : w10.cell? ⟨gb193, 0, none⟩ = some (.slice A0_0 l0_0.length c0_0) := bcz BK193.out 0 rfl; have hcz11_1 : w10.cell? ⟨gb193, 1, none⟩ = some (.int .i64 a0_1) := bcz BK193.out 1 rfl; have hcz11_2 : w10.cell? ⟨gb193, 2, none⟩ = some (.int .i64 a0_2) := bcz BK193.out 2 rfl; have hcz11_3 : w10.cell? ⟨gb193, 3, none⟩ = some (.int .i64 a0_3) := bcz BK193.out 3 rfl; obtain ⟨hfz11_0, hfz11_1, hfz11_2, hfz11_3⟩ := F4z (blk_frozen BK193.out)) | ((with_reducible refine gate_callee (f := 67) rfl ?_); refine goesL_ (some 5) rfl rfl Try.func67 z7_39 rfl #[.agg #[.slice A0_0 l0_0.length c0_0, .int .i64 a0_1, .int .i64 a0_2, .int .i64 a0_3]] rfl z7_4 ?_; (with_reducible refine (spec_l10Market.calls k _ _ l0_0 a0_1 a0_2 a0_3 false _ ?side1 ?side2 A2.out).mono ?_); (case side1 => have zh := (Kd.C_below HR0_0.out HB.out); exact z7_C); (case side2 => exact HC0_0.out); rintro e w12 ⟨rfl, hb⟩; refine ⟨_, rfl, ?_⟩; have n0_ := z7_A (blk_below (g := gb193) (o := .cells #[.slice A0_0 l0_0.length c0_0, .int .i64 a0_1, .int .i64 a0_2, .int .i64 a0_3] 30 (0, 0)) z7_30 hb); have n1_ := z7_A (below_step z7_12 hb); clear BK193 HB; revert n0_ n1_; intro BK193 HB; (try clear hb); (try clear hb2); (try clear hk); (try clear hi)) | ((with_reducible refine gate_dst (N := 7) rfl ?_); refine Kd.R_lit k67 _ 67 ?hg (N := 7) ?hd (xs := ([] : List (S67))) (inner := []) (ok := fun _ => True) (okp := fun _ => True) ?hr ?hp (fun _ hk => hk) trivial (Below.refl _ _) (Nat.le_refl _) (by simp) ?_; (case hd => rfl); (case hg => rfl); (case hr => first | (go_simp; done) | (go_simp; rfl)); (case hp => exact (Reps.none _ _)); intro v199 w13 ho14 hb hg_ hnew_; clear hg_ hnew_; (first | rw [← Ny198.out] at ho14 | (simp only [Int.reduceToNat] at ho14; rw [← Ny198.out] at ho14)); have n0_ := z7_A (Kd.R_lower ho14 (below_size z7_12)); have n1_ := z7_A (blk_below (g := gb193) (o := .cells #[.slice A0_0 l0_0.length c0_0, .int .i64 a0_1, .int .i64 a0_2, .int .i64 a0_3] 30 (0, 0)) z7_30 hb); have n2_ := z7_A (below_step z7_12 hb); clear BK193 HB; revert n0_ n1_ n2_; intro HO200 BK193 HB; clear hb ho14))
  go_ret2
  exact ⟨_, z7_7, by (with_reducible repeat (first | apply Kd.R_alloc | apply Kd.R_drewN | apply Kd.R_drew)); exact HO200.out, z7_12⟩

/-! ### impl_PlainContracts: function 27 -/
def impl_PlainContracts.f (k : Nat) (l0_0 : List Int) (a0_1 : Int) (a0_2 : Int) (a0_3 : Int) : Option ((List (S67)) × Bool) := (impl_IsMarket.f k l0_0 a0_1 a0_2 a0_3).bind fun t202 => (if t202 = true then ((impl_Market_plain.f k l0_0 a0_1 a0_2 a0_3).bind fun t203 => (some (t203, true))) else (some (([] : List (S67)), false)))
theorem impl_PlainContracts.mono : ∀ a0 a1 a2 a3 k, LeO (impl_PlainContracts.f k a0 a1 a2 a3) (impl_PlainContracts.f (k + 1) a0 a1 a2 a3) := by
 intro a0 a1 a2 a3 k
 unfold impl_PlainContracts.f
 repeat' first
   | (with_reducible exact impl_IsMarket.mono _ _ _ _ _)
   | (with_reducible exact impl_Market_plain.mono _ _ _ _ _)
   | (with_reducible exact LeO.refl _)
   | (with_reducible exact LeO.none _)
   | (with_reducible refine LeO.ite ?_ ?_)
   | (with_reducible refine LeO.bind ?_ (fun _ => ?_))
   | exact impl_IsMarket.mono _ _ _ _ _
   | exact impl_Market_plain.mono _ _ _ _ _
   | exact LeO.none _
   | refine LeO.ite ?_ ?_
   | refine LeO.bind ?_ (fun _ => ?_)
set_option maxHeartbeats 8000000 in
set_option maxRecDepth 100000 in
theorem impl_PlainContracts.calls (k : Nat) (A0_0 : Option Addr) (c0_0 : Nat) (l0_0 : List Int) (a0_1 : Int) (a0_2 : Int) (a0_3 : Int) (r1 : List (S67)) (r2 : Bool) (w : World) (hr0_0 : Kd.C (Kd.int .i64) w A0_0 l0_0.length l0_0) (hc0_0 : l0_0.length ≤ c0_0) (h : impl_PlainContracts.f k l0_0 a0_1 a0_2 a0_3 = some (r1, r2)) :
  Calls Try.prog 27 #[.agg #[.slice A0_0 l0_0.length c0_0, .int .i64 a0_1, .int .i64 a0_2, .int .i64 a0_3]] w fun e w' => ∃ v0_ : Value, e = .returned (.tuple #[v0_, .bool r2]) ∧ Kd.R k67 67 w' w.heap.size (fun _ => True) v0_ r1 ∧ Below w.heap.size w w' := by
 have hu30 := Try.underlying30
 have HR0_0 := z7_A hr0_0
 have HC0_0 := z7_A hc0_0
 clear hr0_0 hc0_0
 have HB := z7_A (Below.refl w.heap.size w)
 have H : ((impl_IsMarket.f k l0_0 a0_1 a0_2 a0_3).bind fun t202 => (if t202 = true then ((impl_Market_plain.f k l0_0 a0_1 a0_2 a0_3).bind fun t203 => (some (t203, true))) else (some (([] : List (S67)), false)))) = some (r1, r2) := h
 clear h
 replace H := Option.bind_eq_some_iff.mp H
 obtain ⟨t202, A20, H⟩ := H
 (try dsimp only at H)
 have A2 := z7_A A20
 clear A20
 by_cases c3 : t202 = true
 ·subst c3
  have H1 : ((impl_Market_plain.f k l0_0 a0_1 a0_2 a0_3).bind fun t203 => (some (t203, true))) = some (r1, r2) := z7_36
  clear H
  have H := H1
  clear H1
  replace H := Option.bind_eq_some_iff.mp H
  obtain ⟨t203, A40, H⟩ := H
  (try dsimp only at H)
  have A4 := z7_A A40
  clear A40
  simp only [Option.some.injEq, Prod.mk.injEq] at H
  obtain ⟨rfl, rfl⟩ := H
  go_enter Try.func27, Try.ntmps27
  go_wp2_with (first | ((with_reducible refine gate_dst (N := 1) rfl ?_); refine box_event ?hg (N := 1) ?hd (cs := #[.slice A0_0 l0_0.length c0_0, .int .i64 a0_1, .int .i64 a0_2, .int .i64 a0_3]) (t := 30) ?hr ?_; (case hd => rfl); (case hg => rfl); (case hr => first | (go_simp; done) | (go_simp; rfl)); intro gb201 hg w5 hbox hb; have n0_ := z7_A (below_step z7_1 hb); have n1_ := z7_A (hbox); have n2_ := z7_A ((z7_11 : w.heap.size ≤ gb201)); have n3_ := z7_A ((z7_11 : w.heap.size ≤ gb201)); clear HB; revert n0_ n1_ n2_ n3_; intro HB BK201 GW201 GE201; clear hb hbox hg; have hcz6_0 : w5.cell? ⟨gb201, 0, none⟩ = some (.slice A0_0 l0_0.length c0_0) := bcz BK201.out 0 rfl; have hcz6_1 : w5.cell? ⟨gb201, 1, none⟩ = some (.int .i64 a0_1) := bcz BK201.out 1 rfl; have hcz6_2 : w5.cell? ⟨gb201, 2, none⟩ = some (.int .i64 a0_2) := bcz BK201.out 2 rfl; have hcz6_3 : w5.cell? ⟨gb201, 3, none⟩ = some (.int .i64 a0_3) := bcz BK201.out 3 rfl; obtain ⟨hfz6_0, hfz6_1, hfz6_2, hfz6_3⟩ := F4z (blk_frozen BK201.out)) | ((with_reducible refine gate_callee (f := 42) rfl ?_); refine goesL_ (some 5) rfl rfl Try.func42 z7_39 rfl #[.agg #[.slice A0_0 l0_0.length c0_0, .int .i64 a0_1, .int .i64 a0_2, .int .i64 a0_3]] rfl z7_4 ?_; (with_reducible refine (impl_IsMarket.calls k _ _ l0_0 a0_1 a0_2 a0_3 true _ ?side1 ?side2 A2.out).mono ?_); (case side1 => have zh := (Kd.C_below HR0_0.out HB.out); exact z7_C); (case side2 => exact HC0_0.out); rintro e w7 ⟨rfl, hb⟩; refine ⟨_, rfl, ?_⟩; have n0_ := z7_A (blk_below (g := gb201) (o := .cells #[.slice A0_0 l0_0.length c0_0, .int .i64 a0_1, .int .i64 a0_2, .int .i64 a0_3] 30 (0, 0)) z7_38 hb); have n1_ := z7_A (below_step z7_16 hb); clear BK201 HB; revert n0_ n1_; intro BK201 HB; (try clear hb); (try clear hb2); (try clear hk); (try clear hi); have hcz8_0 : w7.cell? ⟨gb201, 0, none⟩ = some (.slice A0_0 l0_0.length c0_0) := bcz BK201.out 0 rfl; have hcz8_1 : w7.cell? ⟨gb201, 1, none⟩ = some (.int .i64 a0_1) := bcz BK201.out 1 rfl; have hcz8_2 : w7.cell? ⟨gb201, 2, none⟩ = some (.int .i64 a0_2) := bcz BK201.out 2 rfl; have hcz8_3 : w7.cell? ⟨gb201, 3, none⟩ = some (.int .i64 a0_3) := bcz BK201.out 3 rfl; obtain ⟨hfz8_0, hfz8_1, hfz8_2, hfz8_3⟩ := F4z (blk_frozen BK201.out)) | ((with_reducible refine gate_callee (f := 69) rfl ?_); refine goesL_ (some 8) rfl rfl Try.func69 z7_39 rfl #[.agg #[.slice A0_0 l0_0.length c0_0, .int .i64 a0_1, .int .i64 a0_2, .int .i64 a0_3]] rfl z7_4 ?_; (with_reducible refine (impl_Market_plain.calls k _ _ l0_0 a0_1 a0_2 a0_3 t203 _ ?side1 ?side2 A4.out).mono ?_); (case side1 => have zh := (Kd.C_below HR0_0.out HB.out); exact z7_C); (case side2 => exact HC0_0.out); rintro e w9 ⟨v204, rfl, ho0, hb⟩; refine ⟨_, rfl, ?_⟩; have n0_ := z7_A (Kd.R_lower ho0 (below_size z7_16)); have n1_ := z7_A (blk_below (g := gb201) (o := .cells #[.slice A0_0 l0_0.length c0_0, .int .i64 a0_1, .int .i64 a0_2, .int .i64 a0_3] 30 (0, 0)) z7_38 hb); have n2_ := z7_A (below_step z7_16 hb); clear BK201 HB; revert n0_ n1_ n2_; intro HO205 BK201 HB; (try clear hb); (try clear hb2); (try clear hk); (try clear hi); (try clear ho0)))
  go_ret2
  exact ⟨_, z7_7, by (with_reducible repeat (first | apply Kd.R_alloc | apply Kd.R_drewN | apply Kd.R_drew)); exact HO205.out, z7_16⟩
 ·replace c3 := Bool.eq_false_iff.mpr c3
  subst c3
  have H1 : (some (([] : List (S67)), false)) = some (r1, r2) := z7_25
  clear H
  have H := H1
  clear H1
  simp only [Option.some.injEq, Prod.mk.injEq] at H
  obtain ⟨rfl, rfl⟩ := H
  go_enter Try.func27, Try.ntmps27
  go_wp2_with (first | ((with_reducible refine gate_dst (N := 1) rfl ?_); refine box_event ?hg (N := 1) ?hd (cs := #[.slice A0_0 l0_0.length c0_0, .int .i64 a0_1, .int .i64 a0_2, .int .i64 a0_3]) (t := 30) ?hr ?_; (case hd => rfl); (case hg => rfl); (case hr => first | (go_simp; done) | (go_simp; rfl)); intro gb201 hg w10 hbox hb; have n0_ := z7_A (below_step z7_1 hb); have n1_ := z7_A (hbox); have n2_ := z7_A ((z7_11 : w.heap.size ≤ gb201)); have n3_ := z7_A ((z7_11 : w.heap.size ≤ gb201)); clear HB; revert n0_ n1_ n2_ n3_; intro HB BK201 GW201 GE201; clear hb hbox hg; have hcz11_0 : w10.cell? ⟨gb201, 0, none⟩ = some (.slice A0_0 l0_0.length c0_0) := bcz BK201.out 0 rfl; have hcz11_1 : w10.cell? ⟨gb201, 1, none⟩ = some (.int .i64 a0_1) := bcz BK201.out 1 rfl; have hcz11_2 : w10.cell? ⟨gb201, 2, none⟩ = some (.int .i64 a0_2) := bcz BK201.out 2 rfl; have hcz11_3 : w10.cell? ⟨gb201, 3, none⟩ = some (.int .i64 a0_3) := bcz BK201.out 3 rfl; obtain ⟨hfz11_0, hfz11_1, hfz11_2, hfz11_3⟩ := F4z (blk_frozen BK201.out)) | ((with_reducible refine gate_callee (f := 42) rfl ?_); refine goesL_ (some 5) rfl rfl Try.func42 z7_39 rfl #[.agg #[.slice A0_0 l0_0.length c0_0, .int .i64 a0_1, .int .i64 a0_2, .int .i64 a0_3]] rfl z7_4 ?_; (with_reducible refine (impl_IsMarket.calls k _ _ l0_0 a0_1 a0_2 a0_3 false _ ?side1 ?side2 A2.out).mono ?_); (case side1 => have zh := (Kd.C_below HR0_0.out HB.out); exact z7_C); (case side2 => exact HC0_0.out); rintro e w12 ⟨rfl, hb⟩; refine ⟨_, rfl, ?_⟩; have n0_ := z7_A (blk_below (g := gb201) (o := .cells #[.slice A0_0 l0_0.length c0_0, .int .i64 a0_1, .int .i64 a0_2, .int .i64 a0_3] 30 (0, 0)) z7_38 hb); have n1_ := z7_A (below_step z7_16 hb); clear BK201 HB; revert n0_ n1_; intro BK201 HB; (try clear hb); (try clear hb2); (try clear hk); (try clear hi)))
  go_ret2
  exact ⟨_, z7_7, by first | exact Kd.R_nil _ _ _ _ _ | exact Kd.N_nil _ _ _ _ _ | exact Kd.V_nil _ _ _ _ _ | exact Kd.Q_nil _ _ _ _ _ | exact Kd.S_nil _ _ _ _ _, z7_16⟩

/-! ### laws_rBig: function 31 -/
def laws_rBig.f (l0 : List Int) : Option (Bool) := some (decide ((l0.length : Int) > 65536))
set_option maxHeartbeats 8000000 in
set_option maxRecDepth 100000 in
theorem laws_rBig.calls (A0 : Option Addr) (c0 : Nat) (l0 : List Int) (r : Bool) (w : World) (hr0 : Kd.C (Kd.int .u8) w A0 l0.length l0) (hc0 : l0.length ≤ c0) (h : laws_rBig.f l0 = some r) :
  Calls Try.prog 31 #[.slice A0 l0.length c0] w fun e w' => e = .returned (.bool r) ∧ Drawn0 w w' := by
 have HR0 := z7_A hr0
 have HC0 := z7_A hc0
 clear hr0 hc0
 have H : (some (decide ((l0.length : Int) > 65536))) = some r := h
 clear h
 obtain rfl := Option.some.inj H
 go_enter Try.func31, Try.ntmps31
 go_wp2
 go_ret
 exact ⟨z7_29, by repeat (first | exact Drawn0.refl _ | apply Drawn0.step)⟩

/-! ### impl_JointOrder: function 43 (by hand) -/
def impl_JointOrder.f (k : Nat) (l0_0 : List Int) (a0_1 : Int) (a0_2 : Int) (a0_3 : Int) : Option (Int × Bool) := (impl_IsMarket.f k l0_0 a0_1 a0_2 a0_3).bind fun t => (if t = true then ((impl_mostOrder.m0 k l0_0 a0_1 a0_2 a0_3 0 1).bind fun q => some (q, true)) else (some (0, false)))
theorem impl_JointOrder.mono : ∀ a0 a1 a2 a3 k, LeO (impl_JointOrder.f k a0 a1 a2 a3) (impl_JointOrder.f (k + 1) a0 a1 a2 a3) := by
 intro a0 a1 a2 a3 k
 have ih0 := impl_mostOrder.mono_l k
 unfold impl_JointOrder.f
 repeat' first
  | (with_reducible exact ih0 _ _ _ _ _ _)
  | (with_reducible exact impl_IsMarket.mono _ _ _ _ _)
  | (with_reducible exact LeO.refl _)
  | (with_reducible exact LeO.none _)
  | (with_reducible refine LeO.ite ?_ ?_)
  | (with_reducible refine LeO.bind ?_ (fun _ => ?_))
theorem impl_JointOrder.bcell {W w1 : World} (hb : Below W.heap.size W w1) : (∀ b o, b < W.heap.size → w1.cell? ⟨b, o, none⟩ = W.cell? ⟨b, o, none⟩) ∧ (∀ b o, b < W.heap.size → w1.frozen? ⟨b, o, none⟩ = W.frozen? ⟨b, o, none⟩) :=
 ⟨fun b o h => hb.cell (p := ⟨b, o, none⟩) h, fun b o h => hb.frozen (p := ⟨b, o, none⟩) h⟩
set_option maxHeartbeats 8000000 in
set_option maxRecDepth 100000 in
theorem impl_JointOrder.calls (k : Nat) (A0_0 : Option Addr) (c0_0 : Nat) (l0_0 : List Int) (a0_1 : Int) (a0_2 : Int) (a0_3 : Int) (r1 : Int) (r2 : Bool) (w : World) (hr0_0 : Kd.C (Kd.int .i64) w A0_0 l0_0.length l0_0) (hc0_0 : l0_0.length ≤ c0_0) (h : impl_JointOrder.f k l0_0 a0_1 a0_2 a0_3 = some (r1, r2)) :
  Calls Try.prog 43 #[.agg #[.slice A0_0 l0_0.length c0_0, .int .i64 a0_1, .int .i64 a0_2, .int .i64 a0_3]] w fun e w' => e = .returned (.tuple #[.int .i64 r1, .bool r2]) ∧ Below w.heap.size w w' := by
 have hmf : ∀ (fn : Fn) (first cap : Array Value) (w : World), (Instr.makeFunc fn first cap).run Try.prog w = .ok (.func fn first cap) w := fun _ _ _ _ => rfl
 have HR0_0 := z7_A hr0_0
 have HC0_0 := z7_A hc0_0
 clear hr0_0 hc0_0
 unfold impl_JointOrder.f at h
 cases e1 : impl_IsMarket.f k l0_0 a0_1 a0_2 a0_3 with
 | none => rw [e1] at h; cases h
 | some t =>
  rw [e1, Option.bind_some] at h
  have E1 := z7_A e1
  clear e1
  cases t with
  | false =>
   simp only [Bool.false_eq_true, if_false, Option.some.injEq, Prod.mk.injEq] at h
   obtain ⟨rfl, rfl⟩ := h
   go_enter Try.func43, Try.ntmps43
   go_wp2_with fail
   refine (impl_IsMarket.calls k A0_0 c0_0 l0_0 a0_1 a0_2 a0_3 false _ (by repeat (first | exact HR0_0.out | (with_reducible refine Kd.C_alloc ?_ _))) HC0_0.out E1.out).mono ?_
   rintro e w1 ⟨rfl, hb1⟩
   have HB1 := z7_A hb1
   clear hb1
   go_wp2
   go_ret2
   exact ⟨rfl, below_step (below_alloc (Below.refl _ _) _) HB1.out⟩
  | true =>
   simp only [if_true] at h
   cases e2 : impl_mostOrder.m0 k l0_0 a0_1 a0_2 a0_3 0 1 with
   | none => rw [e2] at h; cases h
   | some q =>
    rw [e2, Option.bind_some] at h
    have E2 := z7_A e2
    clear e2
    simp only [Option.some.injEq, Prod.mk.injEq] at h
    obtain ⟨rfl, rfl⟩ := h
    go_enter Try.func43, Try.ntmps43
    go_wp2_with fail
    refine (impl_IsMarket.calls k A0_0 c0_0 l0_0 a0_1 a0_2 a0_3 true _ (by repeat (first | exact HR0_0.out | (with_reducible refine Kd.C_alloc ?_ _))) HC0_0.out E1.out).mono ?_
    rintro e w1 ⟨rfl, hb1⟩
    have HB1 := z7_A hb1
    obtain ⟨hc1, hf1⟩ := impl_JointOrder.bcell hb1
    clear hb1
    go_wp2_with fail
    refine (impl_mostOrder_joint k A0_0 c0_0 l0_0 a0_1 a0_2 a0_3 q _ (Kd.C_below HR0_0.out (below_step (below_alloc (Below.refl _ _) _) HB1.out)) HC0_0.out E2.out).mono ?_
    rintro e w2 ⟨rfl, hb2⟩
    have HB2 := z7_A hb2
    clear hb2
    go_wp2
    go_ret2
    exact ⟨rfl, below_step (below_step (below_alloc (Below.refl _ _) _) HB1.out) HB2.out⟩

/-! ### impl_IsContract: function 35 -/
def impl_IsContract.f (a0_0 : Int) (a0_1 : Int) (a0_2 : Int) : Option (Bool) := (impl_within.f a0_0 0 99).bind fun t207 => (if t207 = true then ((impl_within.f a0_1 0 99).bind fun t208 => (if t208 = true then ((impl_within.f a0_2 0 100).bind fun t209 => (some t209)) else (some false))) else (some false))
set_option maxHeartbeats 8000000 in
set_option maxRecDepth 100000 in
theorem impl_IsContract.calls (a0_0 : Int) (a0_1 : Int) (a0_2 : Int) (r : Bool) (w : World) (h : impl_IsContract.f a0_0 a0_1 a0_2 = some r) :
  Calls Try.prog 35 #[.agg #[.int .i64 a0_0, .int .i64 a0_1, .int .i64 a0_2]] w fun e w' => e = .returned (.bool r) ∧ Below w.heap.size w w' := by
 have hu32 := Try.underlying32
 have HB := z7_A (Below.refl w.heap.size w)
 have H : ((impl_within.f a0_0 0 99).bind fun t207 => (if t207 = true then ((impl_within.f a0_1 0 99).bind fun t208 => (if t208 = true then ((impl_within.f a0_2 0 100).bind fun t209 => (some t209)) else (some false))) else (some false))) = some r := h
 clear h
 replace H := Option.bind_eq_some_iff.mp H
 obtain ⟨t207, A20, H⟩ := H
 (try dsimp only at H)
 have A2 := z7_A A20
 clear A20
 by_cases c3 : t207 = true
 ·subst c3
  have H1 : ((impl_within.f a0_1 0 99).bind fun t208 => (if t208 = true then ((impl_within.f a0_2 0 100).bind fun t209 => (some t209)) else (some false))) = some r := z7_36
  clear H
  have H := H1
  clear H1
  replace H := Option.bind_eq_some_iff.mp H
  obtain ⟨t208, A40, H⟩ := H
  (try dsimp only at H)
  have A4 := z7_A A40
  clear A40
  by_cases c5 : t208 = true
  ·subst c5
   have H1 : ((impl_within.f a0_2 0 100).bind fun t209 => (some t209)) = some r := z7_36
   clear H
   have H := H1
   clear H1
   replace H := Option.bind_eq_some_iff.mp H
   obtain ⟨t209, A60, H⟩ := H
   (try dsimp only at H)
   have A6 := z7_A A60
   clear A60
   obtain rfl := Option.some.inj H
   go_enter Try.func35, Try.ntmps35
   go_wp2_with (first | ((with_reducible refine gate_dst (N := 1) rfl ?_); refine box_event ?hg (N := 1) ?hd (cs := #[.int .i64 a0_0, .int .i64 a0_1, .int .i64 a0_2]) (t := 32) ?hr ?_; (case hd => rfl); (case hg => rfl); (case hr => first | (go_simp; done) | (go_simp; rfl)); intro gb206 hg w7 hbox hb; have n0_ := z7_A (below_step z7_1 hb); have n1_ := z7_A (hbox); have n2_ := z7_A ((z7_11 : w.heap.size ≤ gb206)); have n3_ := z7_A ((z7_11 : w.heap.size ≤ gb206)); clear HB; revert n0_ n1_ n2_ n3_; intro HB BK206 GW206 GE206; clear hb hbox hg; have hcz8_0 : w7.cell? ⟨gb206, 0, none⟩ = some (.int .i64 a0_0) := bcz BK206.out 0 rfl; have hcz8_1 : w7.cell? ⟨gb206, 1, none⟩ = some (.int .i64 a0_1) := bcz BK206.out 1 rfl; have hcz8_2 : w7.cell? ⟨gb206, 2, none⟩ = some (.int .i64 a0_2) := bcz BK206.out 2 rfl; obtain ⟨hfz8_0, hfz8_1, hfz8_2⟩ := F3z (blk_frozen BK206.out)) | ((with_reducible refine gate_callee (f := 77) rfl ?_); refine goesL_ (some 5) rfl rfl Try.func77 z7_39 rfl #[.int .i64 a0_0, .int .i64 0, .int .i64 99] rfl z7_4 ?_; (with_reducible refine (impl_within.calls a0_0 0 99 true _ A2.out).mono ?_); rintro e w' ⟨rfl, ⟨nd, rfl⟩⟩; refine ⟨_, rfl, ?_⟩) | (go_at_call 77; (with_reducible refine (impl_within.calls a0_1 0 99 true _ A4.out).mono ?_); rintro e w' ⟨rfl, ⟨nd, rfl⟩⟩) | (go_at_call 77; (with_reducible refine (impl_within.calls a0_2 0 100 t209 _ A6.out).mono ?_); rintro e w' ⟨rfl, ⟨nd, rfl⟩⟩))
   go_ret
   exact ⟨z7_7, z7_32⟩
  ·replace c5 := Bool.eq_false_iff.mpr c5
   subst c5
   have H1 : (some false) = some r := z7_25
   clear H
   have H := H1
   clear H1
   obtain rfl := Option.some.inj H
   go_enter Try.func35, Try.ntmps35
   go_wp2_with (first | ((with_reducible refine gate_dst (N := 1) rfl ?_); refine box_event ?hg (N := 1) ?hd (cs := #[.int .i64 a0_0, .int .i64 a0_1, .int .i64 a0_2]) (t := 32) ?hr ?_; (case hd => rfl); (case hg => rfl); (case hr => first | (go_simp; done) | (go_simp; rfl)); intro gb206 hg w9 hbox hb; have n0_ := z7_A (below_step z7_1 hb); have n1_ := z7_A (hbox); have n2_ := z7_A ((z7_11 : w.heap.size ≤ gb206)); have n3_ := z7_A ((z7_11 : w.heap.size ≤ gb206)); clear HB; revert n0_ n1_ n2_ n3_; intro HB BK206 GW206 GE206; clear hb hbox hg; have hcz10_0 : w9.cell? ⟨gb206, 0, none⟩ = some (.int .i64 a0_0) := bcz BK206.out 0 rfl; have hcz10_1 : w9.cell? ⟨gb206, 1, none⟩ = some (.int .i64 a0_1) := bcz BK206.out 1 rfl; have hcz10_2 : w9.cell? ⟨gb206, 2, none⟩ = some (.int .i64 a0_2) := bcz BK206.out 2 rfl; obtain ⟨hfz10_0, hfz10_1, hfz10_2⟩ := F3z (blk_frozen BK206.out)) | ((with_reducible refine gate_callee (f := 77) rfl ?_); refine goesL_ (some 5) rfl rfl Try.func77 z7_39 rfl #[.int .i64 a0_0, .int .i64 0, .int .i64 99] rfl z7_4 ?_; (with_reducible refine (impl_within.calls a0_0 0 99 true _ A2.out).mono ?_); rintro e w' ⟨rfl, ⟨nd, rfl⟩⟩; refine ⟨_, rfl, ?_⟩) | (go_at_call 77; (with_reducible refine (impl_within.calls a0_1 0 99 false _ A4.out).mono ?_); rintro e w' ⟨rfl, ⟨nd, rfl⟩⟩))
   go_ret
   exact ⟨z7_7, z7_32⟩
 ·replace c3 := Bool.eq_false_iff.mpr c3
  subst c3
  have H1 : (some false) = some r := z7_25
  clear H
  have H := H1
  clear H1
  obtain rfl := Option.some.inj H
  go_enter Try.func35, Try.ntmps35
  go_wp2_with (first | ((with_reducible refine gate_dst (N := 1) rfl ?_); refine box_event ?hg (N := 1) ?hd (cs := #[.int .i64 a0_0, .int .i64 a0_1, .int .i64 a0_2]) (t := 32) ?hr ?_; (case hd => rfl); (case hg => rfl); (case hr => first | (go_simp; done) | (go_simp; rfl)); intro gb206 hg w11 hbox hb; have n0_ := z7_A (below_step z7_1 hb); have n1_ := z7_A (hbox); have n2_ := z7_A ((z7_11 : w.heap.size ≤ gb206)); have n3_ := z7_A ((z7_11 : w.heap.size ≤ gb206)); clear HB; revert n0_ n1_ n2_ n3_; intro HB BK206 GW206 GE206; clear hb hbox hg; have hcz12_0 : w11.cell? ⟨gb206, 0, none⟩ = some (.int .i64 a0_0) := bcz BK206.out 0 rfl; have hcz12_1 : w11.cell? ⟨gb206, 1, none⟩ = some (.int .i64 a0_1) := bcz BK206.out 1 rfl; have hcz12_2 : w11.cell? ⟨gb206, 2, none⟩ = some (.int .i64 a0_2) := bcz BK206.out 2 rfl; obtain ⟨hfz12_0, hfz12_1, hfz12_2⟩ := F3z (blk_frozen BK206.out)) | ((with_reducible refine gate_callee (f := 77) rfl ?_); refine goesL_ (some 5) rfl rfl Try.func77 z7_39 rfl #[.int .i64 a0_0, .int .i64 0, .int .i64 99] rfl z7_4 ?_; (with_reducible refine (impl_within.calls a0_0 0 99 false _ A2.out).mono ?_); rintro e w' ⟨rfl, ⟨nd, rfl⟩⟩; refine ⟨_, rfl, ?_⟩))
  go_ret
  exact ⟨z7_7, z7_32⟩

/-! ### impl_isSale: function 88 -/
def impl_isSale.f (k : Nat) (l0_0 : List Int) (a0_1 : Int) (a0_2 : Int) (a0_3 : Int) (a1 : Int) : Option (Bool) := (impl_IsMarket.f k l0_0 a0_1 a0_2 a0_3).bind fun t211 => (if t211 = true then ((impl_within.f a1 0 8).bind fun t212 => (some t212)) else (some false))
theorem impl_isSale.mono : ∀ a0 a1 a2 a3 a4 k, LeO (impl_isSale.f k a0 a1 a2 a3 a4) (impl_isSale.f (k + 1) a0 a1 a2 a3 a4) := by
 intro a0 a1 a2 a3 a4 k
 unfold impl_isSale.f
 repeat' first
   | (with_reducible exact impl_IsMarket.mono _ _ _ _ _)
   | (with_reducible exact LeO.refl _)
   | (with_reducible exact LeO.none _)
   | (with_reducible refine LeO.ite ?_ ?_)
   | (with_reducible refine LeO.bind ?_ (fun _ => ?_))
   | exact impl_IsMarket.mono _ _ _ _ _
   | exact LeO.none _
   | refine LeO.ite ?_ ?_
   | refine LeO.bind ?_ (fun _ => ?_)
set_option maxHeartbeats 8000000 in
set_option maxRecDepth 100000 in
theorem impl_isSale.calls (k : Nat) (A0_0 : Option Addr) (c0_0 : Nat) (l0_0 : List Int) (a0_1 : Int) (a0_2 : Int) (a0_3 : Int) (a1 : Int) (r : Bool) (w : World) (hr0_0 : Kd.C (Kd.int .i64) w A0_0 l0_0.length l0_0) (hc0_0 : l0_0.length ≤ c0_0) (h : impl_isSale.f k l0_0 a0_1 a0_2 a0_3 a1 = some r) :
  Calls Try.prog 88 #[.agg #[.slice A0_0 l0_0.length c0_0, .int .i64 a0_1, .int .i64 a0_2, .int .i64 a0_3], .int .i64 a1] w fun e w' => e = .returned (.bool r) ∧ Below w.heap.size w w' := by
 have hu30 := Try.underlying30
 have HR0_0 := z7_A hr0_0
 have HC0_0 := z7_A hc0_0
 clear hr0_0 hc0_0
 have HB := z7_A (Below.refl w.heap.size w)
 have H : ((impl_IsMarket.f k l0_0 a0_1 a0_2 a0_3).bind fun t211 => (if t211 = true then ((impl_within.f a1 0 8).bind fun t212 => (some t212)) else (some false))) = some r := h
 clear h
 replace H := Option.bind_eq_some_iff.mp H
 obtain ⟨t211, A30, H⟩ := H
 (try dsimp only at H)
 have A3 := z7_A A30
 clear A30
 by_cases c4 : t211 = true
 ·subst c4
  have H1 : ((impl_within.f a1 0 8).bind fun t212 => (some t212)) = some r := z7_36
  clear H
  have H := H1
  clear H1
  replace H := Option.bind_eq_some_iff.mp H
  obtain ⟨t212, A50, H⟩ := H
  (try dsimp only at H)
  have A5 := z7_A A50
  clear A50
  obtain rfl := Option.some.inj H
  go_enter Try.func88, Try.ntmps88
  go_wp2_with (first | ((with_reducible refine gate_dst (N := 2) rfl ?_); refine box_event ?hg (N := 2) ?hd (cs := #[.slice A0_0 l0_0.length c0_0, .int .i64 a0_1, .int .i64 a0_2, .int .i64 a0_3]) (t := 30) ?hr ?_; (case hd => rfl); (case hg => rfl); (case hr => first | (go_simp; done) | (go_simp; rfl)); intro gb210 hg w6 hbox hb; have n0_ := z7_A (below_step z7_1 hb); have n1_ := z7_A (hbox); have n2_ := z7_A ((z7_11 : w.heap.size ≤ gb210)); have n3_ := z7_A ((z7_11 : w.heap.size ≤ gb210)); clear HB; revert n0_ n1_ n2_ n3_; intro HB BK210 GW210 GE210; clear hb hbox hg; have hcz7_0 : w6.cell? ⟨gb210, 0, none⟩ = some (.slice A0_0 l0_0.length c0_0) := bcz BK210.out 0 rfl; have hcz7_1 : w6.cell? ⟨gb210, 1, none⟩ = some (.int .i64 a0_1) := bcz BK210.out 1 rfl; have hcz7_2 : w6.cell? ⟨gb210, 2, none⟩ = some (.int .i64 a0_2) := bcz BK210.out 2 rfl; have hcz7_3 : w6.cell? ⟨gb210, 3, none⟩ = some (.int .i64 a0_3) := bcz BK210.out 3 rfl; obtain ⟨hfz7_0, hfz7_1, hfz7_2, hfz7_3⟩ := F4z (blk_frozen BK210.out)) | ((with_reducible refine gate_callee (f := 42) rfl ?_); refine goesL_ (some 6) rfl rfl Try.func42 z7_39 rfl #[.agg #[.slice A0_0 l0_0.length c0_0, .int .i64 a0_1, .int .i64 a0_2, .int .i64 a0_3]] rfl z7_4 ?_; (with_reducible refine (impl_IsMarket.calls k _ _ l0_0 a0_1 a0_2 a0_3 true _ ?side1 ?side2 A3.out).mono ?_); (case side1 => have zh := (Kd.C_below HR0_0.out HB.out); exact z7_C); (case side2 => exact HC0_0.out); rintro e w8 ⟨rfl, hb⟩; refine ⟨_, rfl, ?_⟩; have n0_ := z7_A (blk_below (g := gb210) (o := .cells #[.slice A0_0 l0_0.length c0_0, .int .i64 a0_1, .int .i64 a0_2, .int .i64 a0_3] 30 (0, 0)) z7_42 hb); have n1_ := z7_A (below_step z7_24 hb); clear BK210 HB; revert n0_ n1_; intro BK210 HB; (try clear hb); (try clear hb2); (try clear hk); (try clear hi)) | (go_at_call 77; (with_reducible refine (impl_within.calls a1 0 8 t212 _ A5.out).mono ?_); rintro e w' ⟨rfl, ⟨nd, rfl⟩⟩))
  go_ret
  exact ⟨z7_7, z7_24⟩
 ·replace c4 := Bool.eq_false_iff.mpr c4
  subst c4
  have H1 : (some false) = some r := z7_25
  clear H
  have H := H1
  clear H1
  obtain rfl := Option.some.inj H
  go_enter Try.func88, Try.ntmps88
  go_wp2_with (first | ((with_reducible refine gate_dst (N := 2) rfl ?_); refine box_event ?hg (N := 2) ?hd (cs := #[.slice A0_0 l0_0.length c0_0, .int .i64 a0_1, .int .i64 a0_2, .int .i64 a0_3]) (t := 30) ?hr ?_; (case hd => rfl); (case hg => rfl); (case hr => first | (go_simp; done) | (go_simp; rfl)); intro gb210 hg w9 hbox hb; have n0_ := z7_A (below_step z7_1 hb); have n1_ := z7_A (hbox); have n2_ := z7_A ((z7_11 : w.heap.size ≤ gb210)); have n3_ := z7_A ((z7_11 : w.heap.size ≤ gb210)); clear HB; revert n0_ n1_ n2_ n3_; intro HB BK210 GW210 GE210; clear hb hbox hg; have hcz10_0 : w9.cell? ⟨gb210, 0, none⟩ = some (.slice A0_0 l0_0.length c0_0) := bcz BK210.out 0 rfl; have hcz10_1 : w9.cell? ⟨gb210, 1, none⟩ = some (.int .i64 a0_1) := bcz BK210.out 1 rfl; have hcz10_2 : w9.cell? ⟨gb210, 2, none⟩ = some (.int .i64 a0_2) := bcz BK210.out 2 rfl; have hcz10_3 : w9.cell? ⟨gb210, 3, none⟩ = some (.int .i64 a0_3) := bcz BK210.out 3 rfl; obtain ⟨hfz10_0, hfz10_1, hfz10_2, hfz10_3⟩ := F4z (blk_frozen BK210.out)) | ((with_reducible refine gate_callee (f := 42) rfl ?_); refine goesL_ (some 6) rfl rfl Try.func42 z7_39 rfl #[.agg #[.slice A0_0 l0_0.length c0_0, .int .i64 a0_1, .int .i64 a0_2, .int .i64 a0_3]] rfl z7_4 ?_; (with_reducible refine (impl_IsMarket.calls k _ _ l0_0 a0_1 a0_2 a0_3 false _ ?side1 ?side2 A3.out).mono ?_); (case side1 => have zh := (Kd.C_below HR0_0.out HB.out); exact z7_C); (case side2 => exact HC0_0.out); rintro e w11 ⟨rfl, hb⟩; refine ⟨_, rfl, ?_⟩; have n0_ := z7_A (blk_below (g := gb210) (o := .cells #[.slice A0_0 l0_0.length c0_0, .int .i64 a0_1, .int .i64 a0_2, .int .i64 a0_3] 30 (0, 0)) z7_42 hb); have n1_ := z7_A (below_step z7_24 hb); clear BK210 HB; revert n0_ n1_; intro BK210 HB; (try clear hb); (try clear hb2); (try clear hk); (try clear hi)))
  go_ret
  exact ⟨z7_7, z7_24⟩

/-! ### impl_SellerProfit: function 44 -/
def impl_SellerProfit.f (k : Nat) (l0_0 : List Int) (a0_1 : Int) (a0_2 : Int) (a0_3 : Int) (a1_0 : Int) (a1_1 : Int) (a1_2 : Int) (a2 : Int) : Option (Int × Bool) := (impl_isSale.f k l0_0 a0_1 a0_2 a0_3 a2).bind fun t215 => (if t215 = true then ((impl_IsContract.f a1_0 a1_1 a1_2).bind fun t216 => (if t216 = true then ((impl_Market_seller.f k l0_0 a0_1 a0_2 a0_3 a1_0 a1_1 a1_2 a2).bind fun t217 => (some (t217, true))) else (some (0, false)))) else (some (0, false)))
theorem impl_SellerProfit.mono : ∀ a0 a1 a2 a3 a4 a5 a6 a7 k, LeO (impl_SellerProfit.f k a0 a1 a2 a3 a4 a5 a6 a7) (impl_SellerProfit.f (k + 1) a0 a1 a2 a3 a4 a5 a6 a7) := by
 intro a0 a1 a2 a3 a4 a5 a6 a7 k
 unfold impl_SellerProfit.f
 repeat' first
   | (with_reducible exact impl_Market_seller.mono _ _ _ _ _ _ _ _ _)
   | (with_reducible exact impl_isSale.mono _ _ _ _ _ _)
   | (with_reducible exact LeO.refl _)
   | (with_reducible exact LeO.none _)
   | (with_reducible refine LeO.ite ?_ ?_)
   | (with_reducible refine LeO.bind ?_ (fun _ => ?_))
   | exact impl_Market_seller.mono _ _ _ _ _ _ _ _ _
   | exact impl_isSale.mono _ _ _ _ _ _
   | exact LeO.none _
   | refine LeO.ite ?_ ?_
   | refine LeO.bind ?_ (fun _ => ?_)
set_option maxHeartbeats 8000000 in
set_option maxRecDepth 100000 in
theorem impl_SellerProfit.calls (k : Nat) (A0_0 : Option Addr) (c0_0 : Nat) (l0_0 : List Int) (a0_1 : Int) (a0_2 : Int) (a0_3 : Int) (a1_0 : Int) (a1_1 : Int) (a1_2 : Int) (a2 : Int) (r1 : Int) (r2 : Bool) (w : World) (hr0_0 : Kd.C (Kd.int .i64) w A0_0 l0_0.length l0_0) (hc0_0 : l0_0.length ≤ c0_0) (h : impl_SellerProfit.f k l0_0 a0_1 a0_2 a0_3 a1_0 a1_1 a1_2 a2 = some (r1, r2)) :
  Calls Try.prog 44 #[.agg #[.slice A0_0 l0_0.length c0_0, .int .i64 a0_1, .int .i64 a0_2, .int .i64 a0_3], .agg #[.int .i64 a1_0, .int .i64 a1_1, .int .i64 a1_2], .int .i64 a2] w fun e w' => e = .returned (.tuple #[.int .i64 r1, .bool r2]) ∧ Below w.heap.size w w' := by
 have hu30 := Try.underlying30
 have hu32 := Try.underlying32
 have HR0_0 := z7_A hr0_0
 have HC0_0 := z7_A hc0_0
 clear hr0_0 hc0_0
 have HB := z7_A (Below.refl w.heap.size w)
 have H : ((impl_isSale.f k l0_0 a0_1 a0_2 a0_3 a2).bind fun t215 => (if t215 = true then ((impl_IsContract.f a1_0 a1_1 a1_2).bind fun t216 => (if t216 = true then ((impl_Market_seller.f k l0_0 a0_1 a0_2 a0_3 a1_0 a1_1 a1_2 a2).bind fun t217 => (some (t217, true))) else (some (0, false)))) else (some (0, false)))) = some (r1, r2) := h
 clear h
 replace H := Option.bind_eq_some_iff.mp H
 obtain ⟨t215, A40, H⟩ := H
 (try dsimp only at H)
 have A4 := z7_A A40
 clear A40
 by_cases c5 : t215 = true
 ·subst c5
  have H1 : ((impl_IsContract.f a1_0 a1_1 a1_2).bind fun t216 => (if t216 = true then ((impl_Market_seller.f k l0_0 a0_1 a0_2 a0_3 a1_0 a1_1 a1_2 a2).bind fun t217 => (some (t217, true))) else (some (0, false)))) = some (r1, r2) := z7_36
  clear H
  have H := H1
  clear H1
  replace H := Option.bind_eq_some_iff.mp H
  obtain ⟨t216, A60, H⟩ := H
  (try dsimp only at H)
  have A6 := z7_A A60
  clear A60
  by_cases c7 : t216 = true
  ·subst c7
   have H1 : ((impl_Market_seller.f k l0_0 a0_1 a0_2 a0_3 a1_0 a1_1 a1_2 a2).bind fun t217 => (some (t217, true))) = some (r1, r2) := z7_36
   clear H
   have H := H1
   clear H1
   replace H := Option.bind_eq_some_iff.mp H
   obtain ⟨t217, A80, H⟩ := H
   (try dsimp only at H)
   have A8 := z7_A A80
   clear A80
   simp only [Option.some.injEq, Prod.mk.injEq] at H
   obtain ⟨rfl, rfl⟩ := H
   go_enter Try.func44, Try.ntmps44
   go_wp2_with (first | ((with_reducible refine gate_dst (N := 3) rfl ?_); refine box_event ?hg (N := 3) ?hd (cs := #[.slice A0_0 l0_0.length c0_0, .int .i64 a0_1, .int .i64 a0_2, .int .i64 a0_3]) (t := 30) ?hr ?_; (case hd => rfl); (case hg => rfl); (case hr => first | (go_simp; done) | (go_simp; rfl)); intro gb213 hg w9 hbox hb; have n0_ := z7_A (below_step z7_1 hb); have n1_ := z7_A (hbox); have n2_ := z7_A ((z7_11 : w.heap.size ≤ gb213)); have n3_ := z7_A ((z7_11 : w.heap.size ≤ gb213)); clear HB; revert n0_ n1_ n2_ n3_; intro HB BK213 GW213 GE213; clear hb hbox hg) | ((with_reducible refine gate_dst (N := 4) rfl ?_); refine box_event ?hg (N := 4) ?hd (cs := #[.int .i64 a1_0, .int .i64 a1_1, .int .i64 a1_2]) (t := 32) ?hr ?_; (case hd => rfl); (case hg => rfl); (case hr => first | (go_simp; done) | (go_simp; rfl)); intro gb214 hg w10 hbox hb; have n0_ := z7_A (blk_below (g := gb213) (o := .cells #[.slice A0_0 l0_0.length c0_0, .int .i64 a0_1, .int .i64 a0_2, .int .i64 a0_3] 30 (0, 0)) z7_5 hb); have n1_ := z7_A (below_step z7_10 hb); have n2_ := z7_A (hbox); have n3_ := z7_A ((z7_41 : w.heap.size ≤ gb214)); have n4_ := z7_A ((z7_41 : w.heap.size ≤ gb214)); have n5_ := z7_A ((z7_33 : gb213 ≠ gb214)); have n6_ := z7_A ((z7_34 : gb214 ≠ gb213)); clear BK213 HB; revert n0_ n1_ n2_ n3_ n4_ n5_ n6_; intro BK213 HB BK214 GW214 GE214 NB213_214 NB214_213; clear hb hbox hg; have hnb11 := NB213_214.out; have hnc11 := NB214_213.out; have hcz12_0 : w10.cell? ⟨gb213, 0, none⟩ = some (.slice A0_0 l0_0.length c0_0) := bcz BK213.out 0 rfl; have hcz12_1 : w10.cell? ⟨gb213, 1, none⟩ = some (.int .i64 a0_1) := bcz BK213.out 1 rfl; have hcz12_2 : w10.cell? ⟨gb213, 2, none⟩ = some (.int .i64 a0_2) := bcz BK213.out 2 rfl; have hcz12_3 : w10.cell? ⟨gb213, 3, none⟩ = some (.int .i64 a0_3) := bcz BK213.out 3 rfl; obtain ⟨hfz12_0, hfz12_1, hfz12_2, hfz12_3⟩ := F4z (blk_frozen BK213.out)) | ((with_reducible refine gate_callee (f := 88) rfl ?_); refine goesL_ (some 10) rfl rfl Try.func88 z7_39 rfl #[.agg #[.slice A0_0 l0_0.length c0_0, .int .i64 a0_1, .int .i64 a0_2, .int .i64 a0_3], .int .i64 a2] rfl z7_4 ?_; (with_reducible refine (impl_isSale.calls k _ _ l0_0 a0_1 a0_2 a0_3 a2 true _ ?side1 ?side2 A4.out).mono ?_); (case side1 => have zh := (Kd.C_below HR0_0.out HB.out); exact z7_C); (case side2 => exact HC0_0.out); rintro e w13 ⟨rfl, hb⟩; refine ⟨_, rfl, ?_⟩; have n0_ := z7_A (blk_below (g := gb213) (o := .cells #[.slice A0_0 l0_0.length c0_0, .int .i64 a0_1, .int .i64 a0_2, .int .i64 a0_3] 30 (0, 0)) z7_5 hb); have n1_ := z7_A (blk_below (g := gb214) (o := .cells #[.int .i64 a1_0, .int .i64 a1_1, .int .i64 a1_2] 32 (0, 0)) z7_21 hb); have n2_ := z7_A (below_step z7_6 hb); clear BK213 BK214 HB; revert n0_ n1_ n2_; intro BK213 BK214 HB; (try clear hb); (try clear hb2); (try clear hk); (try clear hi); have hcz14_0 : w13.cell? ⟨gb214, 0, none⟩ = some (.int .i64 a1_0) := bcz BK214.out 0 rfl; have hcz14_1 : w13.cell? ⟨gb214, 1, none⟩ = some (.int .i64 a1_1) := bcz BK214.out 1 rfl; have hcz14_2 : w13.cell? ⟨gb214, 2, none⟩ = some (.int .i64 a1_2) := bcz BK214.out 2 rfl; obtain ⟨hfz14_0, hfz14_1, hfz14_2⟩ := F3z (blk_frozen BK214.out)) | (go_at_call 35; (with_reducible refine (impl_IsContract.calls a1_0 a1_1 a1_2 true _ A6.out).mono ?_); rintro e w15 ⟨rfl, hb⟩; have n0_ := z7_A (blk_below (g := gb213) (o := .cells #[.slice A0_0 l0_0.length c0_0, .int .i64 a0_1, .int .i64 a0_2, .int .i64 a0_3] 30 (0, 0)) z7_5 hb); have n1_ := z7_A (blk_below (g := gb214) (o := .cells #[.int .i64 a1_0, .int .i64 a1_1, .int .i64 a1_2] 32 (0, 0)) z7_21 hb); have n2_ := z7_A (below_step z7_6 hb); clear BK213 BK214 HB; revert n0_ n1_ n2_; intro BK213 BK214 HB; (try clear hb); (try clear hb2); (try clear hk); (try clear hi); have hcz16_0 : w15.cell? ⟨gb213, 0, none⟩ = some (.slice A0_0 l0_0.length c0_0) := bcz BK213.out 0 rfl; have hcz16_1 : w15.cell? ⟨gb213, 1, none⟩ = some (.int .i64 a0_1) := bcz BK213.out 1 rfl; have hcz16_2 : w15.cell? ⟨gb213, 2, none⟩ = some (.int .i64 a0_2) := bcz BK213.out 2 rfl; have hcz16_3 : w15.cell? ⟨gb213, 3, none⟩ = some (.int .i64 a0_3) := bcz BK213.out 3 rfl; obtain ⟨hfz16_0, hfz16_1, hfz16_2, hfz16_3⟩ := F4z (blk_frozen BK213.out); have hcz17_0 : w15.cell? ⟨gb214, 0, none⟩ = some (.int .i64 a1_0) := bcz BK214.out 0 rfl; have hcz17_1 : w15.cell? ⟨gb214, 1, none⟩ = some (.int .i64 a1_1) := bcz BK214.out 1 rfl; have hcz17_2 : w15.cell? ⟨gb214, 2, none⟩ = some (.int .i64 a1_2) := bcz BK214.out 2 rfl; obtain ⟨hfz17_0, hfz17_1, hfz17_2⟩ := F3z (blk_frozen BK214.out)) | ((with_reducible refine gate_callee (f := 89) rfl ?_); refine goesL_ (some 20) rfl rfl Try.func89 z7_39 rfl #[.agg #[.slice A0_0 l0_0.length c0_0, .int .i64 a0_1, .int .i64 a0_2, .int .i64 a0_3], .agg #[.int .i64 a1_0, .int .i64 a1_1, .int .i64 a1_2], .int .i64 a2] rfl z7_4 ?_; (with_reducible refine (impl_Market_seller.calls k _ _ l0_0 a0_1 a0_2 a0_3 a1_0 a1_1 a1_2 a2 t217 _ ?side1 ?side2 A8.out).mono ?_); (case side1 => have zh := (Kd.C_below HR0_0.out HB.out); exact z7_C); (case side2 => exact HC0_0.out); rintro e w18 ⟨rfl, hb⟩; refine ⟨_, rfl, ?_⟩; have n0_ := z7_A (blk_below (g := gb213) (o := .cells #[.slice A0_0 l0_0.length c0_0, .int .i64 a0_1, .int .i64 a0_2, .int .i64 a0_3] 30 (0, 0)) z7_5 hb); have n1_ := z7_A (blk_below (g := gb214) (o := .cells #[.int .i64 a1_0, .int .i64 a1_1, .int .i64 a1_2] 32 (0, 0)) z7_21 hb); have n2_ := z7_A (below_step z7_6 hb); clear BK213 BK214 HB; revert n0_ n1_ n2_; intro BK213 BK214 HB; (try clear hb); (try clear hb2); (try clear hk); (try clear hi)))
   go_ret2
   exact ⟨z7_7, z7_6⟩
  ·replace c7 := Bool.eq_false_iff.mpr c7
   subst c7
   have H1 : (some (0, false)) = some (r1, r2) := z7_25
   clear H
   have H := H1
   clear H1
   simp only [Option.some.injEq, Prod.mk.injEq] at H
   obtain ⟨rfl, rfl⟩ := H
   go_enter Try.func44, Try.ntmps44
   go_wp2_with (first | ((with_reducible refine gate_dst (N := 3) rfl ?_); refine box_event ?hg (N := 3) ?hd (cs := #[.slice A0_0 l0_0.length c0_0, .int .i64 a0_1, .int .i64 a0_2, .int .i64 a0_3]) (t := 30) ?hr ?_; (case hd => rfl); (case hg => rfl); (case hr => first | (go_simp; done) | (go_simp; rfl)); intro gb213 hg w19 hbox hb; have n0_ := z7_A (below_step z7_1 hb); have n1_ := z7_A (hbox); have n2_ := z7_A ((z7_11 : w.heap.size ≤ gb213)); have n3_ := z7_A ((z7_11 : w.heap.size ≤ gb213)); clear HB; revert n0_ n1_ n2_ n3_; intro HB BK213 GW213 GE213; clear hb hbox hg) | ((with_reducible refine gate_dst (N := 4) rfl ?_); refine box_event ?hg (N := 4) ?hd (cs := #[.int .i64 a1_0, .int .i64 a1_1, .int .i64 a1_2]) (t := 32) ?hr ?_; (case hd => rfl); (case hg => rfl); (case hr => first | (go_simp; done) | (go_simp; rfl)); intro gb214 hg w20 hbox hb; have n0_ := z7_A (blk_below (g := gb213) (o := .cells #[.slice A0_0 l0_0.length c0_0, .int .i64 a0_1, .int .i64 a0_2, .int .i64 a0_3] 30 (0, 0)) z7_5 hb); have n1_ := z7_A (below_step z7_10 hb); have n2_ := z7_A (hbox); have n3_ := z7_A ((z7_41 : w.heap.size ≤ gb214)); have n4_ := z7_A ((z7_41 : w.heap.size ≤ gb214)); have n5_ := z7_A ((z7_33 : gb213 ≠ gb214)); have n6_ := z7_A ((z7_34 : gb214 ≠ gb213)); clear BK213 HB; revert n0_ n1_ n2_ n3_ n4_ n5_ n6_; intro BK213 HB BK214 GW214 GE214 NB213_214 NB214_213; clear hb hbox hg; have hnb21 := NB213_214.out; have hnc21 := NB214_213.out; have hcz22_0 : w20.cell? ⟨gb213, 0, none⟩ = some (.slice A0_0 l0_0.length c0_0) := bcz BK213.out 0 rfl; have hcz22_1 : w20.cell? ⟨gb213, 1, none⟩ = some (.int .i64 a0_1) := bcz BK213.out 1 rfl; have hcz22_2 : w20.cell? ⟨gb213, 2, none⟩ = some (.int .i64 a0_2) := bcz BK213.out 2 rfl; have hcz22_3 : w20.cell? ⟨gb213, 3, none⟩ = some (.int .i64 a0_3) := bcz BK213.out 3 rfl; obtain ⟨hfz22_0, hfz22_1, hfz22_2, hfz22_3⟩ := F4z (blk_frozen BK213.out)) | ((with_reducible refine gate_callee (f := 88) rfl ?_); refine goesL_ (some 10) rfl rfl Try.func88 z7_39 rfl #[.agg #[.slice A0_0 l0_0.length c0_0, .int .i64 a0_1, .int .i64 a0_2, .int .i64 a0_3], .int .i64 a2] rfl z7_4 ?_; (with_reducible refine (impl_isSale.calls k _ _ l0_0 a0_1 a0_2 a0_3 a2 true _ ?side1 ?side2 A4.out).mono ?_); (case side1 => have zh := (Kd.C_below HR0_0.out HB.out); exact z7_C); (case side2 => exact HC0_0.out); rintro e w23 ⟨rfl, hb⟩; refine ⟨_, rfl, ?_⟩; have n0_ := z7_A (blk_below (g := gb213) (o := .cells #[.slice A0_0 l0_0.length c0_0, .int .i64 a0_1, .int .i64 a0_2, .int .i64 a0_3] 30 (0, 0)) z7_5 hb); have n1_ := z7_A (blk_below (g := gb214) (o := .cells #[.int .i64 a1_0, .int .i64 a1_1, .int .i64 a1_2] 32 (0, 0)) z7_21 hb); have n2_ := z7_A (below_step z7_6 hb); clear BK213 BK214 HB; revert n0_ n1_ n2_; intro BK213 BK214 HB; (try clear hb); (try clear hb2); (try clear hk); (try clear hi); have hcz24_0 : w23.cell? ⟨gb214, 0, none⟩ = some (.int .i64 a1_0) := bcz BK214.out 0 rfl; have hcz24_1 : w23.cell? ⟨gb214, 1, none⟩ = some (.int .i64 a1_1) := bcz BK214.out 1 rfl; have hcz24_2 : w23.cell? ⟨gb214, 2, none⟩ = some (.int .i64 a1_2) := bcz BK214.out 2 rfl; obtain ⟨hfz24_0, hfz24_1, hfz24_2⟩ := F3z (blk_frozen BK214.out)) | (go_at_call 35; (with_reducible refine (impl_IsContract.calls a1_0 a1_1 a1_2 false _ A6.out).mono ?_); rintro e w25 ⟨rfl, hb⟩; have n0_ := z7_A (blk_below (g := gb213) (o := .cells #[.slice A0_0 l0_0.length c0_0, .int .i64 a0_1, .int .i64 a0_2, .int .i64 a0_3] 30 (0, 0)) z7_5 hb); have n1_ := z7_A (blk_below (g := gb214) (o := .cells #[.int .i64 a1_0, .int .i64 a1_1, .int .i64 a1_2] 32 (0, 0)) z7_21 hb); have n2_ := z7_A (below_step z7_6 hb); clear BK213 BK214 HB; revert n0_ n1_ n2_; intro BK213 BK214 HB; (try clear hb); (try clear hb2); (try clear hk); (try clear hi)))
   go_ret2
   exact ⟨z7_7, z7_6⟩
 ·replace c5 := Bool.eq_false_iff.mpr c5
  subst c5
  have H1 : (some (0, false)) = some (r1, r2) := z7_25
  clear H
  have H := H1
  clear H1
  simp only [Option.some.injEq, Prod.mk.injEq] at H
  obtain ⟨rfl, rfl⟩ := H
  go_enter Try.func44, Try.ntmps44
  go_wp2_with (first | ((with_reducible refine gate_dst (N := 3) rfl ?_); refine box_event ?hg (N := 3) ?hd (cs := #[.slice A0_0 l0_0.length c0_0, .int .i64 a0_1, .int .i64 a0_2, .int .i64 a0_3]) (t := 30) ?hr ?_; (case hd => rfl); (case hg => rfl); (case hr => first | (go_simp; done) | (go_simp; rfl)); intro gb213 hg w26 hbox hb; have n0_ := z7_A (below_step z7_1 hb); have n1_ := z7_A (hbox); have n2_ := z7_A ((z7_11 : w.heap.size ≤ gb213)); have n3_ := z7_A ((z7_11 : w.heap.size ≤ gb213)); clear HB; revert n0_ n1_ n2_ n3_; intro HB BK213 GW213 GE213; clear hb hbox hg) | ((with_reducible refine gate_dst (N := 4) rfl ?_); refine box_event ?hg (N := 4) ?hd (cs := #[.int .i64 a1_0, .int .i64 a1_1, .int .i64 a1_2]) (t := 32) ?hr ?_; (case hd => rfl); (case hg => rfl); (case hr => first | (go_simp; done) | (go_simp; rfl)); intro gb214 hg w27 hbox hb; have n0_ := z7_A (blk_below (g := gb213) (o := .cells #[.slice A0_0 l0_0.length c0_0, .int .i64 a0_1, .int .i64 a0_2, .int .i64 a0_3] 30 (0, 0)) z7_5 hb); have n1_ := z7_A (below_step z7_10 hb); have n2_ := z7_A (hbox); have n3_ := z7_A ((z7_41 : w.heap.size ≤ gb214)); have n4_ := z7_A ((z7_41 : w.heap.size ≤ gb214)); have n5_ := z7_A ((z7_33 : gb213 ≠ gb214)); have n6_ := z7_A ((z7_34 : gb214 ≠ gb213)); clear BK213 HB; revert n0_ n1_ n2_ n3_ n4_ n5_ n6_; intro BK213 HB BK214 GW214 GE214 NB213_214 NB214_213; clear hb hbox hg; have hnb28 := NB213_214.out; have hnc28 := NB214_213.out; have hcz29_0 : w27.cell? ⟨gb213, 0, none⟩ = some (.slice A0_0 l0_0.length c0_0) := bcz BK213.out 0 rfl; have hcz29_1 : w27.cell? ⟨gb213, 1, none⟩ = some (.int .i64 a0_1) := bcz BK213.out 1 rfl; have hcz29_2 : w27.cell? ⟨gb213, 2, none⟩ = some (.int .i64 a0_2) := bcz BK213.out 2 rfl; have hcz29_3 : w27.cell? ⟨gb213, 3, none⟩ = some (.int .i64 a0_3) := bcz BK213.out 3 rfl; obtain ⟨hfz29_0, hfz29_1, hfz29_2, hfz29_3⟩ := F4z (blk_frozen BK213.out)) | ((with_reducible refine gate_callee (f := 88) rfl ?_); refine goesL_ (some 10) rfl rfl Try.func88 z7_39 rfl #[.agg #[.slice A0_0 l0_0.length c0_0, .int .i64 a0_1, .int .i64 a0_2, .int .i64 a0_3], .int .i64 a2] rfl z7_4 ?_; (with_reducible refine (impl_isSale.calls k _ _ l0_0 a0_1 a0_2 a0_3 a2 false _ ?side1 ?side2 A4.out).mono ?_); (case side1 => have zh := (Kd.C_below HR0_0.out HB.out); exact z7_C); (case side2 => exact HC0_0.out); rintro e w30 ⟨rfl, hb⟩; refine ⟨_, rfl, ?_⟩; have n0_ := z7_A (blk_below (g := gb213) (o := .cells #[.slice A0_0 l0_0.length c0_0, .int .i64 a0_1, .int .i64 a0_2, .int .i64 a0_3] 30 (0, 0)) z7_5 hb); have n1_ := z7_A (blk_below (g := gb214) (o := .cells #[.int .i64 a1_0, .int .i64 a1_1, .int .i64 a1_2] 32 (0, 0)) z7_21 hb); have n2_ := z7_A (below_step z7_6 hb); clear BK213 BK214 HB; revert n0_ n1_ n2_; intro BK213 BK214 HB; (try clear hb); (try clear hb2); (try clear hk); (try clear hi)))
  go_ret2
  exact ⟨z7_7, z7_6⟩

/-! ### impl_JointProfit: function 45 -/
def impl_JointProfit.f (k : Nat) (l0_0 : List Int) (a0_1 : Int) (a0_2 : Int) (a0_3 : Int) (a1 : Int) : Option (Int × Bool) := (impl_isSale.f k l0_0 a0_1 a0_2 a0_3 a1).bind fun t219 => (if t219 = true then ((impl_Market_joint.f k l0_0 a0_1 a0_2 a0_3 a1).bind fun t220 => (some (t220, true))) else (some (0, false)))
theorem impl_JointProfit.mono : ∀ a0 a1 a2 a3 a4 k, LeO (impl_JointProfit.f k a0 a1 a2 a3 a4) (impl_JointProfit.f (k + 1) a0 a1 a2 a3 a4) := by
 intro a0 a1 a2 a3 a4 k
 unfold impl_JointProfit.f
 repeat' first
   | (with_reducible exact impl_Market_joint.mono _ _ _ _ _ _)
   | (with_reducible exact impl_isSale.mono _ _ _ _ _ _)
   | (with_reducible exact LeO.refl _)
   | (with_reducible exact LeO.none _)
   | (with_reducible refine LeO.ite ?_ ?_)
   | (with_reducible refine LeO.bind ?_ (fun _ => ?_))
   | exact impl_Market_joint.mono _ _ _ _ _ _
   | exact impl_isSale.mono _ _ _ _ _ _
   | exact LeO.none _
   | refine LeO.ite ?_ ?_
   | refine LeO.bind ?_ (fun _ => ?_)
set_option maxHeartbeats 8000000 in
set_option maxRecDepth 100000 in
theorem impl_JointProfit.calls (k : Nat) (A0_0 : Option Addr) (c0_0 : Nat) (l0_0 : List Int) (a0_1 : Int) (a0_2 : Int) (a0_3 : Int) (a1 : Int) (r1 : Int) (r2 : Bool) (w : World) (hr0_0 : Kd.C (Kd.int .i64) w A0_0 l0_0.length l0_0) (hc0_0 : l0_0.length ≤ c0_0) (h : impl_JointProfit.f k l0_0 a0_1 a0_2 a0_3 a1 = some (r1, r2)) :
  Calls Try.prog 45 #[.agg #[.slice A0_0 l0_0.length c0_0, .int .i64 a0_1, .int .i64 a0_2, .int .i64 a0_3], .int .i64 a1] w fun e w' => e = .returned (.tuple #[.int .i64 r1, .bool r2]) ∧ Below w.heap.size w w' := by
 have hu30 := Try.underlying30
 have HR0_0 := z7_A hr0_0
 have HC0_0 := z7_A hc0_0
 clear hr0_0 hc0_0
 have HB := z7_A (Below.refl w.heap.size w)
 have H : ((impl_isSale.f k l0_0 a0_1 a0_2 a0_3 a1).bind fun t219 => (if t219 = true then ((impl_Market_joint.f k l0_0 a0_1 a0_2 a0_3 a1).bind fun t220 => (some (t220, true))) else (some (0, false)))) = some (r1, r2) := h
 clear h
 replace H := Option.bind_eq_some_iff.mp H
 obtain ⟨t219, A30, H⟩ := H
 (try dsimp only at H)
 have A3 := z7_A A30
 clear A30
 by_cases c4 : t219 = true
 ·subst c4
  have H1 : ((impl_Market_joint.f k l0_0 a0_1 a0_2 a0_3 a1).bind fun t220 => (some (t220, true))) = some (r1, r2) := z7_36
  clear H
  have H := H1
  clear H1
  replace H := Option.bind_eq_some_iff.mp H
  obtain ⟨t220, A50, H⟩ := H
  (try dsimp only at H)
  have A5 := z7_A A50
  clear A50
  simp only [Option.some.injEq, Prod.mk.injEq] at H
  obtain ⟨rfl, rfl⟩ := H
  go_enter Try.func45, Try.ntmps45
  go_wp2_with (first | ((with_reducible refine gate_dst (N := 2) rfl ?_); refine box_event ?hg (N := 2) ?hd (cs := #[.slice A0_0 l0_0.length c0_0, .int .i64 a0_1, .int .i64 a0_2, .int .i64 a0_3]) (t := 30) ?hr ?_; (case hd => rfl); (case hg => rfl); (case hr => first | (go_simp; done) | (go_simp; rfl)); intro gb218 hg w6 hbox hb; have n0_ := z7_A (below_step z7_1 hb); have n1_ := z7_A (hbox); have n2_ := z7_A ((z7_11 : w.heap.size ≤ gb218)); have n3_ := z7_A ((z7_11 : w.heap.size ≤ gb218)); clear HB; revert n0_ n1_ n2_ n3_; intro HB BK218 GW218 GE218; clear hb hbox hg; have hcz7_0 : w6.cell? ⟨gb218, 0, none⟩ = some (.slice A0_0 l0_0.length c0_0) := bcz BK218.out 0 rfl; have hcz7_1 : w6.cell? ⟨gb218, 1, none⟩ = some (.int .i64 a0_1) := bcz BK218.out 1 rfl; have hcz7_2 : w6.cell? ⟨gb218, 2, none⟩ = some (.int .i64 a0_2) := bcz BK218.out 2 rfl; have hcz7_3 : w6.cell? ⟨gb218, 3, none⟩ = some (.int .i64 a0_3) := bcz BK218.out 3 rfl; obtain ⟨hfz7_0, hfz7_1, hfz7_2, hfz7_3⟩ := F4z (blk_frozen BK218.out)) | ((with_reducible refine gate_callee (f := 88) rfl ?_); refine goesL_ (some 8) rfl rfl Try.func88 z7_39 rfl #[.agg #[.slice A0_0 l0_0.length c0_0, .int .i64 a0_1, .int .i64 a0_2, .int .i64 a0_3], .int .i64 a1] rfl z7_4 ?_; (with_reducible refine (impl_isSale.calls k _ _ l0_0 a0_1 a0_2 a0_3 a1 true _ ?side1 ?side2 A3.out).mono ?_); (case side1 => have zh := (Kd.C_below HR0_0.out HB.out); exact z7_C); (case side2 => exact HC0_0.out); rintro e w8 ⟨rfl, hb⟩; refine ⟨_, rfl, ?_⟩; have n0_ := z7_A (blk_below (g := gb218) (o := .cells #[.slice A0_0 l0_0.length c0_0, .int .i64 a0_1, .int .i64 a0_2, .int .i64 a0_3] 30 (0, 0)) z7_37 hb); have n1_ := z7_A (below_step z7_20 hb); clear BK218 HB; revert n0_ n1_; intro BK218 HB; (try clear hb); (try clear hb2); (try clear hk); (try clear hi); have hcz9_0 : w8.cell? ⟨gb218, 0, none⟩ = some (.slice A0_0 l0_0.length c0_0) := bcz BK218.out 0 rfl; have hcz9_1 : w8.cell? ⟨gb218, 1, none⟩ = some (.int .i64 a0_1) := bcz BK218.out 1 rfl; have hcz9_2 : w8.cell? ⟨gb218, 2, none⟩ = some (.int .i64 a0_2) := bcz BK218.out 2 rfl; have hcz9_3 : w8.cell? ⟨gb218, 3, none⟩ = some (.int .i64 a0_3) := bcz BK218.out 3 rfl; obtain ⟨hfz9_0, hfz9_1, hfz9_2, hfz9_3⟩ := F4z (blk_frozen BK218.out)) | ((with_reducible refine gate_callee (f := 87) rfl ?_); refine goesL_ (some 12) rfl rfl Try.func87 z7_39 rfl #[.agg #[.slice A0_0 l0_0.length c0_0, .int .i64 a0_1, .int .i64 a0_2, .int .i64 a0_3], .int .i64 a1] rfl z7_4 ?_; (with_reducible refine (impl_Market_joint.calls k _ _ l0_0 a0_1 a0_2 a0_3 a1 t220 _ ?side1 ?side2 A5.out).mono ?_); (case side1 => have zh := (Kd.C_below HR0_0.out HB.out); exact z7_C); (case side2 => exact HC0_0.out); rintro e w10 ⟨rfl, hb⟩; refine ⟨_, rfl, ?_⟩; have n0_ := z7_A (blk_below (g := gb218) (o := .cells #[.slice A0_0 l0_0.length c0_0, .int .i64 a0_1, .int .i64 a0_2, .int .i64 a0_3] 30 (0, 0)) z7_37 hb); have n1_ := z7_A (below_step z7_20 hb); clear BK218 HB; revert n0_ n1_; intro BK218 HB; (try clear hb); (try clear hb2); (try clear hk); (try clear hi)))
  go_ret2
  exact ⟨z7_7, z7_20⟩
 ·replace c4 := Bool.eq_false_iff.mpr c4
  subst c4
  have H1 : (some (0, false)) = some (r1, r2) := z7_25
  clear H
  have H := H1
  clear H1
  simp only [Option.some.injEq, Prod.mk.injEq] at H
  obtain ⟨rfl, rfl⟩ := H
  go_enter Try.func45, Try.ntmps45
  go_wp2_with (first | ((with_reducible refine gate_dst (N := 2) rfl ?_); refine box_event ?hg (N := 2) ?hd (cs := #[.slice A0_0 l0_0.length c0_0, .int .i64 a0_1, .int .i64 a0_2, .int .i64 a0_3]) (t := 30) ?hr ?_; (case hd => rfl); (case hg => rfl); (case hr => first | (go_simp; done) | (go_simp; rfl)); intro gb218 hg w11 hbox hb; have n0_ := z7_A (below_step z7_1 hb); have n1_ := z7_A (hbox); have n2_ := z7_A ((z7_11 : w.heap.size ≤ gb218)); have n3_ := z7_A ((z7_11 : w.heap.size ≤ gb218)); clear HB; revert n0_ n1_ n2_ n3_; intro HB BK218 GW218 GE218; clear hb hbox hg; have hcz12_0 : w11.cell? ⟨gb218, 0, none⟩ = some (.slice A0_0 l0_0.length c0_0) := bcz BK218.out 0 rfl; have hcz12_1 : w11.cell? ⟨gb218, 1, none⟩ = some (.int .i64 a0_1) := bcz BK218.out 1 rfl; have hcz12_2 : w11.cell? ⟨gb218, 2, none⟩ = some (.int .i64 a0_2) := bcz BK218.out 2 rfl; have hcz12_3 : w11.cell? ⟨gb218, 3, none⟩ = some (.int .i64 a0_3) := bcz BK218.out 3 rfl; obtain ⟨hfz12_0, hfz12_1, hfz12_2, hfz12_3⟩ := F4z (blk_frozen BK218.out)) | ((with_reducible refine gate_callee (f := 88) rfl ?_); refine goesL_ (some 8) rfl rfl Try.func88 z7_39 rfl #[.agg #[.slice A0_0 l0_0.length c0_0, .int .i64 a0_1, .int .i64 a0_2, .int .i64 a0_3], .int .i64 a1] rfl z7_4 ?_; (with_reducible refine (impl_isSale.calls k _ _ l0_0 a0_1 a0_2 a0_3 a1 false _ ?side1 ?side2 A3.out).mono ?_); (case side1 => have zh := (Kd.C_below HR0_0.out HB.out); exact z7_C); (case side2 => exact HC0_0.out); rintro e w13 ⟨rfl, hb⟩; refine ⟨_, rfl, ?_⟩; have n0_ := z7_A (blk_below (g := gb218) (o := .cells #[.slice A0_0 l0_0.length c0_0, .int .i64 a0_1, .int .i64 a0_2, .int .i64 a0_3] 30 (0, 0)) z7_37 hb); have n1_ := z7_A (below_step z7_20 hb); clear BK218 HB; revert n0_ n1_; intro BK218 HB; (try clear hb); (try clear hb2); (try clear hk); (try clear hi)))
  go_ret2
  exact ⟨z7_7, z7_20⟩

end Go.Proofs.Ytiniocecpgjikaa.PFnProfits
