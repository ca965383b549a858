-- A text of this session (its program hook.py, over the kit's print.py): not a print of print.sh
-- THIN: one blank for two
import Derived.Test.YtiniocecpgjikaaPFnProfitsx0
import Derived.Test.YtiniocecpgjikaaPFnProfitsx4
import Derived.Test.YtiniocecpgjikaaPFnProfitsx5
import Derived.Test.YtiniocecpgjikaaPFnProfitsx13
namespace Go.Proofs.Ytiniocecpgjikaa.PFnProfits
open Go.RowKit Go.Proofs.YtiniocecpgjikaaW.PrintWords Go.Proofs.YtiniocecpgjikaaW.PrintLast Go.Proofs.YtiniocecpgjikaaW.PrintMore
attribute [local go_sem] max2_int min2_int max_two min_two max_three min_three max_four min_four   -- for this text's walks alone
set_option linter.unusedVariables false
set_option linter.unusedSimpArgs false

-- SQUEEZED
private theorem bcz {w : World} {g : Nat} {t : TypeId} {cs : Array Value} (h : w.heap[g]? = some (.cells cs t (0, 0))) (i : Nat) {v : Value} (e : cs[i]? = some v) : w.cell? ⟨g, i, none⟩ = some v := (blk_cell h i).trans e
private theorem F4z {P : Nat → Prop} (h : ∀ i, P i) : P 0 ∧ P 1 ∧ P 2 ∧ P 3 := ⟨h 0, h 1, h 2, h 3⟩
theorem z14_A {p : Prop} (h : p) : Aside0 p := Aside0.mk h
theorem z14_C {p : Prop} (h : p := by repeat (first | exact zh | (with_reducible refine Kd.C_alloc ?_ _) | (with_reducible refine Kd.C_drewN ?_ _) | (with_reducible refine Kd.C_drew ?_))) : p := h
theorem z14_1 {p : Prop} (h : p := by repeat (first | (with_reducible first | exact HB.out | apply below_alloc | apply pw_below_drewN | apply below_drew1 | refine below_set ?_ GE438.out) | exact HB.out)) : p := h
theorem z14_2 {p : Prop} (h : p := by (with_reducible repeat (first | refine blk_drewN ?_ _ | refine blk_drew ?_ | refine blk_alloc ?_ _)); exact BK438.out) : p := h
theorem z14_3 {p : Prop} (h : p := by (try simp only [List.map_toArray, List.map_cons, List.map_nil]); first | done | rfl | (simp only [List.length_drop, List.length_take]; rfl)) : p := h
theorem z14_4 {p : Prop} (h : p := by kernel_rfl) : p := h
theorem z14_5 {p : Prop} (h : p := by repeat (first | (with_reducible first | exact HB.out | apply below_alloc | apply pw_below_drewN | apply below_drew1) | exact HB.out)) : p := h
theorem z14_6 {p : Prop} (h : p := by rfl) : p := h
theorem z14_7 {p : Prop} (h : p := by first | rfl | (simp; done) | (simp [*]; done)) : p := h
theorem z14_8 {p : Prop} (h : p := by first | rfl | (simp [errW_none, errW_some] <;> rfl) | (simp [*, errW_none, errW_some] <;> rfl)) : p := h

/-! ### impl_QuotientOrder: function 57 -/
mutual
def impl_QuotientOrder.j0 : Nat → Bool → List Int → Int → Int → Int → Option (Int × Bool)
 | 0, _, _, _, _, _ => none
 | k + 1, x14, x439000, x439001, x439002, x439003 => if x14 = true then (some (0, false)) else (impl_QuotientOrder.l0 k 0 x439000 x439001 x439002 x439003)
def impl_QuotientOrder.l0 : Nat → Int → List Int → Int → Int → Int → Option (Int × Bool)
 | 0, _, _, _, _, _ => none
 | k + 1, x4, x439000, x439001, x439002, x439003 => (impl_upTo.f k x439000 x4).bind fun t440 => ((impl_total.f k x439000).bind fun t441 => (if (wrap64 (t440 * (wrap64 (x439001 - x439003)))) < (wrap64 (t441 * (wrap64 (x439001 - x439002)))) then (impl_QuotientOrder.l0 k (wrap64 (x4 + 1)) x439000 x439001 x439002 x439003) else (some (x4, true))))
end
def impl_QuotientOrder.f (k : Nat) (l0_0 : List Int) (a0_1 : Int) (a0_2 : Int) (a0_3 : Int) : Option (Int × Bool) := (impl_IsMarket.f k l0_0 a0_1 a0_2 a0_3).bind fun t439 => (if t439 = true then (impl_QuotientOrder.j0 k (a0_1 == a0_3) l0_0 a0_1 a0_2 a0_3) else (impl_QuotientOrder.j0 k true l0_0 a0_1 a0_2 a0_3))
theorem impl_QuotientOrder.mono_l : ∀ k, (∀ y0 y1 y2 y3 y4, LeO (impl_QuotientOrder.j0 k y0 y1 y2 y3 y4) (impl_QuotientOrder.j0 (k + 1) y0 y1 y2 y3 y4)) ∧ (∀ y0 y1 y2 y3 y4, LeO (impl_QuotientOrder.l0 k y0 y1 y2 y3 y4) (impl_QuotientOrder.l0 (k + 1) y0 y1 y2 y3 y4))
 | 0 => ⟨fun _ _ _ _ _ r h => by simp [impl_QuotientOrder.j0] at h, fun _ _ _ _ _ r h => by simp [impl_QuotientOrder.l0] at h⟩
 | k + 1 => by
  obtain ⟨ih0, ih1⟩ := impl_QuotientOrder.mono_l k
  refine ⟨?_, ?_⟩ <;> intros <;> (first | unfold impl_QuotientOrder.j0 | unfold impl_QuotientOrder.l0) <;> repeat' first
    | (with_reducible exact ih0 _ _ _ _ _)
    | (with_reducible exact ih1 _ _ _ _ _)
    | (with_reducible exact impl_IsMarket.mono _ _ _ _ _)
    | (with_reducible exact impl_total.mono _ _)
    | (with_reducible exact impl_upTo.mono _ _ _)
    | (with_reducible exact LeO.refl _)
    | (with_reducible exact LeO.none _)
    | (with_reducible refine LeO.ite ?_ ?_)
    | (with_reducible refine LeO.bind ?_ (fun _ => ?_))
    | exact ih0 _ _ _ _ _
    | exact ih1 _ _ _ _ _
    | exact impl_IsMarket.mono _ _ _ _ _
    | exact impl_total.mono _ _
    | exact impl_upTo.mono _ _ _
    | exact LeO.none _
    | refine LeO.ite ?_ ?_
    | refine LeO.bind ?_ (fun _ => ?_)
theorem impl_QuotientOrder.mono : ∀ a0 a1 a2 a3 k, LeO (impl_QuotientOrder.f k a0 a1 a2 a3) (impl_QuotientOrder.f (k + 1) a0 a1 a2 a3) := by
 intro a0 a1 a2 a3 k
 obtain ⟨ih0, ih1⟩ := impl_QuotientOrder.mono_l k
 unfold impl_QuotientOrder.f
 repeat' first
   | (with_reducible exact ih0 _ _ _ _ _)
   | (with_reducible exact ih1 _ _ _ _ _)
   | (with_reducible exact impl_IsMarket.mono _ _ _ _ _)
   | (with_reducible exact impl_total.mono _ _)
   | (with_reducible exact impl_upTo.mono _ _ _)
   | (with_reducible exact LeO.refl _)
   | (with_reducible exact LeO.none _)
   | (with_reducible refine LeO.ite ?_ ?_)
   | (with_reducible refine LeO.bind ?_ (fun _ => ?_))
   | exact ih0 _ _ _ _ _
   | exact ih1 _ _ _ _ _
   | exact impl_IsMarket.mono _ _ _ _ _
   | exact impl_total.mono _ _
   | exact impl_upTo.mono _ _ _
   | exact LeO.none _
   | refine LeO.ite ?_ ?_
   | refine LeO.bind ?_ (fun _ => ?_)
def impl_QuotientOrder.T4 : Bool × List (List Nat × List Nat) := (true, [([], []), ([0], [0]), ([], []), ([1, 2], [1, 2]), ([], []), ([4], [4]), ([], []), ([6], [6]), ([5, 7], [5, 7]), ([3, 8], [3, 8]), ([], []), ([10], [10]), ([11, 3], [11]), ([], []), ([13], [13]), ([], []), ([15], [15]), ([14, 16], [14, 16]), ([12, 17], [12, 17]), ([9, 18], [9, 18])])
def impl_QuotientOrder.B4 : List Nat := [0, 1, 0, 7, 0, 16, 0, 64, 240, 511, 0, 1024, 3087, 0, 8192, 0, 32768, 122880, 261135, 524287]
theorem impl_QuotientOrder.tab4 : rtab .any (opsOf Try.f57 4) = impl_QuotientOrder.T4 := z14_4
theorem impl_QuotientOrder.bits4 : waitsOk impl_QuotientOrder.T4.2 impl_QuotientOrder.B4 = true := z14_4
set_option maxHeartbeats 8000000 in
set_option maxRecDepth 100000 in
theorem impl_QuotientOrder.calls (k : Nat) (A0_0 : Option Addr) (c0_0 : Nat) (l0_0 : List Int) (a0_1 : Int) (a0_2 : Int) (a0_3 : Int) (r1 : Int) (r2 : Bool) (w : World) (hr0_0 : Kd.C (Kd.int .i64) w A0_0 l0_0.length l0_0) (hc0_0 : l0_0.length ≤ c0_0) (h : impl_QuotientOrder.f k l0_0 a0_1 a0_2 a0_3 = some (r1, r2)) :
  Calls Try.prog 57 #[.agg #[.slice A0_0 l0_0.length c0_0, .int .i64 a0_1, .int .i64 a0_2, .int .i64 a0_3]] w fun e w' => e = .returned (.tuple #[.int .i64 r1, .bool r2]) ∧ Below w.heap.size w w' := by
 have hu30 := Try.underlying30
 have HR0_0 := z14_A hr0_0
 have HC0_0 := z14_A hc0_0
 clear hr0_0 hc0_0
 have HB := z14_A (Below.refl w.heap.size w)
 have H : ((impl_IsMarket.f k l0_0 a0_1 a0_2 a0_3).bind fun t439 => (if t439 = true then (impl_QuotientOrder.j0 k (a0_1 == a0_3) l0_0 a0_1 a0_2 a0_3) else (impl_QuotientOrder.j0 k true l0_0 a0_1 a0_2 a0_3))) = some (r1, r2) := h
 clear h
 have HC2 := z14_A H
 clear H
 go_enter Try.func57, Try.ntmps57
 go_upto_region 1 with (first | ((with_reducible refine gate_dst (N := 1) rfl ?_); refine box_event ?hg (N := 1) ?hd (cs := #[.slice A0_0 l0_0.length c0_0, .int .i64 a0_1, .int .i64 a0_2, .int .i64 a0_3]) (t := 30) ?hr ?_; (case hd => rfl); (case hg => rfl); (case hr => first | (go_simp; done) | (go_simp; rfl)); intro gb438 hg w3 hbox hb; have n0_ := z14_A (below_step z14_5 hb); have n1_ := z14_A (hbox); have n2_ := z14_A ((by rw [hg]; exact (below_size z14_5) : w.heap.size ≤ gb438)); have n3_ := z14_A ((by rw [hg]; exact (below_size z14_5) : w.heap.size ≤ gb438)); clear HB; revert n0_ n1_ n2_ n3_; intro HB BK438 GW438 GE438; clear hb hbox hg))
 (try simp only [Act.put, List.setIfInBounds_toArray, List.set_cons_zero, List.set_cons_succ])
 go_cut [14] (fun v14 wc => ∃ (kq : Nat) (x14_1 : Bool), v14 = .bool x14_1 ∧ Aside0 (impl_QuotientOrder.j0 kq x14_1 l0_0 a0_1 a0_2 a0_3 = some (r1, r2)) ∧ Aside0 (kq ≤ k) ∧ Aside0 (wc.heap[gb438]? = some (.cells #[(.slice A0_0 l0_0.length c0_0), .int .i64 a0_1, .int .i64 a0_2, .int .i64 a0_3] 30 (0, 0))) ∧ Aside0 (Below w.heap.size w wc))
 case first =>
  have H := HC2.out
  clear HC2
  replace H := Option.bind_eq_some_iff.mp H
  obtain ⟨t439, A40, H⟩ := H
  (try dsimp only at H)
  have A4 := z14_A A40
  clear A40
  by_cases c5 : t439 = true
  ·subst c5
   have H1 : (impl_QuotientOrder.j0 k (a0_1 == a0_3) l0_0 a0_1 a0_2 a0_3) = some (r1, r2) := by rw [if_pos rfl] at H; exact H
   clear H
   have H := H1
   clear H1
   have H' := z14_A H
   clear H
   have hcz6_0 : w3.cell? ⟨gb438, 0, none⟩ = some (.slice A0_0 l0_0.length c0_0) := bcz BK438.out 0 rfl
   have hcz6_1 : w3.cell? ⟨gb438, 1, none⟩ = some (.int .i64 a0_1) := bcz BK438.out 1 rfl
   have hcz6_2 : w3.cell? ⟨gb438, 2, none⟩ = some (.int .i64 a0_2) := bcz BK438.out 2 rfl
   have hcz6_3 : w3.cell? ⟨gb438, 3, none⟩ = some (.int .i64 a0_3) := bcz BK438.out 3 rfl
   obtain ⟨hfz6_0, hfz6_1, hfz6_2, hfz6_3⟩ := F4z (blk_frozen BK438.out)
   go_wp2_with (first | ((with_reducible refine gate_callee (f := 42) rfl ?_); refine goesL_ (some 6) rfl rfl Try.func42 z14_4 rfl #[.agg #[.slice A0_0 l0_0.length c0_0, .int .i64 a0_1, .int .i64 a0_2, .int .i64 a0_3]] rfl z14_3 ?_; (with_reducible refine (impl_IsMarket.calls k _ _ l0_0 a0_1 a0_2 a0_3 true _ ?side1 ?side2 A4.out).mono ?_); (case side1 => have zh := (Kd.C_below HR0_0.out HB.out); exact z14_C); (case side2 => exact HC0_0.out); rintro e w7 ⟨rfl, hb⟩; refine ⟨_, rfl, ?_⟩; have n0_ := z14_A (blk_below (g := gb438) (o := .cells #[.slice A0_0 l0_0.length c0_0, .int .i64 a0_1, .int .i64 a0_2, .int .i64 a0_3] 30 (0, 0)) z14_2 hb); have n1_ := z14_A (below_step z14_1 hb); clear BK438 HB; revert n0_ n1_; intro BK438 HB; (try clear hb); (try clear hb2); (try clear hk); (try clear hi); have hcz8_0 : w7.cell? ⟨gb438, 0, none⟩ = some (.slice A0_0 l0_0.length c0_0) := bcz BK438.out 0 rfl; have hcz8_1 : w7.cell? ⟨gb438, 1, none⟩ = some (.int .i64 a0_1) := bcz BK438.out 1 rfl; have hcz8_2 : w7.cell? ⟨gb438, 2, none⟩ = some (.int .i64 a0_2) := bcz BK438.out 2 rfl; have hcz8_3 : w7.cell? ⟨gb438, 3, none⟩ = some (.int .i64 a0_3) := bcz BK438.out 3 rfl; obtain ⟨hfz8_0, hfz8_1, hfz8_2, hfz8_3⟩ := F4z (blk_frozen BK438.out)))
   go_meet
   case rel => exact ⟨_, ((a0_1 == a0_3)), z14_7, H', ⟨by first | omega | exact Nat.le_refl _⟩, ⟨z14_2⟩, ⟨z14_1⟩⟩
  ·replace c5 := Bool.eq_false_iff.mpr c5
   subst c5
   have H1 : (impl_QuotientOrder.j0 k true l0_0 a0_1 a0_2 a0_3) = some (r1, r2) := by rw [if_neg (show ¬ (false = true) by decide)] at H; exact H
   clear H
   have H := H1
   clear H1
   have H' := z14_A H
   clear H
   have hcz9_0 : w3.cell? ⟨gb438, 0, none⟩ = some (.slice A0_0 l0_0.length c0_0) := bcz BK438.out 0 rfl
   have hcz9_1 : w3.cell? ⟨gb438, 1, none⟩ = some (.int .i64 a0_1) := bcz BK438.out 1 rfl
   have hcz9_2 : w3.cell? ⟨gb438, 2, none⟩ = some (.int .i64 a0_2) := bcz BK438.out 2 rfl
   have hcz9_3 : w3.cell? ⟨gb438, 3, none⟩ = some (.int .i64 a0_3) := bcz BK438.out 3 rfl
   obtain ⟨hfz9_0, hfz9_1, hfz9_2, hfz9_3⟩ := F4z (blk_frozen BK438.out)
   go_wp2_with (first | ((with_reducible refine gate_callee (f := 42) rfl ?_); refine goesL_ (some 6) rfl rfl Try.func42 z14_4 rfl #[.agg #[.slice A0_0 l0_0.length c0_0, .int .i64 a0_1, .int .i64 a0_2, .int .i64 a0_3]] rfl z14_3 ?_; (with_reducible refine (impl_IsMarket.calls k _ _ l0_0 a0_1 a0_2 a0_3 false _ ?side1 ?side2 A4.out).mono ?_); (case side1 => have zh := (Kd.C_below HR0_0.out HB.out); exact z14_C); (case side2 => exact HC0_0.out); rintro e w10 ⟨rfl, hb⟩; refine ⟨_, rfl, ?_⟩; have n0_ := z14_A (blk_below (g := gb438) (o := .cells #[.slice A0_0 l0_0.length c0_0, .int .i64 a0_1, .int .i64 a0_2, .int .i64 a0_3] 30 (0, 0)) z14_2 hb); have n1_ := z14_A (below_step z14_1 hb); clear BK438 HB; revert n0_ n1_; intro BK438 HB; (try clear hb); (try clear hb2); (try clear hk); (try clear hi)))
   go_meet
   case rel => exact ⟨_, (true), z14_7, H', ⟨by first | omega | exact Nat.le_refl _⟩, ⟨z14_2⟩, ⟨z14_1⟩⟩
 case rest =>
  clear HC2
  skip
  obtain ⟨kq, x14_1, rfl, HA, HJ1, BK438, HB⟩ := hcut
  cases kq with
  | zero => exact absurd HA.out (by simp [impl_QuotientOrder.j0])
  | succ kj1 =>
   have H := HA.out
   clear HA
   simp only [impl_QuotientOrder.j0] at H
   by_cases c11 : x14_1 = true
   ·subst c11
    have H1 : (some (0, false)) = some (r1, r2) := by rw [if_pos rfl] at H; exact H
    clear H
    have H := H1
    clear H1
    simp only [Option.some.injEq, Prod.mk.injEq] at H
    obtain ⟨rfl, rfl⟩ := H
    go_wp2
    go_ret2
    exact ⟨z14_8, z14_1⟩
   ·replace c11 := Bool.eq_false_iff.mpr c11
    subst c11
    have H1 : (impl_QuotientOrder.l0 kj1 0 l0_0 a0_1 a0_2 a0_3) = some (r1, r2) := by rw [if_neg (show ¬ (false = true) by decide)] at H; exact H
    clear H
    have H := H1
    clear H1
    have H' := z14_A H
    clear H
    go_wp2
    go_loopg [4] kj1 (fun kq v4 w' => ∃ (x4_2 : Int), v4 = .int .i64 x4_2 ∧ Aside0 (impl_QuotientOrder.l0 kq x4_2 l0_0 a0_1 a0_2 a0_3 = some (r1, r2)) ∧ Aside0 (kq ≤ kj1) ∧ Aside0 (w'.heap[gb438]? = some (.cells #[(.slice A0_0 l0_0.length c0_0), .int .i64 a0_1, .int .i64 a0_2, .int .i64 a0_3] 30 (0, 0))) ∧ Aside0 (Below w.heap.size w w'))
    case atStart => exact ⟨(0), z14_7, H', ⟨Nat.le_refl _⟩, ⟨z14_2⟩, ⟨z14_1⟩⟩
    case round =>
     clear H'
     (try clear c1); (try clear c11)
     obtain ⟨x4_2, rfl, HA, HK2, BK438, HB⟩ := hrel
     cases gk with
     | zero => exact absurd HA.out (by simp [impl_QuotientOrder.l0])
     | succ k2 =>
      have H := HA.out
      clear HA
      simp only [impl_QuotientOrder.l0] at H
      replace H := Option.bind_eq_some_iff.mp H
      obtain ⟨t440, A120, H⟩ := H
      (try dsimp only at H)
      have A12 := z14_A A120
      clear A120
      replace H := Option.bind_eq_some_iff.mp H
      obtain ⟨t441, A130, H⟩ := H
      (try dsimp only at H)
      have A13 := z14_A A130
      clear A130
      by_cases c14 : (wrap64 (t440 * (wrap64 (a0_1 - a0_3)))) < (wrap64 (t441 * (wrap64 (a0_1 - a0_2))))
      ·rw [if_pos c14] at H
       have c14b0 : decide ((wrap64 (t440 * (wrap64 (a0_1 - a0_3)))) < (wrap64 (t441 * (wrap64 (a0_1 - a0_2))))) = true := decide_eq_true c14
       clear c14
       have H' := z14_A H
       clear H
       try go_wp2
       have n0_ := z14_A (blk_drew BK438.out)
       have n1_ := z14_A (below_drew1 HB.out)
       clear BK438
       clear HB
       have BK438 := n0_
       have HB := n1_
       clear n0_ n1_
       refine start_ (n := 20) (S := fun w' => w'.cell? ⟨gb438, 0, none⟩ = some (.slice A0_0 l0_0.length c0_0) ∧ w'.cell? ⟨gb438, 1, none⟩ = some (.int .i64 a0_1) ∧ w'.cell? ⟨gb438, 2, none⟩ = some (.int .i64 a0_2) ∧ w'.cell? ⟨gb438, 3, none⟩ = some (.int .i64 a0_3)) (ds := []) #[false, false, false, false, false, false, false, false, false, false, false, false, false, false, false, false, false, false, false, false] z14_4 rfl rfl ⟨bcz BK438.out 0 rfl, bcz BK438.out 1 rfl, bcz BK438.out 2 rfl, bcz BK438.out 3 rfl⟩ (fun hHeld => ?_); refine with_tabW impl_QuotientOrder.tab4 impl_QuotientOrder.bits4 (fun HT_ HW_ => ?_)
       generalize wr.drew = w15 at BK438 HB hHeld ⊢
       refine pure_ (i := 0) (N := some 15) (v := ?_) (a' := ?_) #[true, false, false, false, false, false, false, false, false, false, false, false, false, false, false, false, false, false, false, false] rfl rfl (any_of HT_.out z14_4) (fun _ _ _ h => h) (Or.inl ⟨z14_6, ?_⟩) ?_ ?_
       rotate_left
       ·intro w'
        go_simp
        with_reducible rfl
       rotate_left
       ·simp only [Act.put, List.setIfInBounds_toArray, List.set_cons_zero, List.set_cons_succ, i64_w, i32_w]
        rfl
       refine pure_ (i := 2) (N := some 17) (v := ?_) (a' := ?_) #[true, false, true, false, false, false, false, false, false, false, false, false, false, false, false, false, false, false, false, false] rfl rfl (any_of HT_.out z14_4) (fun _ _ _ h => h) (Or.inl ⟨z14_6, ?_⟩) ?_ ?_
       rotate_left
       ·intro w'
        go_simp
        with_reducible rfl
       rotate_left
       ·simp only [Act.put, List.setIfInBounds_toArray, List.set_cons_zero, List.set_cons_succ, i64_w, i32_w]
        rfl
       refine pure_ (i := 4) (N := some 19) (v := ?_) (a' := ?_) #[true, false, true, false, true, false, false, false, false, false, false, false, false, false, false, false, false, false, false, false] rfl rfl (any_of HT_.out z14_4) (fun _ _ _ h => h) (Or.inl ⟨z14_6, ?_⟩) ?_ ?_
       rotate_left
       ·intro w'
        go_simp
        with_reducible rfl
       rotate_left
       ·simp only [Act.put, List.setIfInBounds_toArray, List.set_cons_zero, List.set_cons_succ, i64_w, i32_w]
        rfl
       refine pure_ (i := 6) (N := some 21) (v := ?_) (a' := ?_) #[true, false, true, false, true, false, true, false, false, false, false, false, false, false, false, false, false, false, false, false] rfl rfl (any_of HT_.out z14_4) (fun _ _ _ h => h) (Or.inl ⟨z14_6, ?_⟩) ?_ ?_
       rotate_left
       ·intro w'
        go_simp
        with_reducible rfl
       rotate_left
       ·simp only [Act.put, List.setIfInBounds_toArray, List.set_cons_zero, List.set_cons_succ, i64_w, i32_w]
        rfl
       refine pure_ (i := 10) (N := some 25) (v := ?_) (a' := ?_) #[true, false, true, false, true, false, true, false, false, false, true, false, false, false, false, false, false, false, false, false] rfl rfl (any_of HT_.out z14_4) (fun _ _ _ h => h) (Or.inl ⟨z14_6, ?_⟩) ?_ ?_
       rotate_left
       ·intro w'
        go_simp
        with_reducible rfl
       rotate_left
       ·simp only [Act.put, List.setIfInBounds_toArray, List.set_cons_zero, List.set_cons_succ, i64_w, i32_w]
        rfl
       refine pure_ (i := 13) (N := some 28) (v := ?_) (a' := ?_) #[true, false, true, false, true, false, true, false, false, false, true, false, false, true, false, false, false, false, false, false] rfl rfl (any_of HT_.out z14_4) (fun _ _ _ h => h) (Or.inl ⟨z14_6, ?_⟩) ?_ ?_
       rotate_left
       ·intro w'
        go_simp
        with_reducible rfl
       rotate_left
       ·simp only [Act.put, List.setIfInBounds_toArray, List.set_cons_zero, List.set_cons_succ, i64_w, i32_w]
        rfl
       refine pure_ (i := 15) (N := some 30) (v := ?_) (a' := ?_) #[true, false, true, false, true, false, true, false, false, false, true, false, false, true, false, true, false, false, false, false] rfl rfl (any_of HT_.out z14_4) (fun _ _ _ h => h) (Or.inl ⟨z14_6, ?_⟩) ?_ ?_
       rotate_left
       ·intro w'
        go_simp
        with_reducible rfl
       rotate_left
       ·simp only [Act.put, List.setIfInBounds_toArray, List.set_cons_zero, List.set_cons_succ, i64_w, i32_w]
        rfl
       refine take_ (i := 1) (N := some 16) (v := ?_) (a' := ?_) #[true, true, true, false, true, false, true, false, false, false, true, false, false, true, false, true, false, false, false, false] rfl rfl (take_ofW HT_.out HW_.out z14_4) (fun _ _ _ h => h) (Or.inl ⟨z14_6, ?_⟩) hHeld ?_ ?_
       rotate_left
       ·rintro w' ⟨s0, s1, s2, s3⟩
        go_simp
        with_reducible rfl
       rotate_left
       ·simp only [Act.put, List.setIfInBounds_toArray, List.set_cons_zero, List.set_cons_succ, i64_w, i32_w]
        rfl
       refine take_ (i := 5) (N := some 20) (v := ?_) (a' := ?_) #[true, true, true, false, true, true, true, false, false, false, true, false, false, true, false, true, false, false, false, false] rfl rfl (take_ofW HT_.out HW_.out z14_4) (fun _ _ _ h => h) (Or.inl ⟨z14_6, ?_⟩) hHeld ?_ ?_
       rotate_left
       ·rintro w' ⟨s0, s1, s2, s3⟩
        go_simp
        with_reducible rfl
       rotate_left
       ·simp only [Act.put, List.setIfInBounds_toArray, List.set_cons_zero, List.set_cons_succ, i64_w, i32_w]
        rfl
       refine take_ (i := 7) (N := some 22) (v := ?_) (a' := ?_) #[true, true, true, false, true, true, true, true, false, false, true, false, false, true, false, true, false, false, false, false] rfl rfl (take_ofW HT_.out HW_.out z14_4) (fun _ _ _ h => h) (Or.inl ⟨z14_6, ?_⟩) hHeld ?_ ?_
       rotate_left
       ·rintro w' ⟨s0, s1, s2, s3⟩
        go_simp
        with_reducible rfl
       rotate_left
       ·simp only [Act.put, List.setIfInBounds_toArray, List.set_cons_zero, List.set_cons_succ, i64_w, i32_w]
        rfl
       refine pure_ (i := 8) (N := some 23) (v := ?_) (a' := ?_) #[true, true, true, false, true, true, true, true, true, false, true, false, false, true, false, true, false, false, false, false] rfl rfl (any_of HT_.out z14_4) (fun _ _ _ h => h) (Or.inl ⟨z14_6, ?_⟩) ?_ ?_
       rotate_left
       ·intro w'
        go_simp
        with_reducible rfl
       rotate_left
       ·simp only [Act.put, List.setIfInBounds_toArray, List.set_cons_zero, List.set_cons_succ, i64_w, i32_w]
        rfl
       refine take_ (i := 11) (N := some 26) (v := ?_) (a' := ?_) #[true, true, true, false, true, true, true, true, true, false, true, true, false, true, false, true, false, false, false, false] rfl rfl (take_ofW HT_.out HW_.out z14_4) (fun _ _ _ h => h) (Or.inl ⟨z14_6, ?_⟩) hHeld ?_ ?_
       rotate_left
       ·rintro w' ⟨s0, s1, s2, s3⟩
        go_simp
        with_reducible rfl
       rotate_left
       ·simp only [Act.put, List.setIfInBounds_toArray, List.set_cons_zero, List.set_cons_succ, i64_w, i32_w]
        rfl
       refine take_ (i := 14) (N := some 29) (v := ?_) (a' := ?_) #[true, true, true, false, true, true, true, true, true, false, true, true, false, true, true, true, false, false, false, false] rfl rfl (take_ofW HT_.out HW_.out z14_4) (fun _ _ _ h => h) (Or.inl ⟨z14_6, ?_⟩) hHeld ?_ ?_
       rotate_left
       ·rintro w' ⟨s0, s1, s2, s3⟩
        go_simp
        with_reducible rfl
       rotate_left
       ·simp only [Act.put, List.setIfInBounds_toArray, List.set_cons_zero, List.set_cons_succ, i64_w, i32_w]
        rfl
       refine take_ (i := 16) (N := some 31) (v := ?_) (a' := ?_) #[true, true, true, false, true, true, true, true, true, false, true, true, false, true, true, true, true, false, false, false] rfl rfl (take_ofW HT_.out HW_.out z14_4) (fun _ _ _ h => h) (Or.inl ⟨z14_6, ?_⟩) hHeld ?_ ?_
       rotate_left
       ·rintro w' ⟨s0, s1, s2, s3⟩
        go_simp
        with_reducible rfl
       rotate_left
       ·simp only [Act.put, List.setIfInBounds_toArray, List.set_cons_zero, List.set_cons_succ, i64_w, i32_w]
        rfl
       refine pure_ (i := 17) (N := some 32) (v := ?_) (a' := ?_) #[true, true, true, false, true, true, true, true, true, false, true, true, false, true, true, true, true, true, false, false] rfl rfl (any_of HT_.out z14_4) (fun _ _ _ h => h) (Or.inl ⟨z14_6, ?_⟩) ?_ ?_
       rotate_left
       ·intro w'
        go_simp
        with_reducible rfl
       rotate_left
       ·simp only [Act.put, List.setIfInBounds_toArray, List.set_cons_zero, List.set_cons_succ, i64_w, i32_w]
        rfl
       refine one_ (i := 3) (N := some 18) #[true, true, true, true, true, true, true, true, true, false, true, true, false, true, true, true, true, true, false, false] rfl rfl (one_of HT_.out z14_4) (by decide) (fun K hK => ?_)
       refine goes_ Try.func100 z14_4 rfl #[.slice A0_0 l0_0.length c0_0, .int .i64 x4_2] z14_6 rfl rfl z14_3 ?_
       with_reducible refine (impl_upTo.calls k2 _ _ l0_0 x4_2 t440 _ ?side1 ?side2 A12.out).mono ?_
       (case side1 => have zh := (Kd.C_below HR0_0.out HB.out); exact z14_C)
       (case side2 => exact HC0_0.out)
       rintro e w16 ⟨rfl, hb⟩
       refine ⟨_, rfl, ?_⟩
       have n0_ := z14_A (blk_below (g := gb438) (o := .cells #[.slice A0_0 l0_0.length c0_0, .int .i64 a0_1, .int .i64 a0_2, .int .i64 a0_3] 30 (0, 0)) z14_2 hb)
       have n1_ := z14_A (below_step z14_1 hb)
       clear BK438
       clear HB
       have BK438 := n0_
       have HB := n1_
       clear n0_ n1_
       (try clear hb)
       (try clear hb2)
       (try clear hk)
       (try clear hi)
       refine hK.out _ _ ⟨bcz BK438.out 0 rfl, bcz BK438.out 1 rfl, bcz BK438.out 2 rfl, bcz BK438.out 3 rfl⟩ (fun hHeld => ?_)
       clear hK K
       refine norm_ (a' := ?_) ?_ ?_
       rotate_left
       ·show Act.put _ (some 18) _ = _
        simp only [Act.put, List.setIfInBounds_toArray, List.set_cons_zero, List.set_cons_succ, i64_w, i32_w]
        rfl
       refine pure_ (i := 9) (N := some 24) (v := ?_) (a' := ?_) #[true, true, true, true, true, true, true, true, true, true, true, true, false, true, true, true, true, true, false, false] rfl rfl (any_of HT_.out z14_4) (fun _ _ _ h => h) (Or.inl ⟨z14_6, ?_⟩) ?_ ?_
       rotate_left
       ·intro w'
        go_simp
        with_reducible rfl
       rotate_left
       ·simp only [Act.put, List.setIfInBounds_toArray, List.set_cons_zero, List.set_cons_succ, i64_w, i32_w]
        rfl
       refine one_ (i := 12) (N := some 27) #[true, true, true, true, true, true, true, true, true, true, true, true, true, true, true, true, true, true, false, false] rfl rfl (one_of HT_.out z14_4) (by decide) (fun K hK => ?_)
       refine goes_ Try.func85 z14_4 rfl #[.slice A0_0 l0_0.length c0_0] z14_6 rfl rfl z14_3 ?_
       with_reducible refine (impl_total.calls k2 _ _ l0_0 t441 _ ?side1 ?side2 A13.out).mono ?_
       (case side1 => have zh := (Kd.C_below HR0_0.out HB.out); exact z14_C)
       (case side2 => exact HC0_0.out)
       rintro e w' ⟨rfl, ⟨nd, rfl⟩⟩
       refine ⟨_, rfl, ?_⟩
       refine hK.out _ _ ⟨bcz BK438.out 0 rfl, bcz BK438.out 1 rfl, bcz BK438.out 2 rfl, bcz BK438.out 3 rfl⟩ (fun hHeld => ?_)
       clear hK K
       refine norm_ (a' := ?_) ?_ ?_
       rotate_left
       ·show Act.put _ (some 27) _ = _
        simp only [Act.put, List.setIfInBounds_toArray, List.set_cons_zero, List.set_cons_succ, i64_w, i32_w]
        rfl
       refine pure_ (i := 18) (N := some 33) (v := ?_) (a' := ?_) #[true, true, true, true, true, true, true, true, true, true, true, true, true, true, true, true, true, true, true, false] rfl rfl (any_of HT_.out z14_4) (fun _ _ _ h => h) (Or.inl ⟨z14_6, ?_⟩) ?_ ?_
       rotate_left
       ·intro w'
        go_simp
        with_reducible rfl
       rotate_left
       ·simp only [Act.put, List.setIfInBounds_toArray, List.set_cons_zero, List.set_cons_succ, i64_w, i32_w]
        rfl
       refine pure_ (i := 19) (N := some 34) (v := ?_) (a' := ?_) #[true, true, true, true, true, true, true, true, true, true, true, true, true, true, true, true, true, true, true, true] rfl rfl (any_of HT_.out z14_4) (fun _ _ _ h => h) (Or.inl ⟨z14_6, ?_⟩) ?_ ?_
       rotate_left
       ·intro w'
        go_simp
        with_reducible rfl
       rotate_left
       ·simp only [Act.put, List.setIfInBounds_toArray, List.set_cons_zero, List.set_cons_succ, i64_w, i32_w]
        rfl
       refine done_ (done_of HT_.out z14_4) ?_
       try go_wp2
       go_roundg k2
       case measure => have := HJ1.out; have := HK2.out; omega
       case rel => exact ⟨(wrap64 (x4_2 + 1)), z14_7, H', ⟨by have := HJ1.out; have := HK2.out; omega⟩, ⟨z14_2⟩, ⟨z14_1⟩⟩
      ·rw [if_neg c14] at H
       have c14b0 : decide ((wrap64 (t440 * (wrap64 (a0_1 - a0_3)))) < (wrap64 (t441 * (wrap64 (a0_1 - a0_2))))) = false := decide_eq_false c14
       clear c14
       simp only [Option.some.injEq, Prod.mk.injEq] at H
       obtain ⟨rfl, rfl⟩ := H
       try go_wp2
       have n0_ := z14_A (blk_drew BK438.out)
       have n1_ := z14_A (below_drew1 HB.out)
       clear BK438
       clear HB
       have BK438 := n0_
       have HB := n1_
       clear n0_ n1_
       refine start_ (n := 20) (S := fun w' => w'.cell? ⟨gb438, 0, none⟩ = some (.slice A0_0 l0_0.length c0_0) ∧ w'.cell? ⟨gb438, 1, none⟩ = some (.int .i64 a0_1) ∧ w'.cell? ⟨gb438, 2, none⟩ = some (.int .i64 a0_2) ∧ w'.cell? ⟨gb438, 3, none⟩ = some (.int .i64 a0_3)) (ds := []) #[false, false, false, false, false, false, false, false, false, false, false, false, false, false, false, false, false, false, false, false] z14_4 rfl rfl ⟨bcz BK438.out 0 rfl, bcz BK438.out 1 rfl, bcz BK438.out 2 rfl, bcz BK438.out 3 rfl⟩ (fun hHeld => ?_); refine with_tabW impl_QuotientOrder.tab4 impl_QuotientOrder.bits4 (fun HT_ HW_ => ?_)
       generalize wr.drew = w17 at BK438 HB hHeld ⊢
       refine pure_ (i := 0) (N := some 15) (v := ?_) (a' := ?_) #[true, false, false, false, false, false, false, false, false, false, false, false, false, false, false, false, false, false, false, false] rfl rfl (any_of HT_.out z14_4) (fun _ _ _ h => h) (Or.inl ⟨z14_6, ?_⟩) ?_ ?_
       rotate_left
       ·intro w'
        go_simp
        with_reducible rfl
       rotate_left
       ·simp only [Act.put, List.setIfInBounds_toArray, List.set_cons_zero, List.set_cons_succ, i64_w, i32_w]
        rfl
       refine pure_ (i := 2) (N := some 17) (v := ?_) (a' := ?_) #[true, false, true, false, false, false, false, false, false, false, false, false, false, false, false, false, false, false, false, false] rfl rfl (any_of HT_.out z14_4) (fun _ _ _ h => h) (Or.inl ⟨z14_6, ?_⟩) ?_ ?_
       rotate_left
       ·intro w'
        go_simp
        with_reducible rfl
       rotate_left
       ·simp only [Act.put, List.setIfInBounds_toArray, List.set_cons_zero, List.set_cons_succ, i64_w, i32_w]
        rfl
       refine pure_ (i := 4) (N := some 19) (v := ?_) (a' := ?_) #[true, false, true, false, true, false, false, false, false, false, false, false, false, false, false, false, false, false, false, false] rfl rfl (any_of HT_.out z14_4) (fun _ _ _ h => h) (Or.inl ⟨z14_6, ?_⟩) ?_ ?_
       rotate_left
       ·intro w'
        go_simp
        with_reducible rfl
       rotate_left
       ·simp only [Act.put, List.setIfInBounds_toArray, List.set_cons_zero, List.set_cons_succ, i64_w, i32_w]
        rfl
       refine pure_ (i := 6) (N := some 21) (v := ?_) (a' := ?_) #[true, false, true, false, true, false, true, false, false, false, false, false, false, false, false, false, false, false, false, false] rfl rfl (any_of HT_.out z14_4) (fun _ _ _ h => h) (Or.inl ⟨z14_6, ?_⟩) ?_ ?_
       rotate_left
       ·intro w'
        go_simp
        with_reducible rfl
       rotate_left
       ·simp only [Act.put, List.setIfInBounds_toArray, List.set_cons_zero, List.set_cons_succ, i64_w, i32_w]
        rfl
       refine pure_ (i := 10) (N := some 25) (v := ?_) (a' := ?_) #[true, false, true, false, true, false, true, false, false, false, true, false, false, false, false, false, false, false, false, false] rfl rfl (any_of HT_.out z14_4) (fun _ _ _ h => h) (Or.inl ⟨z14_6, ?_⟩) ?_ ?_
       rotate_left
       ·intro w'
        go_simp
        with_reducible rfl
       rotate_left
       ·simp only [Act.put, List.setIfInBounds_toArray, List.set_cons_zero, List.set_cons_succ, i64_w, i32_w]
        rfl
       refine pure_ (i := 13) (N := some 28) (v := ?_) (a' := ?_) #[true, false, true, false, true, false, true, false, false, false, true, false, false, true, false, false, false, false, false, false] rfl rfl (any_of HT_.out z14_4) (fun _ _ _ h => h) (Or.inl ⟨z14_6, ?_⟩) ?_ ?_
       rotate_left
       ·intro w'
        go_simp
        with_reducible rfl
       rotate_left
       ·simp only [Act.put, List.setIfInBounds_toArray, List.set_cons_zero, List.set_cons_succ, i64_w, i32_w]
        rfl
       refine pure_ (i := 15) (N := some 30) (v := ?_) (a' := ?_) #[true, false, true, false, true, false, true, false, false, false, true, false, false, true, false, true, false, false, false, false] rfl rfl (any_of HT_.out z14_4) (fun _ _ _ h => h) (Or.inl ⟨z14_6, ?_⟩) ?_ ?_
       rotate_left
       ·intro w'
        go_simp
        with_reducible rfl
       rotate_left
       ·simp only [Act.put, List.setIfInBounds_toArray, List.set_cons_zero, List.set_cons_succ, i64_w, i32_w]
        rfl
       refine take_ (i := 1) (N := some 16) (v := ?_) (a' := ?_) #[true, true, true, false, true, false, true, false, false, false, true, false, false, true, false, true, false, false, false, false] rfl rfl (take_ofW HT_.out HW_.out z14_4) (fun _ _ _ h => h) (Or.inl ⟨z14_6, ?_⟩) hHeld ?_ ?_
       rotate_left
       ·rintro w' ⟨s0, s1, s2, s3⟩
        go_simp
        with_reducible rfl
       rotate_left
       ·simp only [Act.put, List.setIfInBounds_toArray, List.set_cons_zero, List.set_cons_succ, i64_w, i32_w]
        rfl
       refine take_ (i := 5) (N := some 20) (v := ?_) (a' := ?_) #[true, true, true, false, true, true, true, false, false, false, true, false, false, true, false, true, false, false, false, false] rfl rfl (take_ofW HT_.out HW_.out z14_4) (fun _ _ _ h => h) (Or.inl ⟨z14_6, ?_⟩) hHeld ?_ ?_
       rotate_left
       ·rintro w' ⟨s0, s1, s2, s3⟩
        go_simp
        with_reducible rfl
       rotate_left
       ·simp only [Act.put, List.setIfInBounds_toArray, List.set_cons_zero, List.set_cons_succ, i64_w, i32_w]
        rfl
       refine take_ (i := 7) (N := some 22) (v := ?_) (a' := ?_) #[true, true, true, false, true, true, true, true, false, false, true, false, false, true, false, true, false, false, false, false] rfl rfl (take_ofW HT_.out HW_.out z14_4) (fun _ _ _ h => h) (Or.inl ⟨z14_6, ?_⟩) hHeld ?_ ?_
       rotate_left
       ·rintro w' ⟨s0, s1, s2, s3⟩
        go_simp
        with_reducible rfl
       rotate_left
       ·simp only [Act.put, List.setIfInBounds_toArray, List.set_cons_zero, List.set_cons_succ, i64_w, i32_w]
        rfl
       refine pure_ (i := 8) (N := some 23) (v := ?_) (a' := ?_) #[true, true, true, false, true, true, true, true, true, false, true, false, false, true, false, true, false, false, false, false] rfl rfl (any_of HT_.out z14_4) (fun _ _ _ h => h) (Or.inl ⟨z14_6, ?_⟩) ?_ ?_
       rotate_left
       ·intro w'
        go_simp
        with_reducible rfl
       rotate_left
       ·simp only [Act.put, List.setIfInBounds_toArray, List.set_cons_zero, List.set_cons_succ, i64_w, i32_w]
        rfl
       refine take_ (i := 11) (N := some 26) (v := ?_) (a' := ?_) #[true, true, true, false, true, true, true, true, true, false, true, true, false, true, false, true, false, false, false, false] rfl rfl (take_ofW HT_.out HW_.out z14_4) (fun _ _ _ h => h) (Or.inl ⟨z14_6, ?_⟩) hHeld ?_ ?_
       rotate_left
       ·rintro w' ⟨s0, s1, s2, s3⟩
        go_simp
        with_reducible rfl
       rotate_left
       ·simp only [Act.put, List.setIfInBounds_toArray, List.set_cons_zero, List.set_cons_succ, i64_w, i32_w]
        rfl
       refine take_ (i := 14) (N := some 29) (v := ?_) (a' := ?_) #[true, true, true, false, true, true, true, true, true, false, true, true, false, true, true, true, false, false, false, false] rfl rfl (take_ofW HT_.out HW_.out z14_4) (fun _ _ _ h => h) (Or.inl ⟨z14_6, ?_⟩) hHeld ?_ ?_
       rotate_left
       ·rintro w' ⟨s0, s1, s2, s3⟩
        go_simp
        with_reducible rfl
       rotate_left
       ·simp only [Act.put, List.setIfInBounds_toArray, List.set_cons_zero, List.set_cons_succ, i64_w, i32_w]
        rfl
       refine take_ (i := 16) (N := some 31) (v := ?_) (a' := ?_) #[true, true, true, false, true, true, true, true, true, false, true, true, false, true, true, true, true, false, false, false] rfl rfl (take_ofW HT_.out HW_.out z14_4) (fun _ _ _ h => h) (Or.inl ⟨z14_6, ?_⟩) hHeld ?_ ?_
       rotate_left
       ·rintro w' ⟨s0, s1, s2, s3⟩
        go_simp
        with_reducible rfl
       rotate_left
       ·simp only [Act.put, List.setIfInBounds_toArray, List.set_cons_zero, List.set_cons_succ, i64_w, i32_w]
        rfl
       refine pure_ (i := 17) (N := some 32) (v := ?_) (a' := ?_) #[true, true, true, false, true, true, true, true, true, false, true, true, false, true, true, true, true, true, false, false] rfl rfl (any_of HT_.out z14_4) (fun _ _ _ h => h) (Or.inl ⟨z14_6, ?_⟩) ?_ ?_
       rotate_left
       ·intro w'
        go_simp
        with_reducible rfl
       rotate_left
       ·simp only [Act.put, List.setIfInBounds_toArray, List.set_cons_zero, List.set_cons_succ, i64_w, i32_w]
        rfl
       refine one_ (i := 3) (N := some 18) #[true, true, true, true, true, true, true, true, true, false, true, true, false, true, true, true, true, true, false, false] rfl rfl (one_of HT_.out z14_4) (by decide) (fun K hK => ?_)
       refine goes_ Try.func100 z14_4 rfl #[.slice A0_0 l0_0.length c0_0, .int .i64 x4_2] z14_6 rfl rfl z14_3 ?_
       with_reducible refine (impl_upTo.calls k2 _ _ l0_0 x4_2 t440 _ ?side1 ?side2 A12.out).mono ?_
       (case side1 => have zh := (Kd.C_below HR0_0.out HB.out); exact z14_C)
       (case side2 => exact HC0_0.out)
       rintro e w18 ⟨rfl, hb⟩
       refine ⟨_, rfl, ?_⟩
       have n0_ := z14_A (blk_below (g := gb438) (o := .cells #[.slice A0_0 l0_0.length c0_0, .int .i64 a0_1, .int .i64 a0_2, .int .i64 a0_3] 30 (0, 0)) z14_2 hb)
       have n1_ := z14_A (below_step z14_1 hb)
       clear BK438
       clear HB
       have BK438 := n0_
       have HB := n1_
       clear n0_ n1_
       (try clear hb)
       (try clear hb2)
       (try clear hk)
       (try clear hi)
       refine hK.out _ _ ⟨bcz BK438.out 0 rfl, bcz BK438.out 1 rfl, bcz BK438.out 2 rfl, bcz BK438.out 3 rfl⟩ (fun hHeld => ?_)
       clear hK K
       refine norm_ (a' := ?_) ?_ ?_
       rotate_left
       ·show Act.put _ (some 18) _ = _
        simp only [Act.put, List.setIfInBounds_toArray, List.set_cons_zero, List.set_cons_succ, i64_w, i32_w]
        rfl
       refine pure_ (i := 9) (N := some 24) (v := ?_) (a' := ?_) #[true, true, true, true, true, true, true, true, true, true, true, true, false, true, true, true, true, true, false, false] rfl rfl (any_of HT_.out z14_4) (fun _ _ _ h => h) (Or.inl ⟨z14_6, ?_⟩) ?_ ?_
       rotate_left
       ·intro w'
        go_simp
        with_reducible rfl
       rotate_left
       ·simp only [Act.put, List.setIfInBounds_toArray, List.set_cons_zero, List.set_cons_succ, i64_w, i32_w]
        rfl
       refine one_ (i := 12) (N := some 27) #[true, true, true, true, true, true, true, true, true, true, true, true, true, true, true, true, true, true, false, false] rfl rfl (one_of HT_.out z14_4) (by decide) (fun K hK => ?_)
       refine goes_ Try.func85 z14_4 rfl #[.slice A0_0 l0_0.length c0_0] z14_6 rfl rfl z14_3 ?_
       with_reducible refine (impl_total.calls k2 _ _ l0_0 t441 _ ?side1 ?side2 A13.out).mono ?_
       (case side1 => have zh := (Kd.C_below HR0_0.out HB.out); exact z14_C)
       (case side2 => exact HC0_0.out)
       rintro e w' ⟨rfl, ⟨nd, rfl⟩⟩
       refine ⟨_, rfl, ?_⟩
       refine hK.out _ _ ⟨bcz BK438.out 0 rfl, bcz BK438.out 1 rfl, bcz BK438.out 2 rfl, bcz BK438.out 3 rfl⟩ (fun hHeld => ?_)
       clear hK K
       refine norm_ (a' := ?_) ?_ ?_
       rotate_left
       ·show Act.put _ (some 27) _ = _
        simp only [Act.put, List.setIfInBounds_toArray, List.set_cons_zero, List.set_cons_succ, i64_w, i32_w]
        rfl
       refine pure_ (i := 18) (N := some 33) (v := ?_) (a' := ?_) #[true, true, true, true, true, true, true, true, true, true, true, true, true, true, true, true, true, true, true, false] rfl rfl (any_of HT_.out z14_4) (fun _ _ _ h => h) (Or.inl ⟨z14_6, ?_⟩) ?_ ?_
       rotate_left
       ·intro w'
        go_simp
        with_reducible rfl
       rotate_left
       ·simp only [Act.put, List.setIfInBounds_toArray, List.set_cons_zero, List.set_cons_succ, i64_w, i32_w]
        rfl
       refine pure_ (i := 19) (N := some 34) (v := ?_) (a' := ?_) #[true, true, true, true, true, true, true, true, true, true, true, true, true, true, true, true, true, true, true, true] rfl rfl (any_of HT_.out z14_4) (fun _ _ _ h => h) (Or.inl ⟨z14_6, ?_⟩) ?_ ?_
       rotate_left
       ·intro w'
        go_simp
        with_reducible rfl
       rotate_left
       ·simp only [Act.put, List.setIfInBounds_toArray, List.set_cons_zero, List.set_cons_succ, i64_w, i32_w]
        rfl
       refine done_ (done_of HT_.out z14_4) ?_
       try go_wp2
       go_ret2
       exact ⟨z14_8, z14_1⟩

end Go.Proofs.Ytiniocecpgjikaa.PFnProfits
