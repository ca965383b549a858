-- A text of this session (its program hook.py, over the kit's print.py): not a print of print.sh
-- THIN: one blank for two
import Derived.Test.YtiniocecpgjikaaPFnProfitsx0
import Derived.Test.YtiniocecpgjikaaPFnProfitsx2
import Derived.Test.YtiniocecpgjikaaPFnProfitsx4
import Derived.Test.YtiniocecpgjikaaPFnProfitsx11
namespace Go.Proofs.Ytiniocecpgjikaa.PFnProfits
open Go.RowKit Go.Proofs.YtiniocecpgjikaaW.PrintWords Go.Proofs.YtiniocecpgjikaaW.PrintLast Go.Proofs.YtiniocecpgjikaaW.PrintMore
attribute [local go_sem] max2_int min2_int max_two min_two max_three min_three max_four min_four   -- for this text's walks alone
set_option linter.unusedVariables false
set_option linter.unusedSimpArgs false

-- SQUEEZED
private theorem bcz {w : World} {g : Nat} {t : TypeId} {cs : Array Value} (h : w.heap[g]? = some (.cells cs t (0, 0))) (i : Nat) {v : Value} (e : cs[i]? = some v) : w.cell? ⟨g, i, none⟩ = some v := (blk_cell h i).trans e
private theorem F4z {P : Nat → Prop} (h : ∀ i, P i) : P 0 ∧ P 1 ∧ P 2 ∧ P 3 := ⟨h 0, h 1, h 2, h 3⟩
theorem z13_A {p : Prop} (h : p) : Aside0 p := Aside0.mk h
theorem z13_C {p : Prop} (h : p := by repeat (first | exact zh | (with_reducible refine Kd.C_alloc ?_ _) | (with_reducible refine Kd.C_drewN ?_ _) | (with_reducible refine Kd.C_drew ?_))) : p := h
theorem z13_1 {p : Prop} (h : p := by repeat (first | (with_reducible first | exact HB.out | apply below_alloc | apply pw_below_drewN | apply below_drew1) | exact HB.out)) : p := h
theorem z13_2 {p : Prop} (h : p := by repeat (first | (with_reducible first | exact HB.out | apply below_alloc | apply pw_below_drewN | apply below_drew1 | refine below_set ?_ GE430.out) | exact HB.out)) : p := h
theorem z13_3 {p : Prop} (h : p := by (try simp only [List.map_toArray, List.map_cons, List.map_nil]); first | done | rfl | (simp only [List.length_drop, List.length_take]; rfl)) : p := h
theorem z13_4 {p : Prop} (h : p := by (with_reducible repeat (first | refine blk_drewN ?_ _ | refine blk_drew ?_ | refine blk_alloc ?_ _)); exact BK430.out) : p := h
theorem z13_5 {p : Prop} (h : p := by repeat (first | (with_reducible first | exact HB.out | apply below_alloc | apply pw_below_drewN | apply below_drew1 | refine below_set ?_ GE433.out) | exact HB.out)) : p := h
theorem z13_6 {p : Prop} (h : p := by kernel_rfl) : p := h
theorem z13_7 {p : Prop} (h : p := by (with_reducible repeat (first | refine blk_drewN ?_ _ | refine blk_drew ?_ | refine blk_alloc ?_ _)); exact BK433.out) : p := h
theorem z13_8 {p : Prop} (h : p := by first | rfl | (simp; done) | (simp [*]; done)) : p := h
theorem z13_9 {p : Prop} (h : p := by first | rfl | (simp [errW_none, errW_some] <;> rfl) | (simp [*, errW_none, errW_some] <;> rfl)) : p := h
theorem z13_10 {p : Prop} (h : p := by rw [hg]; exact (below_size z13_1)) : p := h
theorem z13_11 {p : Prop} (h : p := by first | (with_reducible assumption) | assumption) : p := h

/-! ### spec_l10Best: function 99 -/
def spec_l10Best.l0 : Nat → Int → Int → List Int → Int → Int → Int → Option (Int)
 | 0, _, _, _, _, _, _ => none
 | k + 1, x3, x4, x431000, x431001, x431002, x431003 => if x4 ≤ 8 then ((spec_l10Joint.f k x431000 x431001 x431002 x431003 x4).bind fun t431 => ((spec_l10Joint.f k x431000 x431001 x431002 x431003 x3).bind fun t432 => (if t431 > t432 then (spec_l10Best.l0 k x4 (wrap64 (x4 + 1)) x431000 x431001 x431002 x431003) else (spec_l10Best.l0 k x3 (wrap64 (x4 + 1)) x431000 x431001 x431002 x431003)))) else (some x3)
def spec_l10Best.f (k : Nat) (l0_0 : List Int) (a0_1 : Int) (a0_2 : Int) (a0_3 : Int) : Option (Int) := spec_l10Best.l0 k 0 1 l0_0 a0_1 a0_2 a0_3
theorem spec_l10Best.mono_l : ∀ k, (∀ y0 y1 y2 y3 y4 y5, LeO (spec_l10Best.l0 k y0 y1 y2 y3 y4 y5) (spec_l10Best.l0 (k + 1) y0 y1 y2 y3 y4 y5))
 | 0 => fun _ _ _ _ _ _ r h => by simp [spec_l10Best.l0] at h
 | k + 1 => by
  have ih0 := spec_l10Best.mono_l k
  ·intro y0 y1 y2 y3 y4 y5
   unfold spec_l10Best.l0
   repeat' first
   | (with_reducible exact ih0 _ _ _ _ _ _)
   | (with_reducible exact spec_l10Joint.mono _ _ _ _ _ _)
   | (with_reducible exact LeO.refl _)
   | (with_reducible exact LeO.none _)
   | (with_reducible refine LeO.ite ?_ ?_)
   | (with_reducible refine LeO.bind ?_ (fun _ => ?_))
   | exact ih0 _ _ _ _ _ _
   | exact spec_l10Joint.mono _ _ _ _ _ _
   | exact LeO.none _
   | refine LeO.ite ?_ ?_
   | refine LeO.bind ?_ (fun _ => ?_)
theorem spec_l10Best.mono : ∀ a0 a1 a2 a3 k, LeO (spec_l10Best.f k a0 a1 a2 a3) (spec_l10Best.f (k + 1) a0 a1 a2 a3) := by
 intro a0 a1 a2 a3 k
 have ih0 := spec_l10Best.mono_l k
 unfold spec_l10Best.f
 repeat' first
   | (with_reducible exact ih0 _ _ _ _ _ _)
   | (with_reducible exact spec_l10Joint.mono _ _ _ _ _ _)
   | (with_reducible exact LeO.refl _)
   | (with_reducible exact LeO.none _)
   | (with_reducible refine LeO.ite ?_ ?_)
   | (with_reducible refine LeO.bind ?_ (fun _ => ?_))
   | exact ih0 _ _ _ _ _ _
   | exact spec_l10Joint.mono _ _ _ _ _ _
   | exact LeO.none _
   | refine LeO.ite ?_ ?_
   | refine LeO.bind ?_ (fun _ => ?_)
set_option maxHeartbeats 8000000 in
set_option maxRecDepth 100000 in
theorem spec_l10Best.calls (k : Nat) (A0_0 : Option Addr) (c0_0 : Nat) (l0_0 : List Int) (a0_1 : Int) (a0_2 : Int) (a0_3 : Int) (r : Int) (w : World) (hr0_0 : Kd.C (Kd.int .i64) w A0_0 l0_0.length l0_0) (hc0_0 : l0_0.length ≤ c0_0) (h : spec_l10Best.f k l0_0 a0_1 a0_2 a0_3 = some r) :
  Calls Try.prog 99 #[.agg #[.slice A0_0 l0_0.length c0_0, .int .i64 a0_1, .int .i64 a0_2, .int .i64 a0_3]] w fun e w' => e = .returned (.int .i64 r) ∧ Below w.heap.size w w' := by
 have hu30 := Try.underlying30
 have HR0_0 := z13_A hr0_0
 have HC0_0 := z13_A hc0_0
 clear hr0_0 hc0_0
 have HB := z13_A (Below.refl w.heap.size w)
 have H : (spec_l10Best.l0 k 0 1 l0_0 a0_1 a0_2 a0_3) = some r := h
 clear h
 have H' := z13_A H
 clear H
 go_enter Try.func99, Try.ntmps99
 go_wp2_with (first | ((with_reducible refine gate_dst (N := 1) rfl ?_); refine box_event ?hg (N := 1) ?hd (cs := #[.slice A0_0 l0_0.length c0_0, .int .i64 a0_1, .int .i64 a0_2, .int .i64 a0_3]) (t := 30) ?hr ?_; (case hd => rfl); (case hg => rfl); (case hr => first | (go_simp; done) | (go_simp; rfl)); intro gb430 hg w2 hbox hb; have n0_ := z13_A (below_step z13_1 hb); have n1_ := z13_A (hbox); have n2_ := z13_A ((z13_10 : w.heap.size ≤ gb430)); have n3_ := z13_A ((z13_10 : w.heap.size ≤ gb430)); clear HB; revert n0_ n1_ n2_ n3_; intro HB BK430 GW430 GE430; clear hb hbox hg))
 go_loopg [3, 4] k (fun kq v3 v4 w' => ∃ (x3_1 : Int) (x4_1 : Int), v3 = .int .i64 x3_1 ∧ v4 = .int .i64 x4_1 ∧ Aside0 (spec_l10Best.l0 kq x3_1 x4_1 l0_0 a0_1 a0_2 a0_3 = some r) ∧ Aside0 (kq ≤ k) ∧ Aside0 (w'.heap[gb430]? = some (.cells #[(.slice A0_0 l0_0.length c0_0), .int .i64 a0_1, .int .i64 a0_2, .int .i64 a0_3] 30 (0, 0))) ∧ Aside0 (Below w.heap.size w w'))
 case atStart => exact ⟨(0), (1), z13_8, z13_8, H', ⟨Nat.le_refl _⟩, ⟨z13_4⟩, ⟨z13_2⟩⟩
 case round =>
  clear H'
  try clear p2
  obtain ⟨x3_1, x4_1, rfl, rfl, HA, HK1, BK430, HB⟩ := hrel
  cases gk with
  | zero => exact absurd HA.out (by simp [spec_l10Best.l0])
  | succ k1 =>
   have H := HA.out
   clear HA
   simp only [spec_l10Best.l0] at H
   by_cases c3 : x4_1 ≤ 8
   ·rw [if_pos c3] at H
    have c3b0 : decide (x4_1 ≤ 8) = true := decide_eq_true c3
    clear c3
    replace H := Option.bind_eq_some_iff.mp H
    obtain ⟨t431, A40, H⟩ := H
    (try dsimp only at H)
    have A4 := z13_A A40
    clear A40
    replace H := Option.bind_eq_some_iff.mp H
    obtain ⟨t432, A50, H⟩ := H
    (try dsimp only at H)
    have A5 := z13_A A50
    clear A50
    by_cases c6 : t431 > t432
    ·rw [if_pos c6] at H
     have c6b0 : decide (t432 < t431) = true := decide_eq_true c6
     clear c6
     have H' := z13_A H
     clear H
     try go_wp2
     have n0_ := z13_A (blk_drew BK430.out)
     have n1_ := z13_A (below_drew1 HB.out)
     clear BK430
     clear HB
     have BK430 := n0_
     have HB := n1_
     clear n0_ n1_
     refine start_ (n := 7) (S := fun w' => w'.cell? ⟨gb430, 0, none⟩ = some (.slice A0_0 l0_0.length c0_0) ∧ w'.cell? ⟨gb430, 1, none⟩ = some (.int .i64 a0_1) ∧ w'.cell? ⟨gb430, 2, none⟩ = some (.int .i64 a0_2) ∧ w'.cell? ⟨gb430, 3, none⟩ = some (.int .i64 a0_3)) (ds := []) #[false, false, false, false, false, false, false] z13_6 rfl rfl ⟨bcz BK430.out 0 rfl, bcz BK430.out 1 rfl, bcz BK430.out 2 rfl, bcz BK430.out 3 rfl⟩ (fun hHeld => ?_)
     generalize wr.drew = w7 at BK430 HB hHeld ⊢
     refine pure_ (i := 1) (N := some 10) (v := ?_) (a' := ?_) #[false, true, false, false, false, false, false] rfl rfl z13_6 (fun _ _ _ h => h) (Or.inl ⟨by rfl, ?_⟩) ?_ ?_
     rotate_left
     ·intro w'
      go_simp
      with_reducible rfl
     rotate_left
     ·simp only [Act.put, List.setIfInBounds_toArray, List.set_cons_zero, List.set_cons_succ, i64_w, i32_w]
      rfl
     refine pure_ (i := 4) (N := some 13) (v := ?_) (a' := ?_) #[false, true, false, false, true, false, false] rfl rfl z13_6 (fun _ _ _ h => h) (Or.inl ⟨by rfl, ?_⟩) ?_ ?_
     rotate_left
     ·intro w'
      go_simp
      with_reducible rfl
     rotate_left
     ·simp only [Act.put, List.setIfInBounds_toArray, List.set_cons_zero, List.set_cons_succ, i64_w, i32_w]
      rfl
     refine take_ (i := 0) (N := some 9) (v := ?_) (a' := ?_) #[true, true, false, false, true, false, false] rfl rfl z13_6 (fun _ _ _ h => h) (Or.inl ⟨by rfl, ?_⟩) hHeld ?_ ?_
     rotate_left
     ·rintro w' ⟨s0, s1, s2, s3⟩
      go_simp
      with_reducible rfl
     rotate_left
     ·simp only [Act.put, List.setIfInBounds_toArray, List.set_cons_zero, List.set_cons_succ, i64_w, i32_w]
      rfl
     refine take_ (i := 3) (N := some 12) (v := ?_) (a' := ?_) #[true, true, false, true, true, false, false] rfl rfl z13_6 (fun _ _ _ h => h) (Or.inl ⟨by rfl, ?_⟩) hHeld ?_ ?_
     rotate_left
     ·rintro w' ⟨s0, s1, s2, s3⟩
      go_simp
      with_reducible rfl
     rotate_left
     ·simp only [Act.put, List.setIfInBounds_toArray, List.set_cons_zero, List.set_cons_succ, i64_w, i32_w]
      rfl
     refine one_ (i := 2) (N := some 11) #[true, true, true, true, true, false, false] rfl rfl z13_6 (by decide) (fun K hK => ?_)
     refine goes_ Try.func96 z13_6 rfl #[.agg #[.slice A0_0 l0_0.length c0_0, .int .i64 a0_1, .int .i64 a0_2, .int .i64 a0_3], .int .i64 x4_1] (by rfl) rfl rfl z13_3 ?_
     with_reducible refine (spec_l10Joint.calls k1 _ _ l0_0 a0_1 a0_2 a0_3 x4_1 t431 _ ?side1 ?side2 A4.out).mono ?_
     (case side1 => have zh := (Kd.C_below HR0_0.out HB.out); exact z13_C)
     (case side2 => exact HC0_0.out)
     rintro e w8 ⟨rfl, hb⟩
     refine ⟨_, rfl, ?_⟩
     have n0_ := z13_A (blk_below (g := gb430) (o := .cells #[.slice A0_0 l0_0.length c0_0, .int .i64 a0_1, .int .i64 a0_2, .int .i64 a0_3] 30 (0, 0)) z13_4 hb)
     have n1_ := z13_A (below_step z13_2 hb)
     clear BK430
     clear HB
     have BK430 := n0_
     have HB := n1_
     clear n0_ n1_
     (try clear hb)
     (try clear hb2)
     (try clear hk)
     (try clear hi)
     refine hK.out _ _ ⟨bcz BK430.out 0 rfl, bcz BK430.out 1 rfl, bcz BK430.out 2 rfl, bcz BK430.out 3 rfl⟩ (fun hHeld => ?_)
     clear hK K
     refine norm_ (a' := ?_) ?_ ?_
     rotate_left
     ·show Act.put _ (some 11) _ = _
      simp only [Act.put, List.setIfInBounds_toArray, List.set_cons_zero, List.set_cons_succ, i64_w, i32_w]
      rfl
     refine one_ (i := 5) (N := some 14) #[true, true, true, true, true, true, false] rfl rfl z13_6 (by decide) (fun K hK => ?_)
     refine goes_ Try.func96 z13_6 rfl #[.agg #[.slice A0_0 l0_0.length c0_0, .int .i64 a0_1, .int .i64 a0_2, .int .i64 a0_3], .int .i64 x3_1] (by rfl) rfl rfl z13_3 ?_
     with_reducible refine (spec_l10Joint.calls k1 _ _ l0_0 a0_1 a0_2 a0_3 x3_1 t432 _ ?side1 ?side2 A5.out).mono ?_
     (case side1 => have zh := (Kd.C_below HR0_0.out HB.out); exact z13_C)
     (case side2 => exact HC0_0.out)
     rintro e w9 ⟨rfl, hb⟩
     refine ⟨_, rfl, ?_⟩
     have n0_ := z13_A (blk_below (g := gb430) (o := .cells #[.slice A0_0 l0_0.length c0_0, .int .i64 a0_1, .int .i64 a0_2, .int .i64 a0_3] 30 (0, 0)) z13_4 hb)
     have n1_ := z13_A (below_step z13_2 hb)
     clear BK430
     clear HB
     have BK430 := n0_
     have HB := n1_
     clear n0_ n1_
     (try clear hb)
     (try clear hb2)
     (try clear hk)
     (try clear hi)
     refine hK.out _ _ ⟨bcz BK430.out 0 rfl, bcz BK430.out 1 rfl, bcz BK430.out 2 rfl, bcz BK430.out 3 rfl⟩ (fun hHeld => ?_)
     clear hK K
     refine norm_ (a' := ?_) ?_ ?_
     rotate_left
     ·show Act.put _ (some 14) _ = _
      simp only [Act.put, List.setIfInBounds_toArray, List.set_cons_zero, List.set_cons_succ, i64_w, i32_w]
      rfl
     refine pure_ (i := 6) (N := some 15) (v := ?_) (a' := ?_) #[true, true, true, true, true, true, true] rfl rfl z13_6 (fun _ _ _ h => h) (Or.inl ⟨by rfl, ?_⟩) ?_ ?_
     rotate_left
     ·intro w'
      go_simp
      with_reducible rfl
     rotate_left
     ·simp only [Act.put, List.setIfInBounds_toArray, List.set_cons_zero, List.set_cons_succ, i64_w, i32_w]
      rfl
     refine done_ z13_6 ?_
     try go_wp2
     go_roundg k1
     case measure => have := HK1.out; omega
     case rel => exact ⟨(x4_1), (wrap64 (x4_1 + 1)), z13_8, z13_8, H', ⟨by have := HK1.out; omega⟩, ⟨z13_4⟩, ⟨z13_2⟩⟩
    ·rw [if_neg c6] at H
     have c6b0 : decide (t432 < t431) = false := decide_eq_false c6
     clear c6
     have H' := z13_A H
     clear H
     try go_wp2
     have n0_ := z13_A (blk_drew BK430.out)
     have n1_ := z13_A (below_drew1 HB.out)
     clear BK430
     clear HB
     have BK430 := n0_
     have HB := n1_
     clear n0_ n1_
     refine start_ (n := 7) (S := fun w' => w'.cell? ⟨gb430, 0, none⟩ = some (.slice A0_0 l0_0.length c0_0) ∧ w'.cell? ⟨gb430, 1, none⟩ = some (.int .i64 a0_1) ∧ w'.cell? ⟨gb430, 2, none⟩ = some (.int .i64 a0_2) ∧ w'.cell? ⟨gb430, 3, none⟩ = some (.int .i64 a0_3)) (ds := []) #[false, false, false, false, false, false, false] z13_6 rfl rfl ⟨bcz BK430.out 0 rfl, bcz BK430.out 1 rfl, bcz BK430.out 2 rfl, bcz BK430.out 3 rfl⟩ (fun hHeld => ?_)
     generalize wr.drew = w10 at BK430 HB hHeld ⊢
     refine pure_ (i := 1) (N := some 10) (v := ?_) (a' := ?_) #[false, true, false, false, false, false, false] rfl rfl z13_6 (fun _ _ _ h => h) (Or.inl ⟨by rfl, ?_⟩) ?_ ?_
     rotate_left
     ·intro w'
      go_simp
      with_reducible rfl
     rotate_left
     ·simp only [Act.put, List.setIfInBounds_toArray, List.set_cons_zero, List.set_cons_succ, i64_w, i32_w]
      rfl
     refine pure_ (i := 4) (N := some 13) (v := ?_) (a' := ?_) #[false, true, false, false, true, false, false] rfl rfl z13_6 (fun _ _ _ h => h) (Or.inl ⟨by rfl, ?_⟩) ?_ ?_
     rotate_left
     ·intro w'
      go_simp
      with_reducible rfl
     rotate_left
     ·simp only [Act.put, List.setIfInBounds_toArray, List.set_cons_zero, List.set_cons_succ, i64_w, i32_w]
      rfl
     refine take_ (i := 0) (N := some 9) (v := ?_) (a' := ?_) #[true, true, false, false, true, false, false] rfl rfl z13_6 (fun _ _ _ h => h) (Or.inl ⟨by rfl, ?_⟩) hHeld ?_ ?_
     rotate_left
     ·rintro w' ⟨s0, s1, s2, s3⟩
      go_simp
      with_reducible rfl
     rotate_left
     ·simp only [Act.put, List.setIfInBounds_toArray, List.set_cons_zero, List.set_cons_succ, i64_w, i32_w]
      rfl
     refine take_ (i := 3) (N := some 12) (v := ?_) (a' := ?_) #[true, true, false, true, true, false, false] rfl rfl z13_6 (fun _ _ _ h => h) (Or.inl ⟨by rfl, ?_⟩) hHeld ?_ ?_
     rotate_left
     ·rintro w' ⟨s0, s1, s2, s3⟩
      go_simp
      with_reducible rfl
     rotate_left
     ·simp only [Act.put, List.setIfInBounds_toArray, List.set_cons_zero, List.set_cons_succ, i64_w, i32_w]
      rfl
     refine one_ (i := 2) (N := some 11) #[true, true, true, true, true, false, false] rfl rfl z13_6 (by decide) (fun K hK => ?_)
     refine goes_ Try.func96 z13_6 rfl #[.agg #[.slice A0_0 l0_0.length c0_0, .int .i64 a0_1, .int .i64 a0_2, .int .i64 a0_3], .int .i64 x4_1] (by rfl) rfl rfl z13_3 ?_
     with_reducible refine (spec_l10Joint.calls k1 _ _ l0_0 a0_1 a0_2 a0_3 x4_1 t431 _ ?side1 ?side2 A4.out).mono ?_
     (case side1 => have zh := (Kd.C_below HR0_0.out HB.out); exact z13_C)
     (case side2 => exact HC0_0.out)
     rintro e w11 ⟨rfl, hb⟩
     refine ⟨_, rfl, ?_⟩
     have n0_ := z13_A (blk_below (g := gb430) (o := .cells #[.slice A0_0 l0_0.length c0_0, .int .i64 a0_1, .int .i64 a0_2, .int .i64 a0_3] 30 (0, 0)) z13_4 hb)
     have n1_ := z13_A (below_step z13_2 hb)
     clear BK430
     clear HB
     have BK430 := n0_
     have HB := n1_
     clear n0_ n1_
     (try clear hb)
     (try clear hb2)
     (try clear hk)
     (try clear hi)
     refine hK.out _ _ ⟨bcz BK430.out 0 rfl, bcz BK430.out 1 rfl, bcz BK430.out 2 rfl, bcz BK430.out 3 rfl⟩ (fun hHeld => ?_)
     clear hK K
     refine norm_ (a' := ?_) ?_ ?_
     rotate_left
     ·show Act.put _ (some 11) _ = _
      simp only [Act.put, List.setIfInBounds_toArray, List.set_cons_zero, List.set_cons_succ, i64_w, i32_w]
      rfl
     refine one_ (i := 5) (N := some 14) #[true, true, true, true, true, true, false] rfl rfl z13_6 (by decide) (fun K hK => ?_)
     refine goes_ Try.func96 z13_6 rfl #[.agg #[.slice A0_0 l0_0.length c0_0, .int .i64 a0_1, .int .i64 a0_2, .int .i64 a0_3], .int .i64 x3_1] (by rfl) rfl rfl z13_3 ?_
     with_reducible refine (spec_l10Joint.calls k1 _ _ l0_0 a0_1 a0_2 a0_3 x3_1 t432 _ ?side1 ?side2 A5.out).mono ?_
     (case side1 => have zh := (Kd.C_below HR0_0.out HB.out); exact z13_C)
     (case side2 => exact HC0_0.out)
     rintro e w12 ⟨rfl, hb⟩
     refine ⟨_, rfl, ?_⟩
     have n0_ := z13_A (blk_below (g := gb430) (o := .cells #[.slice A0_0 l0_0.length c0_0, .int .i64 a0_1, .int .i64 a0_2, .int .i64 a0_3] 30 (0, 0)) z13_4 hb)
     have n1_ := z13_A (below_step z13_2 hb)
     clear BK430
     clear HB
     have BK430 := n0_
     have HB := n1_
     clear n0_ n1_
     (try clear hb)
     (try clear hb2)
     (try clear hk)
     (try clear hi)
     refine hK.out _ _ ⟨bcz BK430.out 0 rfl, bcz BK430.out 1 rfl, bcz BK430.out 2 rfl, bcz BK430.out 3 rfl⟩ (fun hHeld => ?_)
     clear hK K
     refine norm_ (a' := ?_) ?_ ?_
     rotate_left
     ·show Act.put _ (some 14) _ = _
      simp only [Act.put, List.setIfInBounds_toArray, List.set_cons_zero, List.set_cons_succ, i64_w, i32_w]
      rfl
     refine pure_ (i := 6) (N := some 15) (v := ?_) (a' := ?_) #[true, true, true, true, true, true, true] rfl rfl z13_6 (fun _ _ _ h => h) (Or.inl ⟨by rfl, ?_⟩) ?_ ?_
     rotate_left
     ·intro w'
      go_simp
      with_reducible rfl
     rotate_left
     ·simp only [Act.put, List.setIfInBounds_toArray, List.set_cons_zero, List.set_cons_succ, i64_w, i32_w]
      rfl
     refine done_ z13_6 ?_
     try go_wp2
     go_roundg k1
     case measure => have := HK1.out; omega
     case rel => exact ⟨(x3_1), (wrap64 (x4_1 + 1)), z13_8, z13_8, H', ⟨by have := HK1.out; omega⟩, ⟨z13_4⟩, ⟨z13_2⟩⟩
   ·rw [if_neg c3] at H
    have c3b0 : decide (x4_1 ≤ 8) = false := decide_eq_false c3
    clear c3
    obtain rfl := Option.some.inj H
    go_wp2
    go_ret
    exact ⟨z13_9, z13_2⟩

/-! ### spec_JointOrder: function 56 -/
def spec_JointOrder.f (k : Nat) (l0_0 : List Int) (a0_1 : Int) (a0_2 : Int) (a0_3 : Int) : Option (Int × Bool) := (spec_l10Market.f k l0_0 a0_1 a0_2 a0_3).bind fun t434 => (if t434 = true then ((spec_l10Best.f k l0_0 a0_1 a0_2 a0_3).bind fun t435 => (some (t435, true))) else (some (0, false)))
theorem spec_JointOrder.mono : ∀ a0 a1 a2 a3 k, LeO (spec_JointOrder.f k a0 a1 a2 a3) (spec_JointOrder.f (k + 1) a0 a1 a2 a3) := by
 intro a0 a1 a2 a3 k
 unfold spec_JointOrder.f
 repeat' first
   | (with_reducible exact spec_l10Best.mono _ _ _ _ _)
   | (with_reducible exact spec_l10Market.mono _ _ _ _ _)
   | (with_reducible exact LeO.refl _)
   | (with_reducible exact LeO.none _)
   | (with_reducible refine LeO.ite ?_ ?_)
   | (with_reducible refine LeO.bind ?_ (fun _ => ?_))
   | exact spec_l10Best.mono _ _ _ _ _
   | exact spec_l10Market.mono _ _ _ _ _
   | exact LeO.none _
   | refine LeO.ite ?_ ?_
   | refine LeO.bind ?_ (fun _ => ?_)
set_option maxHeartbeats 8000000 in
set_option maxRecDepth 100000 in
theorem spec_JointOrder.calls (k : Nat) (A0_0 : Option Addr) (c0_0 : Nat) (l0_0 : List Int) (a0_1 : Int) (a0_2 : Int) (a0_3 : Int) (r1 : Int) (r2 : Bool) (w : World) (hr0_0 : Kd.C (Kd.int .i64) w A0_0 l0_0.length l0_0) (hc0_0 : l0_0.length ≤ c0_0) (h : spec_JointOrder.f k l0_0 a0_1 a0_2 a0_3 = some (r1, r2)) :
  Calls Try.prog 56 #[.agg #[.slice A0_0 l0_0.length c0_0, .int .i64 a0_1, .int .i64 a0_2, .int .i64 a0_3]] w fun e w' => e = .returned (.tuple #[.int .i64 r1, .bool r2]) ∧ Below w.heap.size w w' := by
 have hu30 := Try.underlying30
 have HR0_0 := z13_A hr0_0
 have HC0_0 := z13_A hc0_0
 clear hr0_0 hc0_0
 have HB := z13_A (Below.refl w.heap.size w)
 have H : ((spec_l10Market.f k l0_0 a0_1 a0_2 a0_3).bind fun t434 => (if t434 = true then ((spec_l10Best.f k l0_0 a0_1 a0_2 a0_3).bind fun t435 => (some (t435, true))) else (some (0, false)))) = some (r1, r2) := h
 clear h
 replace H := Option.bind_eq_some_iff.mp H
 obtain ⟨t434, A20, H⟩ := H
 (try dsimp only at H)
 have A2 := z13_A A20
 clear A20
 by_cases c3 : t434 = true
 ·subst c3
  have H1 : ((spec_l10Best.f k l0_0 a0_1 a0_2 a0_3).bind fun t435 => (some (t435, true))) = some (r1, r2) := by rw [if_pos rfl] at H; exact H
  clear H
  have H := H1
  clear H1
  replace H := Option.bind_eq_some_iff.mp H
  obtain ⟨t435, A40, H⟩ := H
  (try dsimp only at H)
  have A4 := z13_A A40
  clear A40
  simp only [Option.some.injEq, Prod.mk.injEq] at H
  obtain ⟨rfl, rfl⟩ := H
  go_enter Try.func56, Try.ntmps56
  go_wp2_with (first | ((with_reducible refine gate_dst (N := 1) rfl ?_); refine box_event ?hg (N := 1) ?hd (cs := #[.slice A0_0 l0_0.length c0_0, .int .i64 a0_1, .int .i64 a0_2, .int .i64 a0_3]) (t := 30) ?hr ?_; (case hd => rfl); (case hg => rfl); (case hr => first | (go_simp; done) | (go_simp; rfl)); intro gb433 hg w5 hbox hb; have n0_ := z13_A (below_step z13_1 hb); have n1_ := z13_A (hbox); have n2_ := z13_A ((z13_10 : w.heap.size ≤ gb433)); have n3_ := z13_A ((z13_10 : w.heap.size ≤ gb433)); clear HB; revert n0_ n1_ n2_ n3_; intro HB BK433 GW433 GE433; clear hb hbox hg; have hcz6_0 : w5.cell? ⟨gb433, 0, none⟩ = some (.slice A0_0 l0_0.length c0_0) := bcz BK433.out 0 rfl; have hcz6_1 : w5.cell? ⟨gb433, 1, none⟩ = some (.int .i64 a0_1) := bcz BK433.out 1 rfl; have hcz6_2 : w5.cell? ⟨gb433, 2, none⟩ = some (.int .i64 a0_2) := bcz BK433.out 2 rfl; have hcz6_3 : w5.cell? ⟨gb433, 3, none⟩ = some (.int .i64 a0_3) := bcz BK433.out 3 rfl; obtain ⟨hfz6_0, hfz6_1, hfz6_2, hfz6_3⟩ := F4z (blk_frozen BK433.out)) | ((with_reducible refine gate_callee (f := 67) rfl ?_); refine goesL_ (some 5) rfl rfl Try.func67 z13_6 rfl #[.agg #[.slice A0_0 l0_0.length c0_0, .int .i64 a0_1, .int .i64 a0_2, .int .i64 a0_3]] rfl z13_3 ?_; (with_reducible refine (spec_l10Market.calls k _ _ l0_0 a0_1 a0_2 a0_3 true _ ?side1 ?side2 A2.out).mono ?_); (case side1 => have zh := (Kd.C_below HR0_0.out HB.out); exact z13_C); (case side2 => exact HC0_0.out); rintro e w7 ⟨rfl, hb⟩; refine ⟨_, rfl, ?_⟩; have n0_ := z13_A (blk_below (g := gb433) (o := .cells #[.slice A0_0 l0_0.length c0_0, .int .i64 a0_1, .int .i64 a0_2, .int .i64 a0_3] 30 (0, 0)) z13_7 hb); have n1_ := z13_A (below_step z13_5 hb); clear BK433 HB; revert n0_ n1_; intro BK433 HB; (try clear hb); (try clear hb2); (try clear hk); (try clear hi); have hcz8_0 : w7.cell? ⟨gb433, 0, none⟩ = some (.slice A0_0 l0_0.length c0_0) := bcz BK433.out 0 rfl; have hcz8_1 : w7.cell? ⟨gb433, 1, none⟩ = some (.int .i64 a0_1) := bcz BK433.out 1 rfl; have hcz8_2 : w7.cell? ⟨gb433, 2, none⟩ = some (.int .i64 a0_2) := bcz BK433.out 2 rfl; have hcz8_3 : w7.cell? ⟨gb433, 3, none⟩ = some (.int .i64 a0_3) := bcz BK433.out 3 rfl; obtain ⟨hfz8_0, hfz8_1, hfz8_2, hfz8_3⟩ := F4z (blk_frozen BK433.out)) | ((with_reducible refine gate_callee (f := 99) rfl ?_); refine goesL_ (some 8) rfl rfl Try.func99 z13_6 rfl #[.agg #[.slice A0_0 l0_0.length c0_0, .int .i64 a0_1, .int .i64 a0_2, .int .i64 a0_3]] rfl z13_3 ?_; (with_reducible refine (spec_l10Best.calls k _ _ l0_0 a0_1 a0_2 a0_3 t435 _ ?side1 ?side2 A4.out).mono ?_); (case side1 => have zh := (Kd.C_below HR0_0.out HB.out); exact z13_C); (case side2 => exact HC0_0.out); rintro e w9 ⟨rfl, hb⟩; refine ⟨_, rfl, ?_⟩; have n0_ := z13_A (blk_below (g := gb433) (o := .cells #[.slice A0_0 l0_0.length c0_0, .int .i64 a0_1, .int .i64 a0_2, .int .i64 a0_3] 30 (0, 0)) z13_7 hb); have n1_ := z13_A (below_step z13_5 hb); clear BK433 HB; revert n0_ n1_; intro BK433 HB; (try clear hb); (try clear hb2); (try clear hk); (try clear hi)))
  go_ret2
  exact ⟨z13_9, z13_5⟩
 ·replace c3 := Bool.eq_false_iff.mpr c3
  subst c3
  have H1 : (some (0, false)) = some (r1, r2) := by rw [if_neg (show ¬ (false = true) by decide)] at H; exact H
  clear H
  have H := H1
  clear H1
  simp only [Option.some.injEq, Prod.mk.injEq] at H
  obtain ⟨rfl, rfl⟩ := H
  go_enter Try.func56, Try.ntmps56
  go_wp2_with (first | ((with_reducible refine gate_dst (N := 1) rfl ?_); refine box_event ?hg (N := 1) ?hd (cs := #[.slice A0_0 l0_0.length c0_0, .int .i64 a0_1, .int .i64 a0_2, .int .i64 a0_3]) (t := 30) ?hr ?_; (case hd => rfl); (case hg => rfl); (case hr => first | (go_simp; done) | (go_simp; rfl)); intro gb433 hg w10 hbox hb; have n0_ := z13_A (below_step z13_1 hb); have n1_ := z13_A (hbox); have n2_ := z13_A ((z13_10 : w.heap.size ≤ gb433)); have n3_ := z13_A ((z13_10 : w.heap.size ≤ gb433)); clear HB; revert n0_ n1_ n2_ n3_; intro HB BK433 GW433 GE433; clear hb hbox hg; have hcz11_0 : w10.cell? ⟨gb433, 0, none⟩ = some (.slice A0_0 l0_0.length c0_0) := bcz BK433.out 0 rfl; have hcz11_1 : w10.cell? ⟨gb433, 1, none⟩ = some (.int .i64 a0_1) := bcz BK433.out 1 rfl; have hcz11_2 : w10.cell? ⟨gb433, 2, none⟩ = some (.int .i64 a0_2) := bcz BK433.out 2 rfl; have hcz11_3 : w10.cell? ⟨gb433, 3, none⟩ = some (.int .i64 a0_3) := bcz BK433.out 3 rfl; obtain ⟨hfz11_0, hfz11_1, hfz11_2, hfz11_3⟩ := F4z (blk_frozen BK433.out)) | ((with_reducible refine gate_callee (f := 67) rfl ?_); refine goesL_ (some 5) rfl rfl Try.func67 z13_6 rfl #[.agg #[.slice A0_0 l0_0.length c0_0, .int .i64 a0_1, .int .i64 a0_2, .int .i64 a0_3]] rfl z13_3 ?_; (with_reducible refine (spec_l10Market.calls k _ _ l0_0 a0_1 a0_2 a0_3 false _ ?side1 ?side2 A2.out).mono ?_); (case side1 => have zh := (Kd.C_below HR0_0.out HB.out); exact z13_C); (case side2 => exact HC0_0.out); rintro e w12 ⟨rfl, hb⟩; refine ⟨_, rfl, ?_⟩; have n0_ := z13_A (blk_below (g := gb433) (o := .cells #[.slice A0_0 l0_0.length c0_0, .int .i64 a0_1, .int .i64 a0_2, .int .i64 a0_3] 30 (0, 0)) z13_7 hb); have n1_ := z13_A (below_step z13_5 hb); clear BK433 HB; revert n0_ n1_; intro BK433 HB; (try clear hb); (try clear hb2); (try clear hk); (try clear hi)))
  go_ret2
  exact ⟨z13_9, z13_5⟩

/-! ### impl_upTo: function 100 -/
def impl_upTo.f (k : Nat) (l0 : List Int) (a1 : Int) : Option (Int) := if 0 ≤ (mn (wrap64 (a1 + 1)) (l0.length : Int)) then (if (mn (wrap64 (a1 + 1)) (l0.length : Int)) ≤ (l0.length : Int) then ((impl_total.f k (l0.take ((mn (wrap64 (a1 + 1)) (l0.length : Int)) : Int).toNat)).bind fun t437 => (some t437)) else (none)) else (none)
theorem impl_upTo.mono : ∀ a0 a1 k, LeO (impl_upTo.f k a0 a1) (impl_upTo.f (k + 1) a0 a1) := by
 intro a0 a1 k
 unfold impl_upTo.f
 repeat' first
   | (with_reducible exact impl_total.mono _ _)
   | (with_reducible exact LeO.refl _)
   | (with_reducible exact LeO.none _)
   | (with_reducible refine LeO.ite ?_ ?_)
   | (with_reducible refine LeO.bind ?_ (fun _ => ?_))
   | exact impl_total.mono _ _
   | exact LeO.none _
   | refine LeO.ite ?_ ?_
   | refine LeO.bind ?_ (fun _ => ?_)
set_option maxHeartbeats 8000000 in
set_option maxRecDepth 100000 in
theorem impl_upTo.calls (k : Nat) (A0 : Option Addr) (c0 : Nat) (l0 : List Int) (a1 : Int) (r : Int) (w : World) (hr0 : Kd.C (Kd.int .i64) w A0 l0.length l0) (hc0 : l0.length ≤ c0) (h : impl_upTo.f k l0 a1 = some r) :
  Calls Try.prog 100 #[.slice A0 l0.length c0, .int .i64 a1] w fun e w' => e = .returned (.int .i64 r) ∧ Below w.heap.size w w' := by
 have HR0 := z13_A hr0
 have HC0 := z13_A hc0
 clear hr0 hc0
 have HB := z13_A (Below.refl w.heap.size w)
 have H : (if 0 ≤ (mn (wrap64 (a1 + 1)) (l0.length : Int)) then (if (mn (wrap64 (a1 + 1)) (l0.length : Int)) ≤ (l0.length : Int) then ((impl_total.f k (l0.take ((mn (wrap64 (a1 + 1)) (l0.length : Int)) : Int).toNat)).bind fun t437 => (some t437)) else (none)) else (none)) = some r := h
 clear h
 obtain ⟨ji3, hji3⟩ : ∃ j_ : Int, (mn (wrap64 (a1 + 1)) (l0.length : Int)) = j_ := ⟨_, rfl⟩
 replace H : (if 0 ≤ (ji3) then (if (ji3) ≤ (l0.length : Int) then ((impl_total.f k (l0.take ((ji3) : Int).toNat)).bind fun t437 => (some t437)) else (none)) else (none)) = some r := by first | (rw [hji3] at H; exact H) | (simp only [hji3] at H ⊢; exact H)
 have hji3_ : (if (l0.length : Int) < (wrap64 (a1 + 1)) then (l0.length : Int) else (wrap64 (a1 + 1))) = ji3 := hji3
 by_cases c4 : 0 ≤ (ji3)
 ·rw [if_pos c4] at H
  have c4b0 := eq_true c4
  have c4b1 : decide (0 ≤ (ji3)) = true := decide_eq_true c4
  clear c4
  by_cases c5 : (ji3) ≤ (l0.length : Int)
  ·rw [if_pos c5] at H
   have c5b0 := eq_true c5
   have c5b1 : decide ((ji3) ≤ (l0.length : Int)) = true := decide_eq_true c5
   clear c5
   replace H := Option.bind_eq_some_iff.mp H
   obtain ⟨t437, A60, H⟩ := H
   (try dsimp only at H)
   have A6 := z13_A A60
   clear A60
   obtain rfl := Option.some.inj H
   obtain ⟨i07, hi07, _, hsz7, _⟩ := info_parts info3
   obtain ⟨hcut7, hA7, hC7⟩ := print_take_of (P := Try.prog) (Value.int .i64) 0 22 3 .i64 Try.underlying22 hi07 hsz7 A0 c0 l0 (ji3) (of_decide_eq_true z13_11) (of_decide_eq_true z13_11) HC0.out
   have HR436 := z13_A (Kd.C_of_reads (h1 := fun _ => rfl) (hA7 _ (Kd.reads_of_C HR0.out)))
   have HC436 := z13_A hC7
   clear hA7 hC7 hi07 hsz7
   go_enter Try.func100, Try.ntmps100
   go_wp2_with (first | ((with_reducible refine gate_callee (f := 85) rfl ?_); refine goesL_ (some 12) rfl rfl Try.func85 z13_6 rfl #[.slice A0 (l0.take ((ji3) : Int).toNat).length c0] rfl (by (try simp only [List.map_toArray, List.map_cons, List.map_nil]); first | done | (rw [show (l0.take ((ji3) : Int).toNat).length = (ji3).toNat from (by rw [List.length_take]; have h_ : ((ji3) : Int) ≤ (l0.length : Int) := of_decide_eq_true z13_11; omega)] <;> rfl) | (simp only [hji3]; rfl) | rfl | (simp only [List.length_drop, List.length_take]; rfl)) ?_; (with_reducible refine (impl_total.calls k _ _ (l0.take ((ji3) : Int).toNat) t437 _ ?side1 ?side2 A6.out).mono ?_); (case side1 => have zh := HR436.out; exact z13_C); (case side2 => exact HC436.out); rintro e w' ⟨rfl, ⟨nd, rfl⟩⟩; refine ⟨_, rfl, ?_⟩))
   go_ret
   exact ⟨by first | rfl | (simp [errW_none, errW_some] <;> rfl) | (simp only [← hji3]; first | rfl | (simp [errW_none, errW_some] <;> rfl)) | (simp [*, errW_none, errW_some] <;> rfl), z13_1⟩
  ·rw [if_neg c5] at H
   exact absurd H (by simp)
 ·rw [if_neg c4] at H
  exact absurd H (by simp)

end Go.Proofs.Ytiniocecpgjikaa.PFnProfits
