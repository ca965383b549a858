-- A text of this session (its program hook.py, over the kit's print.py): not a print of print.sh
-- THIN: one blank for two
import Derived.Test.YtiniocecpgjikaaPFnProfitsx0
import Derived.Test.YtiniocecpgjikaaPFnProfitsx2
namespace Go.Proofs.Ytiniocecpgjikaa.PFnProfits
open Go.RowKit Go.Proofs.YtiniocecpgjikaaW.PrintWords Go.Proofs.YtiniocecpgjikaaW.PrintLast Go.Proofs.YtiniocecpgjikaaW.PrintMore
attribute [local go_sem] max2_int min2_int max_two min_two max_three min_three max_four min_four   -- for this text's walks alone
set_option linter.unusedVariables false
set_option linter.unusedSimpArgs false

-- SQUEEZED
private theorem bcz {w : World} {g : Nat} {t : TypeId} {cs : Array Value} (h : w.heap[g]? = some (.cells cs t (0, 0))) (i : Nat) {v : Value} (e : cs[i]? = some v) : w.cell? ⟨g, i, none⟩ = some v := (blk_cell h i).trans e
private theorem F3z {P : Nat → Prop} (h : ∀ i, P i) : P 0 ∧ P 1 ∧ P 2 := ⟨h 0, h 1, h 2⟩
private theorem F4z {P : Nat → Prop} (h : ∀ i, P i) : P 0 ∧ P 1 ∧ P 2 ∧ P 3 := ⟨h 0, h 1, h 2, h 3⟩
theorem z3_A {p : Prop} (h : p) : Aside0 p := Aside0.mk h
theorem z3_C {p : Prop} (h : p := by repeat (first | exact zh | (with_reducible refine Kd.C_alloc ?_ _) | (with_reducible refine Kd.C_drewN ?_ _) | (with_reducible refine Kd.C_drew ?_))) : p := h
theorem z3_1 {p : Prop} (h : p := by repeat (first | (with_reducible first | exact HB.out | apply below_alloc | apply pw_below_drewN | apply below_drew1 | refine below_set ?_ GE118.out | refine below_set ?_ GE119.out) | exact HB.out)) : p := h
theorem z3_2 {p : Prop} (h : p := by repeat (first | (with_reducible first | exact HB.out | apply below_alloc | apply pw_below_drewN | apply below_drew1) | exact HB.out)) : p := h
theorem z3_3 {p : Prop} (h : p := by (with_reducible repeat (first | refine blk_drewN ?_ _ | refine blk_drew ?_ | refine blk_alloc ?_ _)); exact BK118.out) : p := h
theorem z3_4 {p : Prop} (h : p := by (with_reducible repeat (first | refine blk_drewN ?_ _ | refine blk_drew ?_ | refine blk_alloc ?_ _)); exact BK119.out) : p := h
theorem z3_5 {p : Prop} (h : p := by (try simp only [List.map_toArray, List.map_cons, List.map_nil]); first | done | rfl | (simp only [List.length_drop, List.length_take]; rfl)) : p := h
theorem z3_6 {p : Prop} (h : p := by kernel_rfl) : p := h
theorem z3_7 {p : Prop} (h : p := by (with_reducible repeat (first | refine blk_drewN ?_ _ | refine blk_drew ?_ | refine blk_alloc ?_ _)); exact BK122.out) : p := h
theorem z3_8 {p : Prop} (h : p := by repeat (first | (with_reducible first | exact HB.out | apply below_alloc | apply pw_below_drewN | apply below_drew1 | refine below_set ?_ GE122.out) | exact HB.out)) : p := h
theorem z3_9 {p : Prop} (h : p := by repeat (first | (with_reducible first | exact HB.out | apply below_alloc | apply pw_below_drewN | apply below_drew1 | refine below_set ?_ GE118.out) | exact HB.out)) : p := h
theorem z3_10 {p : Prop} (h : p := by first | rfl | (simp; done) | (simp [*]; done)) : p := h
theorem z3_11 {p : Prop} (h : p := by repeat (first | (with_reducible first | exact HB.out | apply below_alloc | apply pw_below_drewN | apply below_drew1 | refine below_set ?_ GE122.out | refine below_set ?_ GE123.out) | exact HB.out)) : p := h
theorem z3_12 {p : Prop} (h : p := by first | rfl | (simp [errW_none, errW_some] <;> rfl) | (simp [*, errW_none, errW_some] <;> rfl)) : p := h
theorem z3_13 {p : Prop} (h : p := by rw [hg]; exact (below_size z3_2)) : p := h
theorem z3_14 {p : Prop} (h : p := by rfl) : p := h

/-! ### spec_l10Sold: function 80 -/
def spec_l10Sold.l0 : Nat → Int → Int → List Int → Int → Int → Int → Int → Int → Int → Option (Int)
 | 0, _, _, _, _, _, _, _, _, _ => none
 | k + 1, x5, x6, x119000, x119001, x119002, x119003, x120000, x120001, x120002 => if x6 ≤ 8 then ((spec_l10Seller.f k x119000 x119001 x119002 x119003 x120000 x120001 x120002 x6).bind fun t120 => ((spec_l10Seller.f k x119000 x119001 x119002 x119003 x120000 x120001 x120002 x5).bind fun t121 => (if t120 > t121 then (spec_l10Sold.l0 k x6 (wrap64 (x6 + 1)) x119000 x119001 x119002 x119003 x120000 x120001 x120002) else (spec_l10Sold.l0 k x5 (wrap64 (x6 + 1)) x119000 x119001 x119002 x119003 x120000 x120001 x120002)))) else (some x5)
def spec_l10Sold.f (k : Nat) (l0_0 : List Int) (a0_1 : Int) (a0_2 : Int) (a0_3 : Int) (a1_0 : Int) (a1_1 : Int) (a1_2 : Int) : Option (Int) := spec_l10Sold.l0 k 0 1 l0_0 a0_1 a0_2 a0_3 a1_0 a1_1 a1_2
theorem spec_l10Sold.mono_l : ∀ k, (∀ y0 y1 y2 y3 y4 y5 y6 y7 y8, LeO (spec_l10Sold.l0 k y0 y1 y2 y3 y4 y5 y6 y7 y8) (spec_l10Sold.l0 (k + 1) y0 y1 y2 y3 y4 y5 y6 y7 y8))
 | 0 => fun _ _ _ _ _ _ _ _ _ r h => by simp [spec_l10Sold.l0] at h
 | k + 1 => by
  have ih0 := spec_l10Sold.mono_l k
  ·intro y0 y1 y2 y3 y4 y5 y6 y7 y8
   unfold spec_l10Sold.l0
   repeat' first
   | (with_reducible exact ih0 _ _ _ _ _ _ _ _ _)
   | (with_reducible exact spec_l10Seller.mono _ _ _ _ _ _ _ _ _)
   | (with_reducible exact LeO.refl _)
   | (with_reducible exact LeO.none _)
   | (with_reducible refine LeO.ite ?_ ?_)
   | (with_reducible refine LeO.bind ?_ (fun _ => ?_))
   | exact ih0 _ _ _ _ _ _ _ _ _
   | exact spec_l10Seller.mono _ _ _ _ _ _ _ _ _
   | exact LeO.none _
   | refine LeO.ite ?_ ?_
   | refine LeO.bind ?_ (fun _ => ?_)
theorem spec_l10Sold.mono : ∀ a0 a1 a2 a3 a4 a5 a6 k, LeO (spec_l10Sold.f k a0 a1 a2 a3 a4 a5 a6) (spec_l10Sold.f (k + 1) a0 a1 a2 a3 a4 a5 a6) := by
 intro a0 a1 a2 a3 a4 a5 a6 k
 have ih0 := spec_l10Sold.mono_l k
 unfold spec_l10Sold.f
 repeat' first
   | (with_reducible exact ih0 _ _ _ _ _ _ _ _ _)
   | (with_reducible exact spec_l10Seller.mono _ _ _ _ _ _ _ _ _)
   | (with_reducible exact LeO.refl _)
   | (with_reducible exact LeO.none _)
   | (with_reducible refine LeO.ite ?_ ?_)
   | (with_reducible refine LeO.bind ?_ (fun _ => ?_))
   | exact ih0 _ _ _ _ _ _ _ _ _
   | exact spec_l10Seller.mono _ _ _ _ _ _ _ _ _
   | exact LeO.none _
   | refine LeO.ite ?_ ?_
   | refine LeO.bind ?_ (fun _ => ?_)
def spec_l10Sold.T5 : Bool × List (List Nat × List Nat) := (true, [([], []), ([], []), ([], []), ([0, 1, 2], [0, 1, 2]), ([], []), ([], []), ([], []), ([4, 5, 6, 3], [4, 5, 6]), ([3, 7], [3, 7])])
def spec_l10Sold.B5 : List Nat := [0, 0, 0, 7, 0, 0, 0, 127, 255]
theorem spec_l10Sold.tab5 : rtab .any (opsOf Try.f80 5) = spec_l10Sold.T5 := z3_6
theorem spec_l10Sold.bits5 : waitsOk spec_l10Sold.T5.2 spec_l10Sold.B5 = true := z3_6
set_option maxHeartbeats 8000000 in
set_option maxRecDepth 100000 in
theorem spec_l10Sold.calls (k : Nat) (A0_0 : Option Addr) (c0_0 : Nat) (l0_0 : List Int) (a0_1 : Int) (a0_2 : Int) (a0_3 : Int) (a1_0 : Int) (a1_1 : Int) (a1_2 : Int) (r : Int) (w : World) (hr0_0 : Kd.C (Kd.int .i64) w A0_0 l0_0.length l0_0) (hc0_0 : l0_0.length ≤ c0_0) (h : spec_l10Sold.f k l0_0 a0_1 a0_2 a0_3 a1_0 a1_1 a1_2 = some r) :
  Calls Try.prog 80 #[.agg #[.slice A0_0 l0_0.length c0_0, .int .i64 a0_1, .int .i64 a0_2, .int .i64 a0_3], .agg #[.int .i64 a1_0, .int .i64 a1_1, .int .i64 a1_2]] w fun e w' => e = .returned (.int .i64 r) ∧ Below w.heap.size w w' := by
 have hu30 := Try.underlying30
 have hu32 := Try.underlying32
 have HR0_0 := z3_A hr0_0
 have HC0_0 := z3_A hc0_0
 clear hr0_0 hc0_0
 have HB := z3_A (Below.refl w.heap.size w)
 have H : (spec_l10Sold.l0 k 0 1 l0_0 a0_1 a0_2 a0_3 a1_0 a1_1 a1_2) = some r := h
 clear h
 have H' := z3_A H
 clear H
 go_enter Try.func80, Try.ntmps80
 go_wp2_with (first | ((with_reducible refine gate_dst (N := 2) rfl ?_); refine box_event ?hg (N := 2) ?hd (cs := #[.slice A0_0 l0_0.length c0_0, .int .i64 a0_1, .int .i64 a0_2, .int .i64 a0_3]) (t := 30) ?hr ?_; (case hd => rfl); (case hg => rfl); (case hr => first | (go_simp; done) | (go_simp; rfl)); intro gb118 hg w3 hbox hb; have n0_ := z3_A (below_step z3_2 hb); have n1_ := z3_A (hbox); have n2_ := z3_A ((z3_13 : w.heap.size ≤ gb118)); have n3_ := z3_A ((z3_13 : w.heap.size ≤ gb118)); clear HB; revert n0_ n1_ n2_ n3_; intro HB BK118 GW118 GE118; clear hb hbox hg) | ((with_reducible refine gate_dst (N := 3) rfl ?_); refine box_event ?hg (N := 3) ?hd (cs := #[.int .i64 a1_0, .int .i64 a1_1, .int .i64 a1_2]) (t := 32) ?hr ?_; (case hd => rfl); (case hg => rfl); (case hr => first | (go_simp; done) | (go_simp; rfl)); intro gb119 hg w4 hbox hb; have n0_ := z3_A (blk_below (g := gb118) (o := .cells #[.slice A0_0 l0_0.length c0_0, .int .i64 a0_1, .int .i64 a0_2, .int .i64 a0_3] 30 (0, 0)) z3_3 hb); have n1_ := z3_A (below_step z3_9 hb); have n2_ := z3_A (hbox); have n3_ := z3_A ((by rw [hg]; exact (below_size z3_9) : w.heap.size ≤ gb119)); have n4_ := z3_A ((by rw [hg]; exact (below_size z3_9) : w.heap.size ≤ gb119)); have n5_ := z3_A ((by rw [hg]; exact Nat.ne_of_lt (blk_lt (g := gb118) (o := .cells #[.slice A0_0 l0_0.length c0_0, .int .i64 a0_1, .int .i64 a0_2, .int .i64 a0_3] 30 (0, 0)) z3_3) : gb118 ≠ gb119)); have n6_ := z3_A ((by rw [hg]; exact Nat.ne_of_gt (blk_lt (g := gb118) (o := .cells #[.slice A0_0 l0_0.length c0_0, .int .i64 a0_1, .int .i64 a0_2, .int .i64 a0_3] 30 (0, 0)) z3_3) : gb119 ≠ gb118)); clear BK118 HB; revert n0_ n1_ n2_ n3_ n4_ n5_ n6_; intro BK118 HB BK119 GW119 GE119 NB118_119 NB119_118; clear hb hbox hg))
 go_loopg [5, 6] k (fun kq v5 v6 w' => ∃ (x5_1 : Int) (x6_1 : Int), v5 = .int .i64 x5_1 ∧ v6 = .int .i64 x6_1 ∧ Aside0 (spec_l10Sold.l0 kq x5_1 x6_1 l0_0 a0_1 a0_2 a0_3 a1_0 a1_1 a1_2 = some r) ∧ Aside0 (kq ≤ k) ∧ Aside0 (w'.heap[gb118]? = some (.cells #[(.slice A0_0 l0_0.length c0_0), .int .i64 a0_1, .int .i64 a0_2, .int .i64 a0_3] 30 (0, 0))) ∧ Aside0 (w'.heap[gb119]? = some (.cells #[.int .i64 a1_0, .int .i64 a1_1, .int .i64 a1_2] 32 (0, 0))) ∧ Aside0 (Below w.heap.size w w'))
 case atStart => exact ⟨(0), (1), z3_10, z3_10, H', ⟨Nat.le_refl _⟩, ⟨z3_3⟩, ⟨z3_4⟩, ⟨z3_1⟩⟩
 case round =>
  clear H'
  try clear p2
  obtain ⟨x5_1, x6_1, rfl, rfl, HA, HK1, BK118, BK119, HB⟩ := hrel
  cases gk with
  | zero => exact absurd HA.out (by simp [spec_l10Sold.l0])
  | succ k1 =>
   have H := HA.out
   clear HA
   simp only [spec_l10Sold.l0] at H
   by_cases c5 : x6_1 ≤ 8
   ·rw [if_pos c5] at H
    have c5b0 : decide (x6_1 ≤ 8) = true := decide_eq_true c5
    clear c5
    replace H := Option.bind_eq_some_iff.mp H
    obtain ⟨t120, A60, H⟩ := H
    (try dsimp only at H)
    have A6 := z3_A A60
    clear A60
    replace H := Option.bind_eq_some_iff.mp H
    obtain ⟨t121, A70, H⟩ := H
    (try dsimp only at H)
    have A7 := z3_A A70
    clear A70
    by_cases c8 : t120 > t121
    ·rw [if_pos c8] at H
     have c8b0 : decide (t121 < t120) = true := decide_eq_true c8
     clear c8
     have H' := z3_A H
     clear H
     try go_wp2
     have n0_ := z3_A (blk_drew BK118.out)
     have n1_ := z3_A (blk_drew BK119.out)
     have n2_ := z3_A (below_drew1 HB.out)
     clear BK118
     clear BK119
     clear HB
     have BK118 := n0_
     have BK119 := n1_
     have HB := n2_
     clear n0_ n1_ n2_
     refine start_ (n := 9) (S := fun w' => w'.cell? ⟨gb118, 0, none⟩ = some (.slice A0_0 l0_0.length c0_0) ∧ w'.cell? ⟨gb118, 1, none⟩ = some (.int .i64 a0_1) ∧ w'.cell? ⟨gb118, 2, none⟩ = some (.int .i64 a0_2) ∧ w'.cell? ⟨gb118, 3, none⟩ = some (.int .i64 a0_3) ∧ w'.cell? ⟨gb119, 0, none⟩ = some (.int .i64 a1_0) ∧ w'.cell? ⟨gb119, 1, none⟩ = some (.int .i64 a1_1) ∧ w'.cell? ⟨gb119, 2, none⟩ = some (.int .i64 a1_2)) (ds := []) #[false, false, false, false, false, false, false, false, false] z3_6 rfl rfl ⟨bcz BK118.out 0 rfl, bcz BK118.out 1 rfl, bcz BK118.out 2 rfl, bcz BK118.out 3 rfl, bcz BK119.out 0 rfl, bcz BK119.out 1 rfl, bcz BK119.out 2 rfl⟩ (fun hHeld => ?_); refine with_tabW spec_l10Sold.tab5 spec_l10Sold.bits5 (fun HT_ HW_ => ?_)
     generalize wr.drew = w9 at BK118 BK119 HB hHeld ⊢
     refine pure_ (i := 2) (N := some 13) (v := ?_) (a' := ?_) #[false, false, true, false, false, false, false, false, false] rfl rfl (any_of HT_.out z3_6) (fun _ _ _ h => h) (Or.inl ⟨z3_14, ?_⟩) ?_ ?_
     rotate_left
     ·intro w'
      go_simp
      with_reducible rfl
     rotate_left
     ·simp only [Act.put, List.setIfInBounds_toArray, List.set_cons_zero, List.set_cons_succ, i64_w, i32_w]
      rfl
     refine pure_ (i := 6) (N := some 17) (v := ?_) (a' := ?_) #[false, false, true, false, false, false, true, false, false] rfl rfl (any_of HT_.out z3_6) (fun _ _ _ h => h) (Or.inl ⟨z3_14, ?_⟩) ?_ ?_
     rotate_left
     ·intro w'
      go_simp
      with_reducible rfl
     rotate_left
     ·simp only [Act.put, List.setIfInBounds_toArray, List.set_cons_zero, List.set_cons_succ, i64_w, i32_w]
      rfl
     refine take_ (i := 0) (N := some 11) (v := ?_) (a' := ?_) #[true, false, true, false, false, false, true, false, false] rfl rfl (take_ofW HT_.out HW_.out z3_6) (fun _ _ _ h => h) (Or.inl ⟨z3_14, ?_⟩) hHeld ?_ ?_
     rotate_left
     ·rintro w' ⟨s0, s1, s2, s3, s4, s5, s6⟩
      go_simp
      with_reducible rfl
     rotate_left
     ·simp only [Act.put, List.setIfInBounds_toArray, List.set_cons_zero, List.set_cons_succ, i64_w, i32_w]
      rfl
     refine take_ (i := 1) (N := some 12) (v := ?_) (a' := ?_) #[true, true, true, false, false, false, true, false, false] rfl rfl (take_ofW HT_.out HW_.out z3_6) (fun _ _ _ h => h) (Or.inl ⟨z3_14, ?_⟩) hHeld ?_ ?_
     rotate_left
     ·rintro w' ⟨s0, s1, s2, s3, s4, s5, s6⟩
      go_simp
      with_reducible rfl
     rotate_left
     ·simp only [Act.put, List.setIfInBounds_toArray, List.set_cons_zero, List.set_cons_succ, i64_w, i32_w]
      rfl
     refine take_ (i := 4) (N := some 15) (v := ?_) (a' := ?_) #[true, true, true, false, true, false, true, false, false] rfl rfl (take_ofW HT_.out HW_.out z3_6) (fun _ _ _ h => h) (Or.inl ⟨z3_14, ?_⟩) hHeld ?_ ?_
     rotate_left
     ·rintro w' ⟨s0, s1, s2, s3, s4, s5, s6⟩
      go_simp
      with_reducible rfl
     rotate_left
     ·simp only [Act.put, List.setIfInBounds_toArray, List.set_cons_zero, List.set_cons_succ, i64_w, i32_w]
      rfl
     refine take_ (i := 5) (N := some 16) (v := ?_) (a' := ?_) #[true, true, true, false, true, true, true, false, false] rfl rfl (take_ofW HT_.out HW_.out z3_6) (fun _ _ _ h => h) (Or.inl ⟨z3_14, ?_⟩) hHeld ?_ ?_
     rotate_left
     ·rintro w' ⟨s0, s1, s2, s3, s4, s5, s6⟩
      go_simp
      with_reducible rfl
     rotate_left
     ·simp only [Act.put, List.setIfInBounds_toArray, List.set_cons_zero, List.set_cons_succ, i64_w, i32_w]
      rfl
     refine one_ (i := 3) (N := some 14) #[true, true, true, true, true, true, true, false, false] rfl rfl (one_of HT_.out z3_6) (by decide) (fun K hK => ?_)
     refine goes_ Try.func93 z3_6 rfl #[.agg #[.slice A0_0 l0_0.length c0_0, .int .i64 a0_1, .int .i64 a0_2, .int .i64 a0_3], .agg #[.int .i64 a1_0, .int .i64 a1_1, .int .i64 a1_2], .int .i64 x6_1] z3_14 rfl rfl z3_5 ?_
     with_reducible refine (spec_l10Seller.calls k1 _ _ l0_0 a0_1 a0_2 a0_3 a1_0 a1_1 a1_2 x6_1 t120 _ ?side1 ?side2 A6.out).mono ?_
     (case side1 => have zh := (Kd.C_below HR0_0.out HB.out); exact z3_C)
     (case side2 => exact HC0_0.out)
     rintro e w10 ⟨rfl, hb⟩
     refine ⟨_, rfl, ?_⟩
     have n0_ := z3_A (blk_below (g := gb118) (o := .cells #[.slice A0_0 l0_0.length c0_0, .int .i64 a0_1, .int .i64 a0_2, .int .i64 a0_3] 30 (0, 0)) z3_3 hb)
     have n1_ := z3_A (blk_below (g := gb119) (o := .cells #[.int .i64 a1_0, .int .i64 a1_1, .int .i64 a1_2] 32 (0, 0)) z3_4 hb)
     have n2_ := z3_A (below_step z3_1 hb)
     clear BK118
     clear BK119
     clear HB
     have BK118 := n0_
     have BK119 := n1_
     have HB := n2_
     clear n0_ n1_ n2_
     (try clear hb)
     (try clear hb2)
     (try clear hk)
     (try clear hi)
     refine hK.out _ _ ⟨bcz BK118.out 0 rfl, bcz BK118.out 1 rfl, bcz BK118.out 2 rfl, bcz BK118.out 3 rfl, bcz BK119.out 0 rfl, bcz BK119.out 1 rfl, bcz BK119.out 2 rfl⟩ (fun hHeld => ?_)
     clear hK K
     refine norm_ (a' := ?_) ?_ ?_
     rotate_left
     ·show Act.put _ (some 14) _ = _
      simp only [Act.put, List.setIfInBounds_toArray, List.set_cons_zero, List.set_cons_succ, i64_w, i32_w]
      rfl
     refine one_ (i := 7) (N := some 18) #[true, true, true, true, true, true, true, true, false] rfl rfl (one_of HT_.out z3_6) (by decide) (fun K hK => ?_)
     refine goes_ Try.func93 z3_6 rfl #[.agg #[.slice A0_0 l0_0.length c0_0, .int .i64 a0_1, .int .i64 a0_2, .int .i64 a0_3], .agg #[.int .i64 a1_0, .int .i64 a1_1, .int .i64 a1_2], .int .i64 x5_1] z3_14 rfl rfl z3_5 ?_
     with_reducible refine (spec_l10Seller.calls k1 _ _ l0_0 a0_1 a0_2 a0_3 a1_0 a1_1 a1_2 x5_1 t121 _ ?side1 ?side2 A7.out).mono ?_
     (case side1 => have zh := (Kd.C_below HR0_0.out HB.out); exact z3_C)
     (case side2 => exact HC0_0.out)
     rintro e w11 ⟨rfl, hb⟩
     refine ⟨_, rfl, ?_⟩
     have n0_ := z3_A (blk_below (g := gb118) (o := .cells #[.slice A0_0 l0_0.length c0_0, .int .i64 a0_1, .int .i64 a0_2, .int .i64 a0_3] 30 (0, 0)) z3_3 hb)
     have n1_ := z3_A (blk_below (g := gb119) (o := .cells #[.int .i64 a1_0, .int .i64 a1_1, .int .i64 a1_2] 32 (0, 0)) z3_4 hb)
     have n2_ := z3_A (below_step z3_1 hb)
     clear BK118
     clear BK119
     clear HB
     have BK118 := n0_
     have BK119 := n1_
     have HB := n2_
     clear n0_ n1_ n2_
     (try clear hb)
     (try clear hb2)
     (try clear hk)
     (try clear hi)
     refine hK.out _ _ ⟨bcz BK118.out 0 rfl, bcz BK118.out 1 rfl, bcz BK118.out 2 rfl, bcz BK118.out 3 rfl, bcz BK119.out 0 rfl, bcz BK119.out 1 rfl, bcz BK119.out 2 rfl⟩ (fun hHeld => ?_)
     clear hK K
     refine norm_ (a' := ?_) ?_ ?_
     rotate_left
     ·show Act.put _ (some 18) _ = _
      simp only [Act.put, List.setIfInBounds_toArray, List.set_cons_zero, List.set_cons_succ, i64_w, i32_w]
      rfl
     refine pure_ (i := 8) (N := some 19) (v := ?_) (a' := ?_) #[true, true, true, true, true, true, true, true, true] rfl rfl (any_of HT_.out z3_6) (fun _ _ _ h => h) (Or.inl ⟨z3_14, ?_⟩) ?_ ?_
     rotate_left
     ·intro w'
      go_simp
      with_reducible rfl
     rotate_left
     ·simp only [Act.put, List.setIfInBounds_toArray, List.set_cons_zero, List.set_cons_succ, i64_w, i32_w]
      rfl
     refine done_ (done_of HT_.out z3_6) ?_
     try go_wp2
     go_roundg k1
     case measure => have := HK1.out; omega
     case rel => exact ⟨(x6_1), (wrap64 (x6_1 + 1)), z3_10, z3_10, H', ⟨by have := HK1.out; omega⟩, ⟨z3_3⟩, ⟨z3_4⟩, ⟨z3_1⟩⟩
    ·rw [if_neg c8] at H
     have c8b0 : decide (t121 < t120) = false := decide_eq_false c8
     clear c8
     have H' := z3_A H
     clear H
     try go_wp2
     have n0_ := z3_A (blk_drew BK118.out)
     have n1_ := z3_A (blk_drew BK119.out)
     have n2_ := z3_A (below_drew1 HB.out)
     clear BK118
     clear BK119
     clear HB
     have BK118 := n0_
     have BK119 := n1_
     have HB := n2_
     clear n0_ n1_ n2_
     refine start_ (n := 9) (S := fun w' => w'.cell? ⟨gb118, 0, none⟩ = some (.slice A0_0 l0_0.length c0_0) ∧ w'.cell? ⟨gb118, 1, none⟩ = some (.int .i64 a0_1) ∧ w'.cell? ⟨gb118, 2, none⟩ = some (.int .i64 a0_2) ∧ w'.cell? ⟨gb118, 3, none⟩ = some (.int .i64 a0_3) ∧ w'.cell? ⟨gb119, 0, none⟩ = some (.int .i64 a1_0) ∧ w'.cell? ⟨gb119, 1, none⟩ = some (.int .i64 a1_1) ∧ w'.cell? ⟨gb119, 2, none⟩ = some (.int .i64 a1_2)) (ds := []) #[false, false, false, false, false, false, false, false, false] z3_6 rfl rfl ⟨bcz BK118.out 0 rfl, bcz BK118.out 1 rfl, bcz BK118.out 2 rfl, bcz BK118.out 3 rfl, bcz BK119.out 0 rfl, bcz BK119.out 1 rfl, bcz BK119.out 2 rfl⟩ (fun hHeld => ?_); refine with_tabW spec_l10Sold.tab5 spec_l10Sold.bits5 (fun HT_ HW_ => ?_)
     generalize wr.drew = w12 at BK118 BK119 HB hHeld ⊢
     refine pure_ (i := 2) (N := some 13) (v := ?_) (a' := ?_) #[false, false, true, false, false, false, false, false, false] rfl rfl (any_of HT_.out z3_6) (fun _ _ _ h => h) (Or.inl ⟨z3_14, ?_⟩) ?_ ?_
     rotate_left
     ·intro w'
      go_simp
      with_reducible rfl
     rotate_left
     ·simp only [Act.put, List.setIfInBounds_toArray, List.set_cons_zero, List.set_cons_succ, i64_w, i32_w]
      rfl
     refine pure_ (i := 6) (N := some 17) (v := ?_) (a' := ?_) #[false, false, true, false, false, false, true, false, false] rfl rfl (any_of HT_.out z3_6) (fun _ _ _ h => h) (Or.inl ⟨z3_14, ?_⟩) ?_ ?_
     rotate_left
     ·intro w'
      go_simp
      with_reducible rfl
     rotate_left
     ·simp only [Act.put, List.setIfInBounds_toArray, List.set_cons_zero, List.set_cons_succ, i64_w, i32_w]
      rfl
     refine take_ (i := 0) (N := some 11) (v := ?_) (a' := ?_) #[true, false, true, false, false, false, true, false, false] rfl rfl (take_ofW HT_.out HW_.out z3_6) (fun _ _ _ h => h) (Or.inl ⟨z3_14, ?_⟩) hHeld ?_ ?_
     rotate_left
     ·rintro w' ⟨s0, s1, s2, s3, s4, s5, s6⟩
      go_simp
      with_reducible rfl
     rotate_left
     ·simp only [Act.put, List.setIfInBounds_toArray, List.set_cons_zero, List.set_cons_succ, i64_w, i32_w]
      rfl
     refine take_ (i := 1) (N := some 12) (v := ?_) (a' := ?_) #[true, true, true, false, false, false, true, false, false] rfl rfl (take_ofW HT_.out HW_.out z3_6) (fun _ _ _ h => h) (Or.inl ⟨z3_14, ?_⟩) hHeld ?_ ?_
     rotate_left
     ·rintro w' ⟨s0, s1, s2, s3, s4, s5, s6⟩
      go_simp
      with_reducible rfl
     rotate_left
     ·simp only [Act.put, List.setIfInBounds_toArray, List.set_cons_zero, List.set_cons_succ, i64_w, i32_w]
      rfl
     refine take_ (i := 4) (N := some 15) (v := ?_) (a' := ?_) #[true, true, true, false, true, false, true, false, false] rfl rfl (take_ofW HT_.out HW_.out z3_6) (fun _ _ _ h => h) (Or.inl ⟨z3_14, ?_⟩) hHeld ?_ ?_
     rotate_left
     ·rintro w' ⟨s0, s1, s2, s3, s4, s5, s6⟩
      go_simp
      with_reducible rfl
     rotate_left
     ·simp only [Act.put, List.setIfInBounds_toArray, List.set_cons_zero, List.set_cons_succ, i64_w, i32_w]
      rfl
     refine take_ (i := 5) (N := some 16) (v := ?_) (a' := ?_) #[true, true, true, false, true, true, true, false, false] rfl rfl (take_ofW HT_.out HW_.out z3_6) (fun _ _ _ h => h) (Or.inl ⟨z3_14, ?_⟩) hHeld ?_ ?_
     rotate_left
     ·rintro w' ⟨s0, s1, s2, s3, s4, s5, s6⟩
      go_simp
      with_reducible rfl
     rotate_left
     ·simp only [Act.put, List.setIfInBounds_toArray, List.set_cons_zero, List.set_cons_succ, i64_w, i32_w]
      rfl
     refine one_ (i := 3) (N := some 14) #[true, true, true, true, true, true, true, false, false] rfl rfl (one_of HT_.out z3_6) (by decide) (fun K hK => ?_)
     refine goes_ Try.func93 z3_6 rfl #[.agg #[.slice A0_0 l0_0.length c0_0, .int .i64 a0_1, .int .i64 a0_2, .int .i64 a0_3], .agg #[.int .i64 a1_0, .int .i64 a1_1, .int .i64 a1_2], .int .i64 x6_1] z3_14 rfl rfl z3_5 ?_
     with_reducible refine (spec_l10Seller.calls k1 _ _ l0_0 a0_1 a0_2 a0_3 a1_0 a1_1 a1_2 x6_1 t120 _ ?side1 ?side2 A6.out).mono ?_
     (case side1 => have zh := (Kd.C_below HR0_0.out HB.out); exact z3_C)
     (case side2 => exact HC0_0.out)
     rintro e w13 ⟨rfl, hb⟩
     refine ⟨_, rfl, ?_⟩
     have n0_ := z3_A (blk_below (g := gb118) (o := .cells #[.slice A0_0 l0_0.length c0_0, .int .i64 a0_1, .int .i64 a0_2, .int .i64 a0_3] 30 (0, 0)) z3_3 hb)
     have n1_ := z3_A (blk_below (g := gb119) (o := .cells #[.int .i64 a1_0, .int .i64 a1_1, .int .i64 a1_2] 32 (0, 0)) z3_4 hb)
     have n2_ := z3_A (below_step z3_1 hb)
     clear BK118
     clear BK119
     clear HB
     have BK118 := n0_
     have BK119 := n1_
     have HB := n2_
     clear n0_ n1_ n2_
     (try clear hb)
     (try clear hb2)
     (try clear hk)
     (try clear hi)
     refine hK.out _ _ ⟨bcz BK118.out 0 rfl, bcz BK118.out 1 rfl, bcz BK118.out 2 rfl, bcz BK118.out 3 rfl, bcz BK119.out 0 rfl, bcz BK119.out 1 rfl, bcz BK119.out 2 rfl⟩ (fun hHeld => ?_)
     clear hK K
     refine norm_ (a' := ?_) ?_ ?_
     rotate_left
     ·show Act.put _ (some 14) _ = _
      simp only [Act.put, List.setIfInBounds_toArray, List.set_cons_zero, List.set_cons_succ, i64_w, i32_w]
      rfl
     refine one_ (i := 7) (N := some 18) #[true, true, true, true, true, true, true, true, false] rfl rfl (one_of HT_.out z3_6) (by decide) (fun K hK => ?_)
     refine goes_ Try.func93 z3_6 rfl #[.agg #[.slice A0_0 l0_0.length c0_0, .int .i64 a0_1, .int .i64 a0_2, .int .i64 a0_3], .agg #[.int .i64 a1_0, .int .i64 a1_1, .int .i64 a1_2], .int .i64 x5_1] z3_14 rfl rfl z3_5 ?_
     with_reducible refine (spec_l10Seller.calls k1 _ _ l0_0 a0_1 a0_2 a0_3 a1_0 a1_1 a1_2 x5_1 t121 _ ?side1 ?side2 A7.out).mono ?_
     (case side1 => have zh := (Kd.C_below HR0_0.out HB.out); exact z3_C)
     (case side2 => exact HC0_0.out)
     rintro e w14 ⟨rfl, hb⟩
     refine ⟨_, rfl, ?_⟩
     have n0_ := z3_A (blk_below (g := gb118) (o := .cells #[.slice A0_0 l0_0.length c0_0, .int .i64 a0_1, .int .i64 a0_2, .int .i64 a0_3] 30 (0, 0)) z3_3 hb)
     have n1_ := z3_A (blk_below (g := gb119) (o := .cells #[.int .i64 a1_0, .int .i64 a1_1, .int .i64 a1_2] 32 (0, 0)) z3_4 hb)
     have n2_ := z3_A (below_step z3_1 hb)
     clear BK118
     clear BK119
     clear HB
     have BK118 := n0_
     have BK119 := n1_
     have HB := n2_
     clear n0_ n1_ n2_
     (try clear hb)
     (try clear hb2)
     (try clear hk)
     (try clear hi)
     refine hK.out _ _ ⟨bcz BK118.out 0 rfl, bcz BK118.out 1 rfl, bcz BK118.out 2 rfl, bcz BK118.out 3 rfl, bcz BK119.out 0 rfl, bcz BK119.out 1 rfl, bcz BK119.out 2 rfl⟩ (fun hHeld => ?_)
     clear hK K
     refine norm_ (a' := ?_) ?_ ?_
     rotate_left
     ·show Act.put _ (some 18) _ = _
      simp only [Act.put, List.setIfInBounds_toArray, List.set_cons_zero, List.set_cons_succ, i64_w, i32_w]
      rfl
     refine pure_ (i := 8) (N := some 19) (v := ?_) (a' := ?_) #[true, true, true, true, true, true, true, true, true] rfl rfl (any_of HT_.out z3_6) (fun _ _ _ h => h) (Or.inl ⟨z3_14, ?_⟩) ?_ ?_
     rotate_left
     ·intro w'
      go_simp
      with_reducible rfl
     rotate_left
     ·simp only [Act.put, List.setIfInBounds_toArray, List.set_cons_zero, List.set_cons_succ, i64_w, i32_w]
      rfl
     refine done_ (done_of HT_.out z3_6) ?_
     try go_wp2
     go_roundg k1
     case measure => have := HK1.out; omega
     case rel => exact ⟨(x5_1), (wrap64 (x6_1 + 1)), z3_10, z3_10, H', ⟨by have := HK1.out; omega⟩, ⟨z3_3⟩, ⟨z3_4⟩, ⟨z3_1⟩⟩
   ·rw [if_neg c5] at H
    have c5b0 : decide (x6_1 ≤ 8) = false := decide_eq_false c5
    clear c5
    obtain rfl := Option.some.inj H
    go_wp2
    go_ret
    exact ⟨z3_12, z3_1⟩

/-! ### spec_l10Maker: function 95 -/
def spec_l10Maker.f (k : Nat) (l0_0 : List Int) (a0_1 : Int) (a0_2 : Int) (a0_3 : Int) (a1_0 : Int) (a1_1 : Int) (a1_2 : Int) (a2 : Int) : Option (Int) := (spec_l10Sales.f k l0_0 a0_1 a0_2 a0_3 a2).bind fun t124 => ((spec_l2Sum.f k l0_0).bind fun t125 => (some (wrap64 ((wrap64 ((wrap64 ((wrap64 (100 - a1_2)) * a0_1)) * t124)) + (wrap64 (100 * (wrap64 ((wrap64 ((wrap64 (a1_0 - a0_2)) * (wrap64 (t125 * a2)))) - (wrap64 (a1_1 * (wrap64 ((wrap64 (t125 * a2)) - t124))))))))))))
theorem spec_l10Maker.mono : ∀ a0 a1 a2 a3 a4 a5 a6 a7 k, LeO (spec_l10Maker.f k a0 a1 a2 a3 a4 a5 a6 a7) (spec_l10Maker.f (k + 1) a0 a1 a2 a3 a4 a5 a6 a7) := by
 intro a0 a1 a2 a3 a4 a5 a6 a7 k
 unfold spec_l10Maker.f
 repeat' first
   | (with_reducible exact spec_l10Sales.mono _ _ _ _ _ _)
   | (with_reducible exact spec_l2Sum.mono _ _)
   | (with_reducible exact LeO.refl _)
   | (with_reducible exact LeO.none _)
   | (with_reducible refine LeO.ite ?_ ?_)
   | (with_reducible refine LeO.bind ?_ (fun _ => ?_))
   | exact spec_l10Sales.mono _ _ _ _ _ _
   | exact spec_l2Sum.mono _ _
   | exact LeO.none _
   | refine LeO.ite ?_ ?_
   | refine LeO.bind ?_ (fun _ => ?_)
def spec_l10Maker.T1 : Bool × List (List Nat × List Nat) := (true, [([], []), ([], []), ([0, 1], [0, 1]), ([], []), ([3], [3]), ([4, 2], [4]), ([], []), ([5, 6], [5, 6]), ([2, 5, 0, 1, 2], [2]), ([7, 8, 0, 1, 2, 3, 4, 5, 6, 7, 8], [7])])
def spec_l10Maker.B1 : List Nat := [0, 0, 3, 0, 8, 31, 0, 127, 63, 511]
theorem spec_l10Maker.tab1 : rtab .any (opsOf Try.f95 1) = spec_l10Maker.T1 := z3_6
theorem spec_l10Maker.bits1 : waitsOk spec_l10Maker.T1.2 spec_l10Maker.B1 = true := z3_6
set_option maxHeartbeats 8000000 in
set_option maxRecDepth 100000 in
theorem spec_l10Maker.calls (k : Nat) (A0_0 : Option Addr) (c0_0 : Nat) (l0_0 : List Int) (a0_1 : Int) (a0_2 : Int) (a0_3 : Int) (a1_0 : Int) (a1_1 : Int) (a1_2 : Int) (a2 : Int) (r : Int) (w : World) (hr0_0 : Kd.C (Kd.int .i64) w A0_0 l0_0.length l0_0) (hc0_0 : l0_0.length ≤ c0_0) (h : spec_l10Maker.f k l0_0 a0_1 a0_2 a0_3 a1_0 a1_1 a1_2 a2 = some r) :
  Calls Try.prog 95 #[.agg #[.slice A0_0 l0_0.length c0_0, .int .i64 a0_1, .int .i64 a0_2, .int .i64 a0_3], .agg #[.int .i64 a1_0, .int .i64 a1_1, .int .i64 a1_2], .int .i64 a2] w fun e w' => e = .returned (.int .i64 r) ∧ Below w.heap.size w w' := by
 have hu30 := Try.underlying30
 have hu32 := Try.underlying32
 have HR0_0 := z3_A hr0_0
 have HC0_0 := z3_A hc0_0
 clear hr0_0 hc0_0
 have HB := z3_A (Below.refl w.heap.size w)
 have H : ((spec_l10Sales.f k l0_0 a0_1 a0_2 a0_3 a2).bind fun t124 => ((spec_l2Sum.f k l0_0).bind fun t125 => (some (wrap64 ((wrap64 ((wrap64 ((wrap64 (100 - a1_2)) * a0_1)) * t124)) + (wrap64 (100 * (wrap64 ((wrap64 ((wrap64 (a1_0 - a0_2)) * (wrap64 (t125 * a2)))) - (wrap64 (a1_1 * (wrap64 ((wrap64 (t125 * a2)) - t124))))))))))))) = some r := h
 clear h
 replace H := Option.bind_eq_some_iff.mp H
 obtain ⟨t124, A40, H⟩ := H
 (try dsimp only at H)
 have A4 := z3_A A40
 clear A40
 replace H := Option.bind_eq_some_iff.mp H
 obtain ⟨t125, A50, H⟩ := H
 (try dsimp only at H)
 have A5 := z3_A A50
 clear A50
 obtain rfl := Option.some.inj H
 go_enter Try.func95, Try.ntmps95
 try go_wp2_with (first | ((with_reducible refine gate_dst (N := 3) rfl ?_); refine box_event ?hg (N := 3) ?hd (cs := #[.slice A0_0 l0_0.length c0_0, .int .i64 a0_1, .int .i64 a0_2, .int .i64 a0_3]) (t := 30) ?hr ?_; (case hd => rfl); (case hg => rfl); (case hr => first | (go_simp; done) | (go_simp; rfl)); intro gb122 hg w6 hbox hb; have n0_ := z3_A (below_step z3_2 hb); have n1_ := z3_A (hbox); have n2_ := z3_A ((z3_13 : w.heap.size ≤ gb122)); have n3_ := z3_A ((z3_13 : w.heap.size ≤ gb122)); clear HB; revert n0_ n1_ n2_ n3_; intro HB BK122 GW122 GE122; clear hb hbox hg) | ((with_reducible refine gate_dst (N := 4) rfl ?_); refine box_event ?hg (N := 4) ?hd (cs := #[.int .i64 a1_0, .int .i64 a1_1, .int .i64 a1_2]) (t := 32) ?hr ?_; (case hd => rfl); (case hg => rfl); (case hr => first | (go_simp; done) | (go_simp; rfl)); intro gb123 hg w7 hbox hb; have n0_ := z3_A (blk_below (g := gb122) (o := .cells #[.slice A0_0 l0_0.length c0_0, .int .i64 a0_1, .int .i64 a0_2, .int .i64 a0_3] 30 (0, 0)) z3_7 hb); have n1_ := z3_A (below_step z3_8 hb); have n2_ := z3_A (hbox); have n3_ := z3_A ((by rw [hg]; exact (below_size z3_8) : w.heap.size ≤ gb123)); have n4_ := z3_A ((by rw [hg]; exact (below_size z3_8) : w.heap.size ≤ gb123)); have n5_ := z3_A ((by rw [hg]; exact Nat.ne_of_lt (blk_lt (g := gb122) (o := .cells #[.slice A0_0 l0_0.length c0_0, .int .i64 a0_1, .int .i64 a0_2, .int .i64 a0_3] 30 (0, 0)) z3_7) : gb122 ≠ gb123)); have n6_ := z3_A ((by rw [hg]; exact Nat.ne_of_gt (blk_lt (g := gb122) (o := .cells #[.slice A0_0 l0_0.length c0_0, .int .i64 a0_1, .int .i64 a0_2, .int .i64 a0_3] 30 (0, 0)) z3_7) : gb123 ≠ gb122)); clear BK122 HB; revert n0_ n1_ n2_ n3_ n4_ n5_ n6_; intro BK122 HB BK123 GW123 GE123 NB122_123 NB123_122; clear hb hbox hg))
 have n0_ := z3_A (blk_drew BK122.out)
 have n1_ := z3_A (blk_drew BK123.out)
 have n2_ := z3_A (below_drew1 HB.out)
 clear BK122
 clear BK123
 clear HB
 have BK122 := n0_
 have BK123 := n1_
 have HB := n2_
 clear n0_ n1_ n2_
 refine start_ (n := 10) (S := fun w' => w'.cell? ⟨gb122, 0, none⟩ = some (.slice A0_0 l0_0.length c0_0) ∧ w'.cell? ⟨gb122, 1, none⟩ = some (.int .i64 a0_1) ∧ w'.cell? ⟨gb122, 2, none⟩ = some (.int .i64 a0_2) ∧ w'.cell? ⟨gb122, 3, none⟩ = some (.int .i64 a0_3)) (ds := []) #[false, false, false, false, false, false, false, false, false, false] z3_6 rfl rfl ⟨bcz BK122.out 0 rfl, bcz BK122.out 1 rfl, bcz BK122.out 2 rfl, bcz BK122.out 3 rfl⟩ (fun hHeld => ?_); refine with_tabW spec_l10Maker.tab1 spec_l10Maker.bits1 (fun HT_ HW_ => ?_)
 generalize w7.drew = w8 at BK122 BK123 HB hHeld ⊢
 refine pure_ (i := 1) (N := some 10) (v := ?_) (a' := ?_) #[false, true, false, false, false, false, false, false, false, false] rfl rfl (any_of HT_.out z3_6) (fun _ _ _ h => h) (Or.inl ⟨z3_14, ?_⟩) ?_ ?_
 rotate_left
 ·intro w'
  go_simp
  with_reducible rfl
 rotate_left
 ·simp only [Act.put, List.setIfInBounds_toArray, List.set_cons_zero, List.set_cons_succ, i64_w, i32_w]
  rfl
 refine pure_ (i := 3) (N := some 12) (v := ?_) (a' := ?_) #[false, true, false, true, false, false, false, false, false, false] rfl rfl (any_of HT_.out z3_6) (fun _ _ _ h => h) (Or.inl ⟨z3_14, ?_⟩) ?_ ?_
 rotate_left
 ·intro w'
  go_simp
  with_reducible rfl
 rotate_left
 ·simp only [Act.put, List.setIfInBounds_toArray, List.set_cons_zero, List.set_cons_succ, i64_w, i32_w]
  rfl
 refine pure_ (i := 6) (N := some 15) (v := ?_) (a' := ?_) #[false, true, false, true, false, false, true, false, false, false] rfl rfl (any_of HT_.out z3_6) (fun _ _ _ h => h) (Or.inl ⟨z3_14, ?_⟩) ?_ ?_
 rotate_left
 ·intro w'
  go_simp
  with_reducible rfl
 rotate_left
 ·simp only [Act.put, List.setIfInBounds_toArray, List.set_cons_zero, List.set_cons_succ, i64_w, i32_w]
  rfl
 refine take_ (i := 0) (N := some 9) (v := ?_) (a' := ?_) #[true, true, false, true, false, false, true, false, false, false] rfl rfl (take_ofW HT_.out HW_.out z3_6) (fun _ _ _ h => h) (Or.inl ⟨z3_14, ?_⟩) hHeld ?_ ?_
 rotate_left
 ·rintro w' ⟨s0, s1, s2, s3⟩
  go_simp
  with_reducible rfl
 rotate_left
 ·simp only [Act.put, List.setIfInBounds_toArray, List.set_cons_zero, List.set_cons_succ, i64_w, i32_w]
  rfl
 refine take_ (i := 4) (N := some 13) (v := ?_) (a' := ?_) #[true, true, false, true, true, false, true, false, false, false] rfl rfl (take_ofW HT_.out HW_.out z3_6) (fun _ _ _ h => h) (Or.inl ⟨z3_14, ?_⟩) hHeld ?_ ?_
 rotate_left
 ·rintro w' ⟨s0, s1, s2, s3⟩
  go_simp
  with_reducible rfl
 rotate_left
 ·simp only [Act.put, List.setIfInBounds_toArray, List.set_cons_zero, List.set_cons_succ, i64_w, i32_w]
  rfl
 refine one_ (i := 2) (N := some 11) #[true, true, true, true, true, false, true, false, false, false] rfl rfl (one_of HT_.out z3_6) (by decide) (fun K hK => ?_)
 refine goes_ Try.func98 z3_6 rfl #[.agg #[.slice A0_0 l0_0.length c0_0, .int .i64 a0_1, .int .i64 a0_2, .int .i64 a0_3], .int .i64 a2] z3_14 rfl rfl z3_5 ?_
 with_reducible refine (spec_l10Sales.calls k _ _ l0_0 a0_1 a0_2 a0_3 a2 t124 _ ?side1 ?side2 A4.out).mono ?_
 (case side1 => have zh := (Kd.C_below HR0_0.out HB.out); exact z3_C)
 (case side2 => exact HC0_0.out)
 rintro e w9 ⟨rfl, hb⟩
 refine ⟨_, rfl, ?_⟩
 have n0_ := z3_A (blk_below (g := gb122) (o := .cells #[.slice A0_0 l0_0.length c0_0, .int .i64 a0_1, .int .i64 a0_2, .int .i64 a0_3] 30 (0, 0)) z3_7 hb)
 have n1_ := z3_A (blk_below (g := gb123) (o := .cells #[.int .i64 a1_0, .int .i64 a1_1, .int .i64 a1_2] 32 (0, 0)) (by (with_reducible repeat (first | refine blk_drewN ?_ _ | refine blk_drew ?_ | refine blk_alloc ?_ _)); exact BK123.out) hb)
 have n2_ := z3_A (below_step z3_11 hb)
 clear BK122
 clear BK123
 clear HB
 have BK122 := n0_
 have BK123 := n1_
 have HB := n2_
 clear n0_ n1_ n2_
 (try clear hb)
 (try clear hb2)
 (try clear hk)
 (try clear hi)
 refine hK.out _ _ ⟨bcz BK122.out 0 rfl, bcz BK122.out 1 rfl, bcz BK122.out 2 rfl, bcz BK122.out 3 rfl⟩ (fun hHeld => ?_)
 clear hK K
 refine norm_ (a' := ?_) ?_ ?_
 rotate_left
 ·show Act.put _ (some 11) _ = _
  simp only [Act.put, List.setIfInBounds_toArray, List.set_cons_zero, List.set_cons_succ, i64_w, i32_w]
  rfl
 refine one_ (i := 5) (N := some 14) #[true, true, true, true, true, true, true, false, false, false] rfl rfl (one_of HT_.out z3_6) (by decide) (fun K hK => ?_)
 refine goes_ Try.func101 z3_6 rfl #[.slice A0_0 l0_0.length c0_0] z3_14 rfl rfl z3_5 ?_
 with_reducible refine (spec_l2Sum.calls k _ _ l0_0 t125 _ ?side1 ?side2 A5.out).mono ?_
 (case side1 => have zh := (Kd.C_below HR0_0.out HB.out); exact z3_C)
 (case side2 => exact HC0_0.out)
 rintro e w' ⟨rfl, ⟨nd, rfl⟩⟩
 refine ⟨_, rfl, ?_⟩
 refine hK.out _ _ ⟨bcz BK122.out 0 rfl, bcz BK122.out 1 rfl, bcz BK122.out 2 rfl, bcz BK122.out 3 rfl⟩ (fun hHeld => ?_)
 clear hK K
 refine norm_ (a' := ?_) ?_ ?_
 rotate_left
 ·show Act.put _ (some 14) _ = _
  simp only [Act.put, List.setIfInBounds_toArray, List.set_cons_zero, List.set_cons_succ, i64_w, i32_w]
  rfl
 refine pure_ (i := 7) (N := some 16) (v := ?_) (a' := ?_) #[true, true, true, true, true, true, true, true, false, false] rfl rfl (any_of HT_.out z3_6) (fun _ _ _ h => h) (Or.inl ⟨z3_14, ?_⟩) ?_ ?_
 rotate_left
 ·intro w'
  go_simp
  with_reducible rfl
 rotate_left
 ·simp only [Act.put, List.setIfInBounds_toArray, List.set_cons_zero, List.set_cons_succ, i64_w, i32_w]
  rfl
 refine pure_ (i := 8) (N := some 7) (v := ?_) (a' := ?_) #[true, true, true, true, true, true, true, true, true, false] rfl rfl (any_of HT_.out z3_6) (fun _ _ _ h => h) (Or.inl ⟨z3_14, ?_⟩) ?_ ?_
 rotate_left
 ·intro w'
  go_simp
  with_reducible rfl
 rotate_left
 ·simp only [Act.put, List.setIfInBounds_toArray, List.set_cons_zero, List.set_cons_succ, i64_w, i32_w]
  rfl
 refine pure_ (i := 9) (N := some 8) (v := ?_) (a' := ?_) #[true, true, true, true, true, true, true, true, true, true] rfl rfl (any_of HT_.out z3_6) (fun _ _ _ h => h) (Or.inl ⟨z3_14, ?_⟩) ?_ ?_
 rotate_left
 ·intro w'
  go_simp
  with_reducible rfl
 rotate_left
 ·simp only [Act.put, List.setIfInBounds_toArray, List.set_cons_zero, List.set_cons_succ, i64_w, i32_w]
  rfl
 refine done_ (done_of HT_.out z3_6) ?_
 have hnb10 := NB123_122.out
 have hnc10 := NB122_123.out
 have hcz11_0 : w9.cell? ⟨gb123, 0, none⟩ = some (.int .i64 a1_0) := bcz BK123.out 0 rfl
 have hcz11_1 : w9.cell? ⟨gb123, 1, none⟩ = some (.int .i64 a1_1) := bcz BK123.out 1 rfl
 have hcz11_2 : w9.cell? ⟨gb123, 2, none⟩ = some (.int .i64 a1_2) := bcz BK123.out 2 rfl
 obtain ⟨hfz11_0, hfz11_1, hfz11_2⟩ := F3z (blk_frozen BK123.out)
 have hcz12_0 : w9.cell? ⟨gb122, 0, none⟩ = some (.slice A0_0 l0_0.length c0_0) := bcz BK122.out 0 rfl
 have hcz12_1 : w9.cell? ⟨gb122, 1, none⟩ = some (.int .i64 a0_1) := bcz BK122.out 1 rfl
 have hcz12_2 : w9.cell? ⟨gb122, 2, none⟩ = some (.int .i64 a0_2) := bcz BK122.out 2 rfl
 have hcz12_3 : w9.cell? ⟨gb122, 3, none⟩ = some (.int .i64 a0_3) := bcz BK122.out 3 rfl
 obtain ⟨hfz12_0, hfz12_1, hfz12_2, hfz12_3⟩ := F4z (blk_frozen BK122.out)
 try go_wp2
 go_ret
 exact ⟨z3_12, z3_11⟩

/-! ### spec_l10Plain: function 103 -/
def spec_l10Plain.f (a0 : Int) : Option (Int × Int × Int) := some (a0, 0, 100)
set_option maxHeartbeats 8000000 in
set_option maxRecDepth 100000 in
theorem spec_l10Plain.calls (a0 : Int) (r1 : Int) (r2 : Int) (r3 : Int) (w : World) (h : spec_l10Plain.f a0 = some (r1, r2, r3)) :
  Calls Try.prog 103 #[.int .i64 a0] w fun e w' => e = .returned (.agg #[.int .i64 r1, .int .i64 r2, .int .i64 r3]) ∧ Below w.heap.size w w' := by
 have hu32 := Try.underlying32
 have HB := z3_A (Below.refl w.heap.size w)
 have H : (some (a0, 0, 100)) = some (r1, r2, r3) := h
 clear h
 simp only [Option.some.injEq, Prod.mk.injEq] at H
 obtain ⟨rfl, rfl, rfl⟩ := H
 go_enter Try.func103, Try.ntmps103
 go_wp2_with (first | ((with_reducible refine gate_dst (N := 2) rfl ?_); refine box_event ?hg (N := 2) ?hd (cs := #[.int .i64 0, .int .i64 0, .int .i64 0]) (t := 32) ?hr ?_; (case hd => rfl); (case hg => rfl); (case hr => first | (go_simp; done) | (go_simp; rfl)); intro gb126 hg w2 hbox hb; have n0_ := z3_A (below_step z3_2 hb); have n1_ := z3_A (hbox); have n2_ := z3_A ((z3_13 : w.heap.size ≤ gb126)); have n3_ := z3_A ((z3_13 : w.heap.size ≤ gb126)); clear HB; revert n0_ n1_ n2_ n3_; intro HB BK126 GW126 GE126; clear hb hbox hg; have hcz3_0 : w2.cell? ⟨gb126, 0, none⟩ = some (.int .i64 0) := bcz BK126.out 0 rfl; have hcz3_1 : w2.cell? ⟨gb126, 1, none⟩ = some (.int .i64 0) := bcz BK126.out 1 rfl; have hcz3_2 : w2.cell? ⟨gb126, 2, none⟩ = some (.int .i64 0) := bcz BK126.out 2 rfl; obtain ⟨hfz3_0, hfz3_1, hfz3_2⟩ := F3z (blk_frozen BK126.out)))
 refine bodyPost_ret (results_cell_row rfl _ _ gb126 32 #[.int .i64 a0, .int .i64 0, .int .i64 100] (0, 0) _ rfl (by (with_reducible repeat (first | refine blk_drewN ?_ _ | refine blk_drew ?_ | refine blk_alloc ?_ _)); refine blk_put (cs := #[.int .i64 a0, .int .i64 0, .int .i64 0]) ?_ 2 _ rfl; (with_reducible repeat (first | refine blk_drewN ?_ _ | refine blk_drew ?_ | refine blk_alloc ?_ _)); refine blk_put (cs := #[.int .i64 a0, .int .i64 0, .int .i64 0]) ?_ 1 _ rfl; (with_reducible repeat (first | refine blk_drewN ?_ _ | refine blk_drew ?_ | refine blk_alloc ?_ _)); refine blk_put (cs := #[.int .i64 0, .int .i64 0, .int .i64 0]) ?_ 0 _ rfl; (with_reducible repeat (first | refine blk_drewN ?_ _ | refine blk_drew ?_ | refine blk_alloc ?_ _)); exact BK126.out) Try.underlying32 rfl z3_6) rfl ?_
 exact ⟨z3_12, by repeat (first | (with_reducible first | exact HB.out | apply below_alloc | apply pw_below_drewN | apply below_drew1 | refine below_set ?_ GE126.out) | exact HB.out)⟩

end Go.Proofs.Ytiniocecpgjikaa.PFnProfits
