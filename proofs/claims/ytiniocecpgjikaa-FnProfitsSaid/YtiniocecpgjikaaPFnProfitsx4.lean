-- A text of this session (its program hook.py, over the kit's print.py): not a print of print.sh
-- THIN: one blank for two
import Derived.Test.YtiniocecpgjikaaPFnProfitsx0
import Derived.Test.YtiniocecpgjikaaPFnProfitsx2
import Derived.Test.YtiniocecpgjikaaPFnProfitsx3
namespace Go.Proofs.Ytiniocecpgjikaa.PFnProfits
open Go.RowKit Go.Proofs.YtiniocecpgjikaaW.PrintWords Go.Proofs.YtiniocecpgjikaaW.PrintLast Go.Proofs.YtiniocecpgjikaaW.PrintMore
attribute [local go_sem] max2_int min2_int max_two min_two max_three min_three max_four min_four   -- for this text's walks alone
set_option linter.unusedVariables false
set_option linter.unusedSimpArgs false

-- SQUEEZED
private theorem bcz {w : World} {g : Nat} {t : TypeId} {cs : Array Value} (h : w.heap[g]? = some (.cells cs t (0, 0))) (i : Nat) {v : Value} (e : cs[i]? = some v) : w.cell? ⟨g, i, none⟩ = some v := (blk_cell h i).trans e
private theorem F4z {P : Nat → Prop} (h : ∀ i, P i) : P 0 ∧ P 1 ∧ P 2 ∧ P 3 := ⟨h 0, h 1, h 2, h 3⟩
theorem z4_A {p : Prop} (h : p) : Aside0 p := Aside0.mk h
theorem z4_C {p : Prop} (h : p := by repeat (first | exact zh | (with_reducible refine Kd.C_alloc ?_ _) | (with_reducible refine Kd.C_drewN ?_ _) | (with_reducible refine Kd.C_drew ?_))) : p := h
theorem z4_1 {p : Prop} (h : p := by repeat (first | (with_reducible first | exact HB.out | apply below_alloc | apply pw_below_drewN | apply below_drew1) | exact HB.out)) : p := h
theorem z4_2 {p : Prop} (h : p := by repeat (first | (with_reducible first | exact HB.out | apply below_alloc | apply pw_below_drewN | apply below_drew1 | refine below_set ?_ GE142.out) | exact HB.out)) : p := h
theorem z4_3 {p : Prop} (h : p := by repeat (first | (with_reducible first | exact HB.out | apply below_alloc | apply pw_below_drewN | apply below_drew1 | refine below_set ?_ GE127.out) | exact HB.out)) : p := h
theorem z4_4 {p : Prop} (h : p := by (with_reducible repeat (first | refine blk_drewN ?_ _ | refine blk_drew ?_ | refine blk_alloc ?_ _)); exact BK142.out) : p := h
theorem z4_5 {p : Prop} (h : p := by first | rfl | (simp; done) | (simp [*]; done)) : p := h
theorem z4_6 {p : Prop} (h : p := by (with_reducible repeat (first | refine blk_drewN ?_ _ | refine blk_drew ?_ | refine blk_alloc ?_ _)); exact BK127.out) : p := h
theorem z4_7 {p : Prop} (h : p := by (try simp only [List.map_toArray, List.map_cons, List.map_nil]); first | done | rfl | (simp only [List.length_drop, List.length_take]; rfl)) : p := h
theorem z4_8 {p : Prop} (h : p := by first | (with_reducible assumption) | assumption) : p := h
theorem z4_9 {p : Prop} (h : p := by (with_reducible repeat (first | apply Kd.R_alloc | apply Kd.R_drewN | apply Kd.R_drew)); exact HO_3.out) : p := h
theorem z4_10 {p : Prop} (h : p := by repeat (first | exact Drawn0.refl _ | apply Drawn0.step)) : p := h
theorem z4_11 {p : Prop} (h : p := by rw [hg]; exact (below_size z4_1)) : p := h
theorem z4_12 {p : Prop} (h : p := by kernel_rfl) : p := h
theorem z4_13 {p : Prop} (h : p := by first | rfl | (simp [errW_none, errW_some] <;> rfl) | (simp [*, errW_none, errW_some] <;> rfl)) : p := h
theorem z4_14 {p : Prop} (h : p := by (with_reducible repeat (first | apply Kd.R_alloc | apply Kd.R_drewN | apply Kd.R_drew)); exact HO_4.out) : p := h
theorem z4_15 {p : Prop} (h : p := by have := HK1.out; omega) : p := h

/-! ### spec_l10Plains: function 68 -/
def spec_l10Plains.l0 : Nat → List (S67) → Int → List Int → Int → Int → Int → Option ((List (S67)))
 | 0, _, _, _, _, _, _ => none
 | k + 1, x3, x4, x128000, x128001, x128002, x128003 => if x4 ≤ x128001 then ((spec_l10Plain.f x4).bind fun bt131 => ((spec_l10Sold.f k x128000 x128001 x128002 x128003 bt131.1 bt131.2.1 bt131.2.2).bind fun t134 => ((spec_l10Plain.f x4).bind fun bt135 => ((spec_l10Maker.f k x128000 x128001 x128002 x128003 bt135.1 bt135.2.1 bt135.2.2 t134).bind fun t138 => (if x3.length < 8796093022208 then (spec_l10Plains.l0 k (x3 ++ [(⟨t134, t138⟩ : S67)]) (wrap64 (x4 + 1)) x128000 x128001 x128002 x128003) else (none)))))) else (some x3)
def spec_l10Plains.f (k : Nat) (l0_0 : List Int) (a0_1 : Int) (a0_2 : Int) (a0_3 : Int) : Option ((List (S67))) := spec_l10Plains.l0 k (([] : List (S67))) a0_2 l0_0 a0_1 a0_2 a0_3
theorem spec_l10Plains.mono_l : ∀ k, (∀ y0 y1 y2 y3 y4 y5, LeO (spec_l10Plains.l0 k y0 y1 y2 y3 y4 y5) (spec_l10Plains.l0 (k + 1) y0 y1 y2 y3 y4 y5))
 | 0 => fun _ _ _ _ _ _ r h => by simp [spec_l10Plains.l0] at h
 | k + 1 => by
  have ih0 := spec_l10Plains.mono_l k
  ·intro y0 y1 y2 y3 y4 y5
   unfold spec_l10Plains.l0
   repeat' first
   | (with_reducible exact ih0 _ _ _ _ _ _)
   | (with_reducible exact spec_l10Maker.mono _ _ _ _ _ _ _ _ _)
   | (with_reducible exact spec_l10Sold.mono _ _ _ _ _ _ _ _)
   | (with_reducible exact LeO.refl _)
   | (with_reducible exact LeO.none _)
   | (with_reducible refine LeO.ite ?_ ?_)
   | (with_reducible refine LeO.bind ?_ (fun _ => ?_))
   | exact ih0 _ _ _ _ _ _
   | exact spec_l10Maker.mono _ _ _ _ _ _ _ _ _
   | exact spec_l10Sold.mono _ _ _ _ _ _ _ _
   | exact LeO.none _
   | refine LeO.ite ?_ ?_
   | refine LeO.bind ?_ (fun _ => ?_)
theorem spec_l10Plains.mono : ∀ a0 a1 a2 a3 k, LeO (spec_l10Plains.f k a0 a1 a2 a3) (spec_l10Plains.f (k + 1) a0 a1 a2 a3) := by
 intro a0 a1 a2 a3 k
 have ih0 := spec_l10Plains.mono_l k
 unfold spec_l10Plains.f
 repeat' first
   | (with_reducible exact ih0 _ _ _ _ _ _)
   | (with_reducible exact spec_l10Maker.mono _ _ _ _ _ _ _ _ _)
   | (with_reducible exact spec_l10Sold.mono _ _ _ _ _ _ _ _)
   | (with_reducible exact LeO.refl _)
   | (with_reducible exact LeO.none _)
   | (with_reducible refine LeO.ite ?_ ?_)
   | (with_reducible refine LeO.bind ?_ (fun _ => ?_))
   | exact ih0 _ _ _ _ _ _
   | exact spec_l10Maker.mono _ _ _ _ _ _ _ _ _
   | exact spec_l10Sold.mono _ _ _ _ _ _ _ _
   | exact LeO.none _
   | refine LeO.ite ?_ ?_
   | refine LeO.bind ?_ (fun _ => ?_)
def spec_l10Plains.T6 : Bool × List (List Nat × List Nat) := (true, [([], []), ([], []), ([], []), ([], []), ([3], [3]), ([], []), ([2, 4, 5, 4], [2, 4, 5]), ([1, 6], [1, 6]), ([7], [7]), ([0, 8, 6], [0, 8]), ([9, 9, 0, 1, 2, 3, 4, 5, 6, 7, 8, 9], [0, 9])])
def spec_l10Plains.B6 : List Nat := [0, 0, 0, 0, 8, 0, 60, 126, 254, 511, 1023]
theorem spec_l10Plains.tab6 : rtab .any (opsOf Try.f68 6) = spec_l10Plains.T6 := z4_12
theorem spec_l10Plains.bits6 : waitsOk spec_l10Plains.T6.2 spec_l10Plains.B6 = true := z4_12
set_option maxHeartbeats 8000000 in
set_option maxRecDepth 100000 in
theorem spec_l10Plains.calls (k : Nat) (A0_0 : Option Addr) (c0_0 : Nat) (l0_0 : List Int) (a0_1 : Int) (a0_2 : Int) (a0_3 : Int) (r : List (S67)) (w : World) (hr0_0 : Kd.C (Kd.int .i64) w A0_0 l0_0.length l0_0) (hc0_0 : l0_0.length ≤ c0_0) (h : spec_l10Plains.f k l0_0 a0_1 a0_2 a0_3 = some r) :
  Calls Try.prog 68 #[.agg #[.slice A0_0 l0_0.length c0_0, .int .i64 a0_1, .int .i64 a0_2, .int .i64 a0_3]] w fun e w' => ∃ v0_ : Value, e = .returned (v0_) ∧ Kd.R k67 67 w' w.heap.size (fun _ => True) v0_ r ∧ Below w.heap.size w w' := by
 have hu30 := Try.underlying30
 have hu67 := Try.underlying67
 have HR0_0 := z4_A hr0_0
 have HC0_0 := z4_A hc0_0
 clear hr0_0 hc0_0
 have HB := z4_A (Below.refl w.heap.size w)
 have H : (spec_l10Plains.l0 k (([] : List (S67))) a0_2 l0_0 a0_1 a0_2 a0_3) = some r := h
 clear h
 obtain ⟨y128, hy128⟩ : ∃ y_ : List (S67), y_ = (([] : List (S67))) := ⟨_, rfl⟩
 replace H : (spec_l10Plains.l0 k y128 a0_2 l0_0 a0_1 a0_2 a0_3) = some r := by first | (rw [hy128]; with_reducible exact H) | (have H2_ := (Option.bind_some _ _).symm.trans H; rw [hy128]; with_reducible exact H2_) | (have H2_ := (Option.bind_some _ _).symm.trans H; with_reducible exact H2_) | with_reducible exact H | (rw [hy128]; exact H) | exact H
 have Ny128 := z4_A hy128
 clear hy128
 have H' := z4_A H
 clear H
 go_enter Try.func68, Try.ntmps68
 go_wp2_with (first | ((with_reducible refine gate_dst (N := 1) rfl ?_); refine box_event ?hg (N := 1) ?hd (cs := #[.slice A0_0 l0_0.length c0_0, .int .i64 a0_1, .int .i64 a0_2, .int .i64 a0_3]) (t := 30) ?hr ?_; (case hd => rfl); (case hg => rfl); (case hr => first | (go_simp; done) | (go_simp; rfl)); intro gb127 hg w2 hbox hb; have n0_ := z4_A (below_step z4_1 hb); have n1_ := z4_A (hbox); have n2_ := z4_A ((z4_11 : w.heap.size ≤ gb127)); have n3_ := z4_A ((z4_11 : w.heap.size ≤ gb127)); clear HB; revert n0_ n1_ n2_ n3_; intro HB BK127 GW127 GE127; clear hb hbox hg) | ((with_reducible refine gate_dst (N := 6) rfl ?_); refine Kd.R_lit k67 _ 67 ?hg (N := 6) ?hd (xs := ([] : List (S67))) (inner := []) (ok := fun _ => True) (okp := fun _ => True) ?hr ?hp (fun _ hk => hk) trivial (Below.refl _ _) (Nat.le_refl _) (by simp) ?_; (case hd => rfl); (case hg => rfl); (case hr => first | (go_simp; done) | (go_simp; rfl)); (case hp => exact (Reps.none _ _)); intro v129 w3 ho4 hb hg_ hnew_; clear hg_ hnew_; (first | rw [← Ny128.out] at ho4 | (simp only [Int.reduceToNat] at ho4; rw [← Ny128.out] at ho4)); have n0_ := z4_A (Kd.R_lower ho4 (below_size z4_3)); have n1_ := z4_A (blk_below (g := gb127) (o := .cells #[.slice A0_0 l0_0.length c0_0, .int .i64 a0_1, .int .i64 a0_2, .int .i64 a0_3] 30 (0, 0)) z4_6 hb); have n2_ := z4_A (below_step z4_3 hb); clear BK127 HB; revert n0_ n1_ n2_; intro HO130 BK127 HB; clear hb ho4; have hcz5_0 : w3.cell? ⟨gb127, 0, none⟩ = some (.slice A0_0 l0_0.length c0_0) := bcz BK127.out 0 rfl; have hcz5_1 : w3.cell? ⟨gb127, 1, none⟩ = some (.int .i64 a0_1) := bcz BK127.out 1 rfl; have hcz5_2 : w3.cell? ⟨gb127, 2, none⟩ = some (.int .i64 a0_2) := bcz BK127.out 2 rfl; have hcz5_3 : w3.cell? ⟨gb127, 3, none⟩ = some (.int .i64 a0_3) := bcz BK127.out 3 rfl; obtain ⟨hfz5_0, hfz5_1, hfz5_2, hfz5_3⟩ := F4z (blk_frozen BK127.out)))
 go_loopg [3, 4] k (fun kq v3 v4 w' => ∃ (x3_1 : List (S67)) (x4_1 : Int), v4 = .int .i64 x4_1 ∧ Aside0 (spec_l10Plains.l0 kq x3_1 x4_1 l0_0 a0_1 a0_2 a0_3 = some r) ∧ Aside0 (kq ≤ k) ∧ Aside0 (Kd.R k67 67 w' w.heap.size (fun _ => True) v3 x3_1) ∧ Aside0 (w'.heap[gb127]? = some (.cells #[(.slice A0_0 l0_0.length c0_0), .int .i64 a0_1, .int .i64 a0_2, .int .i64 a0_3] 30 (0, 0))) ∧ Aside0 (Below w.heap.size w w'))
 case atStart => exact ⟨(y128), (a0_2), z4_5, H', ⟨Nat.le_refl _⟩, ⟨by (with_reducible repeat (first | apply Kd.R_alloc | apply Kd.R_drewN | apply Kd.R_drew)); exact HO130.out⟩, ⟨z4_6⟩, ⟨z4_3⟩⟩
 case round =>
  clear H'
  (try clear hcz5_0); (try clear hcz5_1); (try clear hcz5_2); (try clear hcz5_3); (try clear hfz5_0); (try clear hfz5_1); (try clear hfz5_2); (try clear hfz5_3)
  obtain ⟨x3_1, x4_1, rfl, HA, HK1, HO_3, BK127, HB⟩ := hrel
  cases gk with
  | zero => exact absurd HA.out (by simp [spec_l10Plains.l0])
  | succ k1 =>
   have H := HA.out
   clear HA
   simp only [spec_l10Plains.l0] at H
   by_cases c6 : x4_1 ≤ a0_1
   ·rw [if_pos c6] at H
    have c6b0 : decide (x4_1 ≤ a0_1) = true := decide_eq_true c6
    clear c6
    replace H := Option.bind_eq_some_iff.mp H
    obtain ⟨⟨t131, t132, t133⟩, A70, H⟩ := H
    (try dsimp only at H)
    have A7 := z4_A A70
    clear A70
    replace H := Option.bind_eq_some_iff.mp H
    obtain ⟨t134, A80, H⟩ := H
    (try dsimp only at H)
    have A8 := z4_A A80
    clear A80
    replace H := Option.bind_eq_some_iff.mp H
    obtain ⟨⟨t135, t136, t137⟩, A90, H⟩ := H
    (try dsimp only at H)
    have A9 := z4_A A90
    clear A90
    replace H := Option.bind_eq_some_iff.mp H
    obtain ⟨t138, A100, H⟩ := H
    (try dsimp only at H)
    have A10 := z4_A A100
    clear A100
    by_cases c11 : x3_1.length < 8796093022208
    ·rw [if_pos c11] at H
     have LMc11 := z4_A c11
     clear c11
     obtain ⟨y139, hy139⟩ : ∃ y_ : List (S67), y_ = (x3_1 ++ [(⟨t134, t138⟩ : S67)]) := ⟨_, rfl⟩
     replace H : (spec_l10Plains.l0 k1 y139 (wrap64 (x4_1 + 1)) l0_0 a0_1 a0_2 a0_3) = some r := by first | (rw [hy139]; with_reducible exact H) | (have H2_ := (Option.bind_some _ _).symm.trans H; rw [hy139]; with_reducible exact H2_) | (have H2_ := (Option.bind_some _ _).symm.trans H; with_reducible exact H2_) | with_reducible exact H | (rw [hy139]; exact H) | exact H
     have Ny139 := z4_A hy139
     clear hy139
     have H' := z4_A H
     clear H
     have hcz12_0 : wr.cell? ⟨gb127, 0, none⟩ = some (.slice A0_0 l0_0.length c0_0) := bcz BK127.out 0 rfl
     have hcz12_1 : wr.cell? ⟨gb127, 1, none⟩ = some (.int .i64 a0_1) := bcz BK127.out 1 rfl
     have hcz12_2 : wr.cell? ⟨gb127, 2, none⟩ = some (.int .i64 a0_2) := bcz BK127.out 2 rfl
     have hcz12_3 : wr.cell? ⟨gb127, 3, none⟩ = some (.int .i64 a0_3) := bcz BK127.out 3 rfl
     obtain ⟨hfz12_0, hfz12_1, hfz12_2, hfz12_3⟩ := F4z (blk_frozen BK127.out)
     try go_wp2
     have n0_ := z4_A (Kd.R_drew HO_3.out)
     have n1_ := z4_A (blk_drew BK127.out)
     have n2_ := z4_A (below_drew1 HB.out)
     clear HO_3
     clear BK127
     clear HB
     have HO_3 := n0_
     have BK127 := n1_
     have HB := n2_
     clear n0_ n1_ n2_
     refine start_ (n := 5) (S := fun w' => w'.cell? ⟨gb127, 0, none⟩ = some (.slice A0_0 l0_0.length c0_0) ∧ w'.cell? ⟨gb127, 1, none⟩ = some (.int .i64 a0_1) ∧ w'.cell? ⟨gb127, 2, none⟩ = some (.int .i64 a0_2) ∧ w'.cell? ⟨gb127, 3, none⟩ = some (.int .i64 a0_3)) (ds := []) #[false, false, false, false, false] z4_12 rfl rfl ⟨bcz BK127.out 0 rfl, bcz BK127.out 1 rfl, bcz BK127.out 2 rfl, bcz BK127.out 3 rfl⟩ (fun hHeld => ?_)
     generalize wr.drew = w13 at HO_3 BK127 HB hHeld ⊢
     refine pure_ (i := 1) (N := some 16) (v := ?_) (a' := ?_) #[false, true, false, false, false] rfl rfl z4_12 (fun _ _ _ h => h) (Or.inl ⟨by rfl, ?_⟩) ?_ ?_
     rotate_left
     ·intro w'
      go_simp
      with_reducible rfl
     rotate_left
     ·simp only [Act.put, List.setIfInBounds_toArray, List.set_cons_zero, List.set_cons_succ, i64_w, i32_w]
      rfl
     refine take_ (i := 0) (N := some 15) (v := ?_) (a' := ?_) #[true, true, false, false, false] rfl rfl z4_12 (fun _ _ _ h => h) (Or.inl ⟨by rfl, ?_⟩) hHeld ?_ ?_
     rotate_left
     ·rintro w' ⟨s0, s1, s2, s3⟩
      go_simp
      with_reducible rfl
     rotate_left
     ·simp only [Act.put, List.setIfInBounds_toArray, List.set_cons_zero, List.set_cons_succ, i64_w, i32_w]
      rfl
     refine one_ (i := 2) (N := some 17) #[true, true, true, false, false] rfl rfl z4_12 (by decide) (fun K hK => ?_)
     refine goes_ Try.func103 z4_12 rfl #[.int .i64 x4_1] (by rfl) rfl rfl z4_7 ?_
     with_reducible refine (spec_l10Plain.calls x4_1 t131 t132 t133 _ A7.out).mono ?_
     rintro e w14 ⟨rfl, hb⟩
     refine ⟨_, rfl, ?_⟩
     have n0_ := z4_A (Kd.R_below z4_9 hb)
     have n1_ := z4_A (blk_below (g := gb127) (o := .cells #[.slice A0_0 l0_0.length c0_0, .int .i64 a0_1, .int .i64 a0_2, .int .i64 a0_3] 30 (0, 0)) z4_6 hb)
     have n2_ := z4_A (below_step z4_3 hb)
     clear HO_3
     clear BK127
     clear HB
     have HO_3 := n0_
     have BK127 := n1_
     have HB := n2_
     clear n0_ n1_ n2_
     (try clear hb)
     (try clear hb2)
     (try clear hk)
     (try clear hi)
     refine hK.out _ _ ⟨bcz BK127.out 0 rfl, bcz BK127.out 1 rfl, bcz BK127.out 2 rfl, bcz BK127.out 3 rfl⟩ (fun hHeld => ?_)
     clear hK K
     refine norm_ (a' := ?_) ?_ ?_
     rotate_left
     ·show Act.put _ (some 17) _ = _
      simp only [Act.put, List.setIfInBounds_toArray, List.set_cons_zero, List.set_cons_succ, i64_w, i32_w]
      rfl
     refine one_ (i := 3) (N := some 18) #[true, true, true, true, false] rfl rfl z4_12 (by decide) (fun K hK => ?_)
     refine goes_ Try.func80 z4_12 rfl #[.agg #[.slice A0_0 l0_0.length c0_0, .int .i64 a0_1, .int .i64 a0_2, .int .i64 a0_3], .agg #[.int .i64 t131, .int .i64 t132, .int .i64 t133]] (by rfl) rfl rfl z4_7 ?_
     with_reducible refine (spec_l10Sold.calls k1 _ _ l0_0 a0_1 a0_2 a0_3 t131 t132 t133 t134 _ ?side1 ?side2 A8.out).mono ?_
     (case side1 => have zh := (Kd.C_below HR0_0.out HB.out); exact z4_C)
     (case side2 => exact HC0_0.out)
     rintro e w15 ⟨rfl, hb⟩
     refine ⟨_, rfl, ?_⟩
     have n0_ := z4_A (Kd.R_below z4_9 hb)
     have n1_ := z4_A (blk_below (g := gb127) (o := .cells #[.slice A0_0 l0_0.length c0_0, .int .i64 a0_1, .int .i64 a0_2, .int .i64 a0_3] 30 (0, 0)) z4_6 hb)
     have n2_ := z4_A (below_step z4_3 hb)
     clear HO_3
     clear BK127
     clear HB
     have HO_3 := n0_
     have BK127 := n1_
     have HB := n2_
     clear n0_ n1_ n2_
     (try clear hb)
     (try clear hb2)
     (try clear hk)
     (try clear hi)
     refine hK.out _ _ ⟨bcz BK127.out 0 rfl, bcz BK127.out 1 rfl, bcz BK127.out 2 rfl, bcz BK127.out 3 rfl⟩ (fun hHeld => ?_)
     clear hK K
     refine norm_ (a' := ?_) ?_ ?_
     rotate_left
     ·show Act.put _ (some 18) _ = _
      simp only [Act.put, List.setIfInBounds_toArray, List.set_cons_zero, List.set_cons_succ, i64_w, i32_w]
      rfl
     refine pure_ (i := 4) (N := some 5) (v := ?_) (a' := ?_) #[true, true, true, true, true] rfl rfl z4_12 (fun _ _ _ h => h) (Or.inl ⟨by rfl, ?_⟩) ?_ ?_
     rotate_left
     ·intro w'
      go_simp
      with_reducible rfl
     rotate_left
     ·simp only [Act.put, List.setIfInBounds_toArray, List.set_cons_zero, List.set_cons_succ, i64_w, i32_w]
      rfl
     refine done_ z4_12 ?_
     try go_wp2
     have n0_ := z4_A (Kd.R_drew HO_3.out)
     have n1_ := z4_A (blk_drew BK127.out)
     have n2_ := z4_A (below_drew1 HB.out)
     clear HO_3
     clear BK127
     clear HB
     have HO_3 := n0_
     have BK127 := n1_
     have HB := n2_
     clear n0_ n1_ n2_
     refine start_ (n := 11) (S := fun w' => w'.cell? ⟨gb127, 0, none⟩ = some (.slice A0_0 l0_0.length c0_0) ∧ w'.cell? ⟨gb127, 1, none⟩ = some (.int .i64 a0_1) ∧ w'.cell? ⟨gb127, 2, none⟩ = some (.int .i64 a0_2) ∧ w'.cell? ⟨gb127, 3, none⟩ = some (.int .i64 a0_3)) (ds := []) #[false, false, false, false, false, false, false, false, false, false, false] z4_12 rfl rfl ⟨bcz BK127.out 0 rfl, bcz BK127.out 1 rfl, bcz BK127.out 2 rfl, bcz BK127.out 3 rfl⟩ (fun hHeld => ?_); refine with_tabW spec_l10Plains.tab6 spec_l10Plains.bits6 (fun HT_ HW_ => ?_)
     generalize w15.drew = w16 at HO_3 BK127 HB hHeld ⊢
     refine pure_ (i := 0) (N := some 19) (v := ?_) (a' := ?_) #[true, false, false, false, false, false, false, false, false, false, false] rfl rfl (any_of HT_.out z4_12) (fun _ _ _ h => h) (Or.inl ⟨by rfl, ?_⟩) ?_ ?_
     rotate_left
     ·intro w'
      go_simp
      with_reducible rfl
     rotate_left
     ·simp only [Act.put, List.setIfInBounds_toArray, List.set_cons_zero, List.set_cons_succ, i64_w, i32_w]
      rfl
     refine pure_ (i := 1) (N := some 20) (v := ?_) (a' := ?_) #[true, true, false, false, false, false, false, false, false, false, false] rfl rfl (any_of HT_.out z4_12) (fun _ _ _ h => h) (Or.inl ⟨by rfl, ?_⟩) ?_ ?_
     rotate_left
     ·intro w'
      go_simp
      with_reducible rfl
     rotate_left
     ·simp only [Act.put, List.setIfInBounds_toArray, List.set_cons_zero, List.set_cons_succ, i64_w, i32_w]
      rfl
     refine pure_ (i := 3) (N := some 22) (v := ?_) (a' := ?_) #[true, true, false, true, false, false, false, false, false, false, false] rfl rfl (any_of HT_.out z4_12) (fun _ _ _ h => h) (Or.inl ⟨by rfl, ?_⟩) ?_ ?_
     rotate_left
     ·intro w'
      go_simp
      with_reducible rfl
     rotate_left
     ·simp only [Act.put, List.setIfInBounds_toArray, List.set_cons_zero, List.set_cons_succ, i64_w, i32_w]
      rfl
     refine pure_ (i := 5) (N := some 24) (v := ?_) (a' := ?_) #[true, true, false, true, false, true, false, false, false, false, false] rfl rfl (any_of HT_.out z4_12) (fun _ _ _ h => h) (Or.inl ⟨by rfl, ?_⟩) ?_ ?_
     rotate_left
     ·intro w'
      go_simp
      with_reducible rfl
     rotate_left
     ·simp only [Act.put, List.setIfInBounds_toArray, List.set_cons_zero, List.set_cons_succ, i64_w, i32_w]
      rfl
     refine take_ (i := 2) (N := some 21) (v := ?_) (a' := ?_) #[true, true, true, true, false, true, false, false, false, false, false] rfl rfl (take_ofW HT_.out HW_.out z4_12) (fun _ _ _ h => h) (Or.inl ⟨by rfl, ?_⟩) hHeld ?_ ?_
     rotate_left
     ·rintro w' ⟨s0, s1, s2, s3⟩
      go_simp
      with_reducible rfl
     rotate_left
     ·simp only [Act.put, List.setIfInBounds_toArray, List.set_cons_zero, List.set_cons_succ, i64_w, i32_w]
      rfl
     refine one_ (i := 4) (N := some 23) #[true, true, true, true, true, true, false, false, false, false, false] rfl rfl (one_of HT_.out z4_12) (by decide) (fun K hK => ?_)
     refine goes_ Try.func103 z4_12 rfl #[.int .i64 x4_1] (by rfl) rfl rfl z4_7 ?_
     with_reducible refine (spec_l10Plain.calls x4_1 t135 t136 t137 _ A9.out).mono ?_
     rintro e w17 ⟨rfl, hb⟩
     refine ⟨_, rfl, ?_⟩
     have n0_ := z4_A (Kd.R_below z4_9 hb)
     have n1_ := z4_A (blk_below (g := gb127) (o := .cells #[.slice A0_0 l0_0.length c0_0, .int .i64 a0_1, .int .i64 a0_2, .int .i64 a0_3] 30 (0, 0)) z4_6 hb)
     have n2_ := z4_A (below_step z4_3 hb)
     clear HO_3
     clear BK127
     clear HB
     have HO_3 := n0_
     have BK127 := n1_
     have HB := n2_
     clear n0_ n1_ n2_
     (try clear hb)
     (try clear hb2)
     (try clear hk)
     (try clear hi)
     refine hK.out _ _ ⟨bcz BK127.out 0 rfl, bcz BK127.out 1 rfl, bcz BK127.out 2 rfl, bcz BK127.out 3 rfl⟩ (fun hHeld => ?_)
     clear hK K
     refine norm_ (a' := ?_) ?_ ?_
     rotate_left
     ·show Act.put _ (some 23) _ = _
      simp only [Act.put, List.setIfInBounds_toArray, List.set_cons_zero, List.set_cons_succ, i64_w, i32_w]
      rfl
     refine one_ (i := 6) (N := some 25) #[true, true, true, true, true, true, true, false, false, false, false] rfl rfl (one_of HT_.out z4_12) (by decide) (fun K hK => ?_)
     refine goes_ Try.func95 z4_12 rfl #[.agg #[.slice A0_0 l0_0.length c0_0, .int .i64 a0_1, .int .i64 a0_2, .int .i64 a0_3], .agg #[.int .i64 t135, .int .i64 t136, .int .i64 t137], .int .i64 t134] (by rfl) rfl rfl z4_7 ?_
     with_reducible refine (spec_l10Maker.calls k1 _ _ l0_0 a0_1 a0_2 a0_3 t135 t136 t137 t134 t138 _ ?side1 ?side2 A10.out).mono ?_
     (case side1 => have zh := (Kd.C_below HR0_0.out HB.out); exact z4_C)
     (case side2 => exact HC0_0.out)
     rintro e w18 ⟨rfl, hb⟩
     refine ⟨_, rfl, ?_⟩
     have n0_ := z4_A (Kd.R_below z4_9 hb)
     have n1_ := z4_A (blk_below (g := gb127) (o := .cells #[.slice A0_0 l0_0.length c0_0, .int .i64 a0_1, .int .i64 a0_2, .int .i64 a0_3] 30 (0, 0)) z4_6 hb)
     have n2_ := z4_A (below_step z4_3 hb)
     clear HO_3
     clear BK127
     clear HB
     have HO_3 := n0_
     have BK127 := n1_
     have HB := n2_
     clear n0_ n1_ n2_
     (try clear hb)
     (try clear hb2)
     (try clear hk)
     (try clear hi)
     refine hK.out _ _ ⟨bcz BK127.out 0 rfl, bcz BK127.out 1 rfl, bcz BK127.out 2 rfl, bcz BK127.out 3 rfl⟩ (fun hHeld => ?_)
     clear hK K
     refine norm_ (a' := ?_) ?_ ?_
     rotate_left
     ·show Act.put _ (some 25) _ = _
      simp only [Act.put, List.setIfInBounds_toArray, List.set_cons_zero, List.set_cons_succ, i64_w, i32_w]
      rfl
     refine pure_ (i := 7) (N := some 26) (v := ?_) (a' := ?_) #[true, true, true, true, true, true, true, true, false, false, false] rfl rfl (any_of HT_.out z4_12) (fun _ _ _ h => h) (Or.inl ⟨by rfl, ?_⟩) ?_ ?_
     rotate_left
     ·intro w'
      go_simp
      with_reducible rfl
     rotate_left
     ·simp only [Act.put, List.setIfInBounds_toArray, List.set_cons_zero, List.set_cons_succ, i64_w, i32_w]
      rfl
     refine one_ (i := 8) (N := some 27) #[true, true, true, true, true, true, true, true, true, false, false] rfl rfl (one_of HT_.out z4_12) (by decide) (fun K hK => ?_)
     refine value_ (w1 := ?_) (v := ?_) (by rfl) rfl ?_ ?_
     rotate_left 2
     ·go_simp
      constructor
      ·rfl
      ·rfl
     refine hK.out _ _ ⟨(blk_cell (blk_alloc BK127.out _) 0).trans rfl, (blk_cell (blk_alloc BK127.out _) 1).trans rfl, (blk_cell (blk_alloc BK127.out _) 2).trans rfl, (blk_cell (blk_alloc BK127.out _) 3).trans rfl⟩ (fun hHeld => ?_)
     clear hK K
     refine norm_ (a' := ?_) ?_ ?_
     rotate_left
     ·show Act.put _ (some 27) _ = _
      simp only [Act.put, List.setIfInBounds_toArray, List.set_cons_zero, List.set_cons_succ, i64_w, i32_w]
      rfl
     refine one_ (i := 9) (N := some 28) #[true, true, true, true, true, true, true, true, true, true, false] rfl rfl (one_of HT_.out z4_12) (by decide) (fun K hK => ?_)
     refine Kd.R_append_step k67 (w0 := w) w.heap.size (by rfl) (.tmp 19) (.tmp 27) 46 67 (.agg #[(.int .i64 0), (.int .i64 0)]) 16 rfl Try.underlying46 info67 rfl (by decide) (by omega) u3 x3_1 (⟨t134, t138⟩ : S67) [.int .i64 t134, .int .i64 t138] (fun _ => True) (fun _ => False) rfl rfl ?aP (fun _ hk => hk.elim) ?aF ?aO ?aB ?aS ?aL ?_
     (case aP => exact k67_mkM _ _ _ (⟨t134, t138⟩ : S67))
     (case aB => exact z4_3)
     (case aF => exact (fun _ _ => trivial))
     (case aO => exact z4_9)
     (case aS => exact (below_size z4_3))
     (case aL => have := LMc11.out; omega)
     intro v140 w19 ho hb hg hat
     rw [← Ny139.out] at ho
     have n0_ := z4_A (blk_grown (g := gb127) (o := .cells #[.slice A0_0 l0_0.length c0_0, .int .i64 a0_1, .int .i64 a0_2, .int .i64 a0_3] 30 (0, 0)) z4_6 hg (Kd.R_ne HO_3.out BK127.out (by decide)))
     have n1_ := z4_A (hb)
     have n2_ := z4_A (ho)
     clear BK127
     clear HB
     clear HO_3
     have BK127 := n0_
     have HB := n1_
     have HO141 := n2_
     clear n0_ n1_ n2_
     clear ho hb hg hat
     refine hK.out _ _ ⟨bcz BK127.out 0 rfl, bcz BK127.out 1 rfl, bcz BK127.out 2 rfl, bcz BK127.out 3 rfl⟩ (fun hHeld => ?_)
     clear hK K
     refine norm_ (a' := ?_) ?_ ?_
     rotate_left
     ·show Act.put _ (some 28) _ = _
      simp only [Act.put, List.setIfInBounds_toArray, List.set_cons_zero, List.set_cons_succ, i64_w, i32_w]
      rfl
     refine pure_ (i := 10) (N := some 3) (v := ?_) (a' := ?_) #[true, true, true, true, true, true, true, true, true, true, true] rfl rfl (any_of HT_.out z4_12) (fun _ _ _ h => h) (Or.inl ⟨by rfl, ?_⟩) ?_ ?_
     rotate_left
     ·intro w'
      go_simp
      with_reducible rfl
     rotate_left
     ·simp only [Act.put, List.setIfInBounds_toArray, List.set_cons_zero, List.set_cons_succ, i64_w, i32_w]
      rfl
     refine done_ (done_of HT_.out z4_12) ?_
     try go_wp2
     go_roundg k1
     case measure => have := HK1.out; omega
     case rel => exact ⟨(y139), (wrap64 (x4_1 + 1)), z4_5, H', ⟨z4_15⟩, ⟨by (with_reducible repeat (first | apply Kd.R_alloc | apply Kd.R_drewN | apply Kd.R_drew)); exact HO141.out⟩, ⟨z4_6⟩, ⟨z4_3⟩⟩
    ·rw [if_neg c11] at H
     exact absurd H (by simp)
   ·rw [if_neg c6] at H
    have c6b0 : decide (x4_1 ≤ a0_1) = false := decide_eq_false c6
    clear c6
    obtain rfl := Option.some.inj H
    have hcz20_0 : wr.cell? ⟨gb127, 0, none⟩ = some (.slice A0_0 l0_0.length c0_0) := bcz BK127.out 0 rfl
    have hcz20_1 : wr.cell? ⟨gb127, 1, none⟩ = some (.int .i64 a0_1) := bcz BK127.out 1 rfl
    have hcz20_2 : wr.cell? ⟨gb127, 2, none⟩ = some (.int .i64 a0_2) := bcz BK127.out 2 rfl
    have hcz20_3 : wr.cell? ⟨gb127, 3, none⟩ = some (.int .i64 a0_3) := bcz BK127.out 3 rfl
    obtain ⟨hfz20_0, hfz20_1, hfz20_2, hfz20_3⟩ := F4z (blk_frozen BK127.out)
    go_wp2
    go_ret
    exact ⟨_, z4_13, z4_9, z4_3⟩

/-! ### spec_BestPlain: function 18 -/
def spec_BestPlain.l0 : Nat → List (S67) → Int → Int → List Int → Int → Int → Int → Option (Int × Bool)
 | 0, _, _, _, _, _, _, _ => none
 | k + 1, x4, x5, x6, x143000, x143001, x143002, x143003 => if x6 < (x4.length : Int) then (if 0 ≤ x6 then (if 0 ≤ x5 then (if x5 < (x4.length : Int) then (if ((rd_T67 x4 x6).f1) > ((rd_T67 x4 x5).f1) then (spec_BestPlain.l0 k x4 x6 (wrap64 (x6 + 1)) x143000 x143001 x143002 x143003) else (spec_BestPlain.l0 k x4 x5 (wrap64 (x6 + 1)) x143000 x143001 x143002 x143003)) else (none)) else (none)) else (none)) else (some (wrap64 (x143002 + x5), true))
def spec_BestPlain.f (k : Nat) (l0_0 : List Int) (a0_1 : Int) (a0_2 : Int) (a0_3 : Int) : Option (Int × Bool) := (spec_l10Market.f k l0_0 a0_1 a0_2 a0_3).bind fun t143 => (if t143 = true then ((spec_l10Plains.f k l0_0 a0_1 a0_2 a0_3).bind fun t144 => (spec_BestPlain.l0 k t144 0 1 l0_0 a0_1 a0_2 a0_3)) else (some (0, false)))
theorem spec_BestPlain.mono_l : ∀ k, (∀ y0 y1 y2 y3 y4 y5 y6, LeO (spec_BestPlain.l0 k y0 y1 y2 y3 y4 y5 y6) (spec_BestPlain.l0 (k + 1) y0 y1 y2 y3 y4 y5 y6))
 | 0 => fun _ _ _ _ _ _ _ r h => by simp [spec_BestPlain.l0] at h
 | k + 1 => by
  have ih0 := spec_BestPlain.mono_l k
  ·intro y0 y1 y2 y3 y4 y5 y6
   unfold spec_BestPlain.l0
   repeat' first
   | (with_reducible exact ih0 _ _ _ _ _ _ _)
   | (with_reducible exact spec_l10Market.mono _ _ _ _ _)
   | (with_reducible exact spec_l10Plains.mono _ _ _ _ _)
   | (with_reducible exact LeO.refl _)
   | (with_reducible exact LeO.none _)
   | (with_reducible refine LeO.ite ?_ ?_)
   | (with_reducible refine LeO.bind ?_ (fun _ => ?_))
   | exact ih0 _ _ _ _ _ _ _
   | exact spec_l10Market.mono _ _ _ _ _
   | exact spec_l10Plains.mono _ _ _ _ _
   | exact LeO.none _
   | refine LeO.ite ?_ ?_
   | refine LeO.bind ?_ (fun _ => ?_)
theorem spec_BestPlain.mono : ∀ a0 a1 a2 a3 k, LeO (spec_BestPlain.f k a0 a1 a2 a3) (spec_BestPlain.f (k + 1) a0 a1 a2 a3) := by
 intro a0 a1 a2 a3 k
 have ih0 := spec_BestPlain.mono_l k
 unfold spec_BestPlain.f
 repeat' first
   | (with_reducible exact ih0 _ _ _ _ _ _ _)
   | (with_reducible exact spec_l10Market.mono _ _ _ _ _)
   | (with_reducible exact spec_l10Plains.mono _ _ _ _ _)
   | (with_reducible exact LeO.refl _)
   | (with_reducible exact LeO.none _)
   | (with_reducible refine LeO.ite ?_ ?_)
   | (with_reducible refine LeO.bind ?_ (fun _ => ?_))
   | exact ih0 _ _ _ _ _ _ _
   | exact spec_l10Market.mono _ _ _ _ _
   | exact spec_l10Plains.mono _ _ _ _ _
   | exact LeO.none _
   | refine LeO.ite ?_ ?_
   | refine LeO.bind ?_ (fun _ => ?_)
set_option maxHeartbeats 8000000 in
set_option maxRecDepth 100000 in
theorem spec_BestPlain.calls (k : Nat) (A0_0 : Option Addr) (c0_0 : Nat) (l0_0 : List Int) (a0_1 : Int) (a0_2 : Int) (a0_3 : Int) (r1 : Int) (r2 : Bool) (w : World) (hr0_0 : Kd.C (Kd.int .i64) w A0_0 l0_0.length l0_0) (hc0_0 : l0_0.length ≤ c0_0) (h : spec_BestPlain.f k l0_0 a0_1 a0_2 a0_3 = some (r1, r2)) :
  Calls Try.prog 18 #[.agg #[.slice A0_0 l0_0.length c0_0, .int .i64 a0_1, .int .i64 a0_2, .int .i64 a0_3]] w fun e w' => e = .returned (.tuple #[.int .i64 r1, .bool r2]) ∧ Below w.heap.size w w' := by
 have hu30 := Try.underlying30
 have hu67 := Try.underlying67
 have HR0_0 := z4_A hr0_0
 have HC0_0 := z4_A hc0_0
 clear hr0_0 hc0_0
 have HB := z4_A (Below.refl w.heap.size w)
 have H : ((spec_l10Market.f k l0_0 a0_1 a0_2 a0_3).bind fun t143 => (if t143 = true then ((spec_l10Plains.f k l0_0 a0_1 a0_2 a0_3).bind fun t144 => (spec_BestPlain.l0 k t144 0 1 l0_0 a0_1 a0_2 a0_3)) else (some (0, false)))) = some (r1, r2) := h
 clear h
 replace H := Option.bind_eq_some_iff.mp H
 obtain ⟨t143, A20, H⟩ := H
 (try dsimp only at H)
 have A2 := z4_A A20
 clear A20
 by_cases c3 : t143 = true
 ·subst c3
  have H1 : ((spec_l10Plains.f k l0_0 a0_1 a0_2 a0_3).bind fun t144 => (spec_BestPlain.l0 k t144 0 1 l0_0 a0_1 a0_2 a0_3)) = some (r1, r2) := by rw [if_pos rfl] at H; exact H
  clear H
  have H := H1
  clear H1
  replace H := Option.bind_eq_some_iff.mp H
  obtain ⟨t144, A40, H⟩ := H
  (try dsimp only at H)
  have A4 := z4_A A40
  clear A40
  have H' := z4_A H
  clear H
  go_enter Try.func18, Try.ntmps18
  go_wp2_with (first | ((with_reducible refine gate_dst (N := 1) rfl ?_); refine box_event ?hg (N := 1) ?hd (cs := #[.slice A0_0 l0_0.length c0_0, .int .i64 a0_1, .int .i64 a0_2, .int .i64 a0_3]) (t := 30) ?hr ?_; (case hd => rfl); (case hg => rfl); (case hr => first | (go_simp; done) | (go_simp; rfl)); intro gb142 hg w5 hbox hb; have n0_ := z4_A (below_step z4_1 hb); have n1_ := z4_A (hbox); have n2_ := z4_A ((z4_11 : w.heap.size ≤ gb142)); have n3_ := z4_A ((z4_11 : w.heap.size ≤ gb142)); clear HB; revert n0_ n1_ n2_ n3_; intro HB BK142 GW142 GE142; clear hb hbox hg; have hcz6_0 : w5.cell? ⟨gb142, 0, none⟩ = some (.slice A0_0 l0_0.length c0_0) := bcz BK142.out 0 rfl; have hcz6_1 : w5.cell? ⟨gb142, 1, none⟩ = some (.int .i64 a0_1) := bcz BK142.out 1 rfl; have hcz6_2 : w5.cell? ⟨gb142, 2, none⟩ = some (.int .i64 a0_2) := bcz BK142.out 2 rfl; have hcz6_3 : w5.cell? ⟨gb142, 3, none⟩ = some (.int .i64 a0_3) := bcz BK142.out 3 rfl; obtain ⟨hfz6_0, hfz6_1, hfz6_2, hfz6_3⟩ := F4z (blk_frozen BK142.out)) | (go_at_call 67; (with_reducible refine (spec_l10Market.calls k _ _ l0_0 a0_1 a0_2 a0_3 true _ ?side1 ?side2 A2.out).mono ?_); (case side1 => have zh := (Kd.C_below HR0_0.out HB.out); exact z4_C); (case side2 => exact HC0_0.out); rintro e w7 ⟨rfl, hb⟩; have n0_ := z4_A (blk_below (g := gb142) (o := .cells #[.slice A0_0 l0_0.length c0_0, .int .i64 a0_1, .int .i64 a0_2, .int .i64 a0_3] 30 (0, 0)) z4_4 hb); have n1_ := z4_A (below_step z4_2 hb); clear BK142 HB; revert n0_ n1_; intro BK142 HB; (try clear hb); (try clear hb2); (try clear hk); (try clear hi); have hcz8_0 : w7.cell? ⟨gb142, 0, none⟩ = some (.slice A0_0 l0_0.length c0_0) := bcz BK142.out 0 rfl; have hcz8_1 : w7.cell? ⟨gb142, 1, none⟩ = some (.int .i64 a0_1) := bcz BK142.out 1 rfl; have hcz8_2 : w7.cell? ⟨gb142, 2, none⟩ = some (.int .i64 a0_2) := bcz BK142.out 2 rfl; have hcz8_3 : w7.cell? ⟨gb142, 3, none⟩ = some (.int .i64 a0_3) := bcz BK142.out 3 rfl; obtain ⟨hfz8_0, hfz8_1, hfz8_2, hfz8_3⟩ := F4z (blk_frozen BK142.out)) | (go_at_call 68; (with_reducible refine (spec_l10Plains.calls k _ _ l0_0 a0_1 a0_2 a0_3 t144 _ ?side1 ?side2 A4.out).mono ?_); (case side1 => have zh := (Kd.C_below HR0_0.out HB.out); exact z4_C); (case side2 => exact HC0_0.out); rintro e w9 ⟨v145, rfl, ho0, hb⟩; have n0_ := z4_A (Kd.R_lower ho0 (below_size z4_2)); have n1_ := z4_A (blk_below (g := gb142) (o := .cells #[.slice A0_0 l0_0.length c0_0, .int .i64 a0_1, .int .i64 a0_2, .int .i64 a0_3] 30 (0, 0)) z4_4 hb); have n2_ := z4_A (below_step z4_2 hb); clear BK142 HB; revert n0_ n1_ n2_; intro HO146 BK142 HB; (try clear hb); (try clear hb2); (try clear hk); (try clear hi); (try clear ho0)))
  repeat (go_quiet (first | ((with_reducible refine gate_dst (N := 1) rfl ?_); refine box_event ?hg (N := 1) ?hd (cs := #[.slice A0_0 l0_0.length c0_0, .int .i64 a0_1, .int .i64 a0_2, .int .i64 a0_3]) (t := 30) ?hr ?_; (case hd => rfl); (case hg => rfl); (case hr => first | (go_simp; done) | (go_simp; rfl)); intro gb142 hg w5 hbox hb; have n0_ := z4_A (below_step z4_1 hb); have n1_ := z4_A (hbox); have n2_ := z4_A ((z4_11 : w.heap.size ≤ gb142)); have n3_ := z4_A ((z4_11 : w.heap.size ≤ gb142)); clear HB; revert n0_ n1_ n2_ n3_; intro HB BK142 GW142 GE142; clear hb hbox hg; have hcz6_0 : w5.cell? ⟨gb142, 0, none⟩ = some (.slice A0_0 l0_0.length c0_0) := bcz BK142.out 0 rfl; have hcz6_1 : w5.cell? ⟨gb142, 1, none⟩ = some (.int .i64 a0_1) := bcz BK142.out 1 rfl; have hcz6_2 : w5.cell? ⟨gb142, 2, none⟩ = some (.int .i64 a0_2) := bcz BK142.out 2 rfl; have hcz6_3 : w5.cell? ⟨gb142, 3, none⟩ = some (.int .i64 a0_3) := bcz BK142.out 3 rfl; obtain ⟨hfz6_0, hfz6_1, hfz6_2, hfz6_3⟩ := F4z (blk_frozen BK142.out)) | (go_at_call 67; (with_reducible refine (spec_l10Market.calls k _ _ l0_0 a0_1 a0_2 a0_3 true _ ?side1 ?side2 A2.out).mono ?_); (case side1 => have zh := (Kd.C_below HR0_0.out HB.out); exact z4_C); (case side2 => exact HC0_0.out); rintro e w7 ⟨rfl, hb⟩; have n0_ := z4_A (blk_below (g := gb142) (o := .cells #[.slice A0_0 l0_0.length c0_0, .int .i64 a0_1, .int .i64 a0_2, .int .i64 a0_3] 30 (0, 0)) z4_4 hb); have n1_ := z4_A (below_step z4_2 hb); clear BK142 HB; revert n0_ n1_; intro BK142 HB; (try clear hb); (try clear hb2); (try clear hk); (try clear hi); have hcz8_0 : w7.cell? ⟨gb142, 0, none⟩ = some (.slice A0_0 l0_0.length c0_0) := bcz BK142.out 0 rfl; have hcz8_1 : w7.cell? ⟨gb142, 1, none⟩ = some (.int .i64 a0_1) := bcz BK142.out 1 rfl; have hcz8_2 : w7.cell? ⟨gb142, 2, none⟩ = some (.int .i64 a0_2) := bcz BK142.out 2 rfl; have hcz8_3 : w7.cell? ⟨gb142, 3, none⟩ = some (.int .i64 a0_3) := bcz BK142.out 3 rfl; obtain ⟨hfz8_0, hfz8_1, hfz8_2, hfz8_3⟩ := F4z (blk_frozen BK142.out)) | (go_at_call 68; (with_reducible refine (spec_l10Plains.calls k _ _ l0_0 a0_1 a0_2 a0_3 t144 _ ?side1 ?side2 A4.out).mono ?_); (case side1 => have zh := (Kd.C_below HR0_0.out HB.out); exact z4_C); (case side2 => exact HC0_0.out); rintro e w9 ⟨v145, rfl, ho0, hb⟩; have n0_ := z4_A (Kd.R_lower ho0 (below_size z4_2)); have n1_ := z4_A (blk_below (g := gb142) (o := .cells #[.slice A0_0 l0_0.length c0_0, .int .i64 a0_1, .int .i64 a0_2, .int .i64 a0_3] 30 (0, 0)) z4_4 hb); have n2_ := z4_A (below_step z4_2 hb); clear BK142 HB; revert n0_ n1_ n2_; intro HO146 BK142 HB; (try clear hb); (try clear hb2); (try clear hk); (try clear hi); (try clear ho0))); try go_wp2_with (first | ((with_reducible refine gate_dst (N := 1) rfl ?_); refine box_event ?hg (N := 1) ?hd (cs := #[.slice A0_0 l0_0.length c0_0, .int .i64 a0_1, .int .i64 a0_2, .int .i64 a0_3]) (t := 30) ?hr ?_; (case hd => rfl); (case hg => rfl); (case hr => first | (go_simp; done) | (go_simp; rfl)); intro gb142 hg w5 hbox hb; have n0_ := z4_A (below_step z4_1 hb); have n1_ := z4_A (hbox); have n2_ := z4_A ((z4_11 : w.heap.size ≤ gb142)); have n3_ := z4_A ((z4_11 : w.heap.size ≤ gb142)); clear HB; revert n0_ n1_ n2_ n3_; intro HB BK142 GW142 GE142; clear hb hbox hg; have hcz6_0 : w5.cell? ⟨gb142, 0, none⟩ = some (.slice A0_0 l0_0.length c0_0) := bcz BK142.out 0 rfl; have hcz6_1 : w5.cell? ⟨gb142, 1, none⟩ = some (.int .i64 a0_1) := bcz BK142.out 1 rfl; have hcz6_2 : w5.cell? ⟨gb142, 2, none⟩ = some (.int .i64 a0_2) := bcz BK142.out 2 rfl; have hcz6_3 : w5.cell? ⟨gb142, 3, none⟩ = some (.int .i64 a0_3) := bcz BK142.out 3 rfl; obtain ⟨hfz6_0, hfz6_1, hfz6_2, hfz6_3⟩ := F4z (blk_frozen BK142.out)) | (go_at_call 67; (with_reducible refine (spec_l10Market.calls k _ _ l0_0 a0_1 a0_2 a0_3 true _ ?side1 ?side2 A2.out).mono ?_); (case side1 => have zh := (Kd.C_below HR0_0.out HB.out); exact z4_C); (case side2 => exact HC0_0.out); rintro e w7 ⟨rfl, hb⟩; have n0_ := z4_A (blk_below (g := gb142) (o := .cells #[.slice A0_0 l0_0.length c0_0, .int .i64 a0_1, .int .i64 a0_2, .int .i64 a0_3] 30 (0, 0)) z4_4 hb); have n1_ := z4_A (below_step z4_2 hb); clear BK142 HB; revert n0_ n1_; intro BK142 HB; (try clear hb); (try clear hb2); (try clear hk); (try clear hi); have hcz8_0 : w7.cell? ⟨gb142, 0, none⟩ = some (.slice A0_0 l0_0.length c0_0) := bcz BK142.out 0 rfl; have hcz8_1 : w7.cell? ⟨gb142, 1, none⟩ = some (.int .i64 a0_1) := bcz BK142.out 1 rfl; have hcz8_2 : w7.cell? ⟨gb142, 2, none⟩ = some (.int .i64 a0_2) := bcz BK142.out 2 rfl; have hcz8_3 : w7.cell? ⟨gb142, 3, none⟩ = some (.int .i64 a0_3) := bcz BK142.out 3 rfl; obtain ⟨hfz8_0, hfz8_1, hfz8_2, hfz8_3⟩ := F4z (blk_frozen BK142.out)) | (go_at_call 68; (with_reducible refine (spec_l10Plains.calls k _ _ l0_0 a0_1 a0_2 a0_3 t144 _ ?side1 ?side2 A4.out).mono ?_); (case side1 => have zh := (Kd.C_below HR0_0.out HB.out); exact z4_C); (case side2 => exact HC0_0.out); rintro e w9 ⟨v145, rfl, ho0, hb⟩; have n0_ := z4_A (Kd.R_lower ho0 (below_size z4_2)); have n1_ := z4_A (blk_below (g := gb142) (o := .cells #[.slice A0_0 l0_0.length c0_0, .int .i64 a0_1, .int .i64 a0_2, .int .i64 a0_3] 30 (0, 0)) z4_4 hb); have n2_ := z4_A (below_step z4_2 hb); clear BK142 HB; revert n0_ n1_ n2_; intro HO146 BK142 HB; (try clear hb); (try clear hb2); (try clear hk); (try clear hi); (try clear ho0))))
  go_loopg [5, 6] k (fun kq v5 v6 w' => ∃ (x5_1 : Int) (x6_1 : Int), v5 = .int .i64 x5_1 ∧ v6 = .int .i64 x6_1 ∧ Aside0 (spec_BestPlain.l0 kq t144 x5_1 x6_1 l0_0 a0_1 a0_2 a0_3 = some (r1, r2)) ∧ Aside0 (kq ≤ k) ∧ Aside0 (Kd.R k67 67 w' w.heap.size (fun _ => True) v145 t144) ∧ Aside0 (w'.heap[gb142]? = some (.cells #[(.slice A0_0 l0_0.length c0_0), .int .i64 a0_1, .int .i64 a0_2, .int .i64 a0_3] 30 (0, 0))) ∧ Aside0 (Below w.heap.size w w'))
  case atStart => exact ⟨(0), (1), z4_5, z4_5, H', ⟨Nat.le_refl _⟩, ⟨by (with_reducible repeat (first | apply Kd.R_alloc | apply Kd.R_drewN | apply Kd.R_drew)); exact HO146.out⟩, ⟨z4_4⟩, ⟨z4_2⟩⟩
  case round =>
   clear H'
   (try clear c3); (try clear hcz6_0); (try clear hcz6_1); (try clear hcz6_2); (try clear hcz6_3); (try clear hcz8_0); (try clear hcz8_1); (try clear hcz8_2); (try clear hcz8_3); (try clear hfz6_0); (try clear hfz6_1); (try clear hfz6_2); (try clear hfz6_3); (try clear hfz8_0); (try clear hfz8_1); (try clear hfz8_2); (try clear hfz8_3)
   obtain ⟨x5_1, x6_1, rfl, rfl, HA, HK1, HO_4, BK142, HB⟩ := hrel
   cases gk with
   | zero => exact absurd HA.out (by simp [spec_BestPlain.l0])
   | succ k1 =>
    have H := HA.out
    clear HA
    simp only [spec_BestPlain.l0] at H
    by_cases c10 : x6_1 < (t144.length : Int)
    ·rw [if_pos c10] at H
     have c10b0 : decide (x6_1 < (t144.length : Int)) = true := decide_eq_true c10
     clear c10
     by_cases c11 : 0 ≤ x6_1
     ·rw [if_pos c11] at H
      have c11b0 : decide (0 ≤ x6_1) = true := decide_eq_true c11
      clear c11
      by_cases c12 : 0 ≤ x5_1
      ·rw [if_pos c12] at H
       have c12b0 : decide (0 ≤ x5_1) = true := decide_eq_true c12
       clear c12
       by_cases c13 : x5_1 < (t144.length : Int)
       ·rw [if_pos c13] at H
        have c13b0 : decide (x5_1 < (t144.length : Int)) = true := decide_eq_true c13
        clear c13
        by_cases c14 : ((rd_T67 t144 x6_1).f1) > ((rd_T67 t144 x5_1).f1)
        ·rw [if_pos c14] at H
         have c14b0 : decide (((rd_T67 t144 x5_1).f1) < ((rd_T67 t144 x6_1).f1)) = true := decide_eq_true c14
         clear c14
         have H' := z4_A H
         clear H
         obtain ⟨Ao15, co15, eo15⟩ := Kd.R_slice HO_4.out
         subst eo15
         have p147 : 0 ≤ (x6_1 : Int) := of_decide_eq_true z4_8
         have q147 : x6_1 < (t144.length : Int) := of_decide_eq_true z4_8
         obtain ⟨ad147, e147, hx147_0, hx147_1⟩ := at_T67 (Kd.R_reads' HO_4.out).2.2 x6_1 p147 q147
         cases e147
         replace p147 := eq_true p147
         replace q147 := eq_true q147
         have p148 : 0 ≤ (x5_1 : Int) := of_decide_eq_true z4_8
         have q148 : x5_1 < (t144.length : Int) := of_decide_eq_true z4_8
         obtain ⟨ad148, e148, hx148_0, hx148_1⟩ := at_T67 (Kd.R_reads' HO_4.out).2.2 x5_1 p148 q148
         obtain rfl : ad147 = ad148 := (by injection e148)
         replace p148 := eq_true p148
         replace q148 := eq_true q148
         go_wp2
         repeat (go_quiet (fail); try go_wp2)
         go_roundg k1
         case measure => have := HK1.out; omega
         case rel => exact ⟨(x6_1), (wrap64 (x6_1 + 1)), z4_5, z4_5, H', ⟨z4_15⟩, ⟨z4_14⟩, ⟨z4_4⟩, ⟨z4_2⟩⟩
        ·rw [if_neg c14] at H
         have c14b0 : decide (((rd_T67 t144 x5_1).f1) < ((rd_T67 t144 x6_1).f1)) = false := decide_eq_false c14
         clear c14
         have H' := z4_A H
         clear H
         obtain ⟨Ao16, co16, eo16⟩ := Kd.R_slice HO_4.out
         subst eo16
         have p147 : 0 ≤ (x6_1 : Int) := of_decide_eq_true z4_8
         have q147 : x6_1 < (t144.length : Int) := of_decide_eq_true z4_8
         obtain ⟨ad147, e147, hx147_0, hx147_1⟩ := at_T67 (Kd.R_reads' HO_4.out).2.2 x6_1 p147 q147
         cases e147
         replace p147 := eq_true p147
         replace q147 := eq_true q147
         have p148 : 0 ≤ (x5_1 : Int) := of_decide_eq_true z4_8
         have q148 : x5_1 < (t144.length : Int) := of_decide_eq_true z4_8
         obtain ⟨ad148, e148, hx148_0, hx148_1⟩ := at_T67 (Kd.R_reads' HO_4.out).2.2 x5_1 p148 q148
         obtain rfl : ad147 = ad148 := (by injection e148)
         replace p148 := eq_true p148
         replace q148 := eq_true q148
         go_wp2
         repeat (go_quiet (fail); try go_wp2)
         go_roundg k1
         case measure => have := HK1.out; omega
         case rel => exact ⟨(x5_1), (wrap64 (x6_1 + 1)), z4_5, z4_5, H', ⟨z4_15⟩, ⟨z4_14⟩, ⟨z4_4⟩, ⟨z4_2⟩⟩
       ·rw [if_neg c13] at H
        exact absurd H (by simp)
      ·rw [if_neg c12] at H
       exact absurd H (by simp)
     ·rw [if_neg c11] at H
      exact absurd H (by simp)
    ·rw [if_neg c10] at H
     have c10b0 : decide (x6_1 < (t144.length : Int)) = false := decide_eq_false c10
     clear c10
     simp only [Option.some.injEq, Prod.mk.injEq] at H
     obtain ⟨rfl, rfl⟩ := H
     obtain ⟨Ao17, co17, eo17⟩ := Kd.R_slice HO_4.out
     subst eo17
     have hcz18_0 : wr.cell? ⟨gb142, 0, none⟩ = some (.slice A0_0 l0_0.length c0_0) := bcz BK142.out 0 rfl
     have hcz18_1 : wr.cell? ⟨gb142, 1, none⟩ = some (.int .i64 a0_1) := bcz BK142.out 1 rfl
     have hcz18_2 : wr.cell? ⟨gb142, 2, none⟩ = some (.int .i64 a0_2) := bcz BK142.out 2 rfl
     have hcz18_3 : wr.cell? ⟨gb142, 3, none⟩ = some (.int .i64 a0_3) := bcz BK142.out 3 rfl
     obtain ⟨hfz18_0, hfz18_1, hfz18_2, hfz18_3⟩ := F4z (blk_frozen BK142.out)
     go_wp2
     repeat (go_quiet (fail); try go_wp2)
     go_ret2
     exact ⟨z4_13, z4_2⟩
 ·replace c3 := Bool.eq_false_iff.mpr c3
  subst c3
  have H1 : (some (0, false)) = some (r1, r2) := by rw [if_neg (show ¬ (false = true) by decide)] at H; exact H
  clear H
  have H := H1
  clear H1
  simp only [Option.some.injEq, Prod.mk.injEq] at H
  obtain ⟨rfl, rfl⟩ := H
  go_enter Try.func18, Try.ntmps18
  go_wp2_with (first | ((with_reducible refine gate_dst (N := 1) rfl ?_); refine box_event ?hg (N := 1) ?hd (cs := #[.slice A0_0 l0_0.length c0_0, .int .i64 a0_1, .int .i64 a0_2, .int .i64 a0_3]) (t := 30) ?hr ?_; (case hd => rfl); (case hg => rfl); (case hr => first | (go_simp; done) | (go_simp; rfl)); intro gb142 hg w19 hbox hb; have n0_ := z4_A (below_step z4_1 hb); have n1_ := z4_A (hbox); have n2_ := z4_A ((z4_11 : w.heap.size ≤ gb142)); have n3_ := z4_A ((z4_11 : w.heap.size ≤ gb142)); clear HB; revert n0_ n1_ n2_ n3_; intro HB BK142 GW142 GE142; clear hb hbox hg; have hcz20_0 : w19.cell? ⟨gb142, 0, none⟩ = some (.slice A0_0 l0_0.length c0_0) := bcz BK142.out 0 rfl; have hcz20_1 : w19.cell? ⟨gb142, 1, none⟩ = some (.int .i64 a0_1) := bcz BK142.out 1 rfl; have hcz20_2 : w19.cell? ⟨gb142, 2, none⟩ = some (.int .i64 a0_2) := bcz BK142.out 2 rfl; have hcz20_3 : w19.cell? ⟨gb142, 3, none⟩ = some (.int .i64 a0_3) := bcz BK142.out 3 rfl; obtain ⟨hfz20_0, hfz20_1, hfz20_2, hfz20_3⟩ := F4z (blk_frozen BK142.out)) | (go_at_call 67; (with_reducible refine (spec_l10Market.calls k _ _ l0_0 a0_1 a0_2 a0_3 false _ ?side1 ?side2 A2.out).mono ?_); (case side1 => have zh := (Kd.C_below HR0_0.out HB.out); exact z4_C); (case side2 => exact HC0_0.out); rintro e w21 ⟨rfl, hb⟩; have n0_ := z4_A (blk_below (g := gb142) (o := .cells #[.slice A0_0 l0_0.length c0_0, .int .i64 a0_1, .int .i64 a0_2, .int .i64 a0_3] 30 (0, 0)) z4_4 hb); have n1_ := z4_A (below_step z4_2 hb); clear BK142 HB; revert n0_ n1_; intro BK142 HB; (try clear hb); (try clear hb2); (try clear hk); (try clear hi)))
  repeat (go_quiet (first | ((with_reducible refine gate_dst (N := 1) rfl ?_); refine box_event ?hg (N := 1) ?hd (cs := #[.slice A0_0 l0_0.length c0_0, .int .i64 a0_1, .int .i64 a0_2, .int .i64 a0_3]) (t := 30) ?hr ?_; (case hd => rfl); (case hg => rfl); (case hr => first | (go_simp; done) | (go_simp; rfl)); intro gb142 hg w19 hbox hb; have n0_ := z4_A (below_step z4_1 hb); have n1_ := z4_A (hbox); have n2_ := z4_A ((z4_11 : w.heap.size ≤ gb142)); have n3_ := z4_A ((z4_11 : w.heap.size ≤ gb142)); clear HB; revert n0_ n1_ n2_ n3_; intro HB BK142 GW142 GE142; clear hb hbox hg; have hcz20_0 : w19.cell? ⟨gb142, 0, none⟩ = some (.slice A0_0 l0_0.length c0_0) := bcz BK142.out 0 rfl; have hcz20_1 : w19.cell? ⟨gb142, 1, none⟩ = some (.int .i64 a0_1) := bcz BK142.out 1 rfl; have hcz20_2 : w19.cell? ⟨gb142, 2, none⟩ = some (.int .i64 a0_2) := bcz BK142.out 2 rfl; have hcz20_3 : w19.cell? ⟨gb142, 3, none⟩ = some (.int .i64 a0_3) := bcz BK142.out 3 rfl; obtain ⟨hfz20_0, hfz20_1, hfz20_2, hfz20_3⟩ := F4z (blk_frozen BK142.out)) | (go_at_call 67; (with_reducible refine (spec_l10Market.calls k _ _ l0_0 a0_1 a0_2 a0_3 false _ ?side1 ?side2 A2.out).mono ?_); (case side1 => have zh := (Kd.C_below HR0_0.out HB.out); exact z4_C); (case side2 => exact HC0_0.out); rintro e w21 ⟨rfl, hb⟩; have n0_ := z4_A (blk_below (g := gb142) (o := .cells #[.slice A0_0 l0_0.length c0_0, .int .i64 a0_1, .int .i64 a0_2, .int .i64 a0_3] 30 (0, 0)) z4_4 hb); have n1_ := z4_A (below_step z4_2 hb); clear BK142 HB; revert n0_ n1_; intro BK142 HB; (try clear hb); (try clear hb2); (try clear hk); (try clear hi))); try go_wp2_with (first | ((with_reducible refine gate_dst (N := 1) rfl ?_); refine box_event ?hg (N := 1) ?hd (cs := #[.slice A0_0 l0_0.length c0_0, .int .i64 a0_1, .int .i64 a0_2, .int .i64 a0_3]) (t := 30) ?hr ?_; (case hd => rfl); (case hg => rfl); (case hr => first | (go_simp; done) | (go_simp; rfl)); intro gb142 hg w19 hbox hb; have n0_ := z4_A (below_step z4_1 hb); have n1_ := z4_A (hbox); have n2_ := z4_A ((z4_11 : w.heap.size ≤ gb142)); have n3_ := z4_A ((z4_11 : w.heap.size ≤ gb142)); clear HB; revert n0_ n1_ n2_ n3_; intro HB BK142 GW142 GE142; clear hb hbox hg; have hcz20_0 : w19.cell? ⟨gb142, 0, none⟩ = some (.slice A0_0 l0_0.length c0_0) := bcz BK142.out 0 rfl; have hcz20_1 : w19.cell? ⟨gb142, 1, none⟩ = some (.int .i64 a0_1) := bcz BK142.out 1 rfl; have hcz20_2 : w19.cell? ⟨gb142, 2, none⟩ = some (.int .i64 a0_2) := bcz BK142.out 2 rfl; have hcz20_3 : w19.cell? ⟨gb142, 3, none⟩ = some (.int .i64 a0_3) := bcz BK142.out 3 rfl; obtain ⟨hfz20_0, hfz20_1, hfz20_2, hfz20_3⟩ := F4z (blk_frozen BK142.out)) | (go_at_call 67; (with_reducible refine (spec_l10Market.calls k _ _ l0_0 a0_1 a0_2 a0_3 false _ ?side1 ?side2 A2.out).mono ?_); (case side1 => have zh := (Kd.C_below HR0_0.out HB.out); exact z4_C); (case side2 => exact HC0_0.out); rintro e w21 ⟨rfl, hb⟩; have n0_ := z4_A (blk_below (g := gb142) (o := .cells #[.slice A0_0 l0_0.length c0_0, .int .i64 a0_1, .int .i64 a0_2, .int .i64 a0_3] 30 (0, 0)) z4_4 hb); have n1_ := z4_A (below_step z4_2 hb); clear BK142 HB; revert n0_ n1_; intro BK142 HB; (try clear hb); (try clear hb2); (try clear hk); (try clear hi))))
  go_ret2
  exact ⟨z4_13, z4_2⟩

/-! ### impl_within: function 77 -/
def impl_within.f (a0 : Int) (a1 : Int) (a2 : Int) : Option (Bool) := if a0 ≥ a1 then (some (decide (a0 ≤ a2))) else (some false)
set_option maxHeartbeats 8000000 in
set_option maxRecDepth 100000 in
theorem impl_within.calls (a0 : Int) (a1 : Int) (a2 : Int) (r : Bool) (w : World) (h : impl_within.f a0 a1 a2 = some r) :
  Calls Try.prog 77 #[.int .i64 a0, .int .i64 a1, .int .i64 a2] w fun e w' => e = .returned (.bool r) ∧ Drawn0 w w' := by
 have H : (if a0 ≥ a1 then (some (decide (a0 ≤ a2))) else (some false)) = some r := h
 clear h
 by_cases c4 : a0 ≥ a1
 ·rw [if_pos c4] at H
  have c4b0 : decide (a1 ≤ a0) = true := decide_eq_true c4
  clear c4
  obtain rfl := Option.some.inj H
  go_enter Try.func77, Try.ntmps77
  go_wp2
  go_ret
  exact ⟨z4_5, z4_10⟩
 ·rw [if_neg c4] at H
  have c4b0 : decide (a1 ≤ a0) = false := decide_eq_false c4
  clear c4
  obtain rfl := Option.some.inj H
  go_enter Try.func77, Try.ntmps77
  go_wp2
  go_ret
  exact ⟨z4_5, z4_10⟩

/-! ### impl_allWithin: function 84 -/
def impl_allWithin.l0 : Nat → Int → Int → List Int → Int → Int → Option (Bool)
 | 0, _, _, _, _, _ => none
 | k + 1, x1, x2, x9, x10, x11 => if x11 < x10 then (if 0 ≤ x11 then (if x11 < (x9.length : Int) then ((impl_within.f (rd x9 x11) x1 x2).bind fun t150 => (if t150 = true then (impl_allWithin.l0 k x1 x2 x9 x10 (wrap64 (x11 + 1))) else (some false))) else (none)) else (none)) else (some true)
def impl_allWithin.f (k : Nat) (l0 : List Int) (a1 : Int) (a2 : Int) : Option (Bool) := impl_allWithin.l0 k a1 a2 l0 (l0.length : Int) 0
theorem impl_allWithin.mono_l : ∀ k, (∀ y0 y1 y2 y3 y4, LeO (impl_allWithin.l0 k y0 y1 y2 y3 y4) (impl_allWithin.l0 (k + 1) y0 y1 y2 y3 y4))
 | 0 => fun _ _ _ _ _ r h => by simp [impl_allWithin.l0] at h
 | k + 1 => by
  have ih0 := impl_allWithin.mono_l k
  ·intro y0 y1 y2 y3 y4
   unfold impl_allWithin.l0
   repeat' first
   | (with_reducible exact ih0 _ _ _ _ _)
   | (with_reducible exact LeO.refl _)
   | (with_reducible exact LeO.none _)
   | (with_reducible refine LeO.ite ?_ ?_)
   | (with_reducible refine LeO.bind ?_ (fun _ => ?_))
   | exact ih0 _ _ _ _ _
   | exact LeO.none _
   | refine LeO.ite ?_ ?_
   | refine LeO.bind ?_ (fun _ => ?_)
theorem impl_allWithin.mono : ∀ a0 a1 a2 k, LeO (impl_allWithin.f k a0 a1 a2) (impl_allWithin.f (k + 1) a0 a1 a2) := by
 intro a0 a1 a2 k
 have ih0 := impl_allWithin.mono_l k
 unfold impl_allWithin.f
 repeat' first
   | (with_reducible exact ih0 _ _ _ _ _)
   | (with_reducible exact LeO.refl _)
   | (with_reducible exact LeO.none _)
   | (with_reducible refine LeO.ite ?_ ?_)
   | (with_reducible refine LeO.bind ?_ (fun _ => ?_))
   | exact ih0 _ _ _ _ _
   | exact LeO.none _
   | refine LeO.ite ?_ ?_
   | refine LeO.bind ?_ (fun _ => ?_)
set_option maxHeartbeats 8000000 in
set_option maxRecDepth 100000 in
theorem impl_allWithin.calls (k : Nat) (A0 : Option Addr) (c0 : Nat) (l0 : List Int) (a1 : Int) (a2 : Int) (r : Bool) (w : World) (hr0 : Kd.C (Kd.int .i64) w A0 l0.length l0) (hc0 : l0.length ≤ c0) (h : impl_allWithin.f k l0 a1 a2 = some r) :
  Calls Try.prog 84 #[.slice A0 l0.length c0, .int .i64 a1, .int .i64 a2] w fun e w' => e = .returned (.bool r) ∧ Drawn0 w w' := by
 have HR0 := z4_A hr0
 have HC0 := z4_A hc0
 clear hr0 hc0
 have H : (impl_allWithin.l0 k a1 a2 l0 (l0.length : Int) 0) = some r := h
 clear h
 have H' := z4_A H
 clear H
 go_enter Try.func84, Try.ntmps84
 go_wp2
 go_loopg [11] k (fun kq v11 w' => ∃ (x11_1 : Int), v11 = .int .i64 x11_1 ∧ Aside0 (impl_allWithin.l0 kq a1 a2 l0 (l0.length : Int) x11_1 = some r) ∧ Aside0 (kq ≤ k) ∧ Drawn0 w w')
 case atStart => exact ⟨(0), z4_5, H', ⟨Nat.le_refl _⟩, z4_10⟩
 case round =>
  clear H'
  try clear p2
  obtain ⟨x11_1, rfl, HA, HK1, ⟨m1, rfl⟩⟩ := hrel
  cases gk with
  | zero => exact absurd HA.out (by simp [impl_allWithin.l0])
  | succ k1 =>
   have H := HA.out
   clear HA
   simp only [impl_allWithin.l0] at H
   by_cases c4 : x11_1 < (l0.length : Int)
   ·rw [if_pos c4] at H
    have c4b0 : decide (x11_1 < (l0.length : Int)) = true := decide_eq_true c4
    clear c4
    by_cases c5 : 0 ≤ x11_1
    ·rw [if_pos c5] at H
     have c5b0 : decide (0 ≤ x11_1) = true := decide_eq_true c5
     clear c5
     by_cases c6 : x11_1 < (l0.length : Int)
     ·rw [if_pos c6] at H
      have c6b0 : decide (x11_1 < (l0.length : Int)) = true := decide_eq_true c6
      clear c6
      replace H := Option.bind_eq_some_iff.mp H
      obtain ⟨t150, A70, H⟩ := H
      (try dsimp only at H)
      have A7 := z4_A A70
      clear A70
      by_cases c8 : t150 = true
      ·subst c8
       have H1 : (impl_allWithin.l0 k1 a1 a2 l0 (l0.length : Int) (wrap64 (x11_1 + 1))) = some r := by rw [if_pos rfl] at H; exact H
       clear H
       have H := H1
       clear H1
       have H' := z4_A H
       clear H
       have p149 : 0 ≤ (x11_1 : Int) := of_decide_eq_true z4_8
       have q149 : x11_1 < (l0.length : Int) := of_decide_eq_true z4_8
       obtain ⟨ad149, e149, hx149_0⟩ := Kd.at_int HR0.out x11_1 p149 q149
       cases e149
       replace p149 := eq_true p149
       replace q149 := eq_true q149
       go_wp2_with (first | ((with_reducible refine gate_callee (f := 77) rfl ?_); refine goesL_ (some 18) rfl rfl Try.func77 z4_12 rfl #[.int .i64 (rd l0 x11_1), .int .i64 a1, .int .i64 a2] rfl z4_7 ?_; (with_reducible refine (impl_within.calls (rd l0 x11_1) a1 a2 true _ A7.out).mono ?_); rintro e w' ⟨rfl, ⟨nd, rfl⟩⟩; refine ⟨_, rfl, ?_⟩))
       go_roundg k1
       case measure => have := HK1.out; omega
       case rel => exact ⟨(wrap64 (x11_1 + 1)), z4_5, H', ⟨z4_15⟩, z4_10⟩
      ·replace c8 := Bool.eq_false_iff.mpr c8
       subst c8
       have H1 : (some false) = some r := by rw [if_neg (show ¬ (false = true) by decide)] at H; exact H
       clear H
       have H := H1
       clear H1
       obtain rfl := Option.some.inj H
       have p149 : 0 ≤ (x11_1 : Int) := of_decide_eq_true z4_8
       have q149 : x11_1 < (l0.length : Int) := of_decide_eq_true z4_8
       obtain ⟨ad149, e149, hx149_0⟩ := Kd.at_int HR0.out x11_1 p149 q149
       cases e149
       replace p149 := eq_true p149
       replace q149 := eq_true q149
       go_wp2_with (first | ((with_reducible refine gate_callee (f := 77) rfl ?_); refine goesL_ (some 18) rfl rfl Try.func77 z4_12 rfl #[.int .i64 (rd l0 x11_1), .int .i64 a1, .int .i64 a2] rfl z4_7 ?_; (with_reducible refine (impl_within.calls (rd l0 x11_1) a1 a2 false _ A7.out).mono ?_); rintro e w' ⟨rfl, ⟨nd, rfl⟩⟩; refine ⟨_, rfl, ?_⟩))
       go_ret
       exact ⟨z4_5, z4_10⟩
     ·rw [if_neg c6] at H
      exact absurd H (by simp)
    ·rw [if_neg c5] at H
     exact absurd H (by simp)
   ·rw [if_neg c4] at H
    have c4b0 : decide (x11_1 < (l0.length : Int)) = false := decide_eq_false c4
    clear c4
    obtain rfl := Option.some.inj H
    go_wp2
    go_ret
    exact ⟨z4_5, z4_10⟩

/-! ### impl_total: function 85 -/
def impl_total.l0 : Nat → Int → List Int → Int → Int → Option (Int)
 | 0, _, _, _, _ => none
 | k + 1, x3, x6, x7, x8 => if x8 < x7 then (if 0 ≤ x8 then (if x8 < (x6.length : Int) then (impl_total.l0 k (wrap64 (x3 + (rd x6 x8))) x6 x7 (wrap64 (x8 + 1))) else (none)) else (none)) else (some x3)
def impl_total.f (k : Nat) (l0 : List Int) : Option (Int) := impl_total.l0 k 0 l0 (l0.length : Int) 0
theorem impl_total.mono_l : ∀ k, (∀ y0 y1 y2 y3, LeO (impl_total.l0 k y0 y1 y2 y3) (impl_total.l0 (k + 1) y0 y1 y2 y3))
 | 0 => fun _ _ _ _ r h => by simp [impl_total.l0] at h
 | k + 1 => by
  have ih0 := impl_total.mono_l k
  ·intro y0 y1 y2 y3
   unfold impl_total.l0
   repeat' first
   | (with_reducible exact ih0 _ _ _ _)
   | (with_reducible exact LeO.refl _)
   | (with_reducible exact LeO.none _)
   | (with_reducible refine LeO.ite ?_ ?_)
   | (with_reducible refine LeO.bind ?_ (fun _ => ?_))
   | exact ih0 _ _ _ _
   | exact LeO.none _
   | refine LeO.ite ?_ ?_
   | refine LeO.bind ?_ (fun _ => ?_)
theorem impl_total.mono : ∀ a0 k, LeO (impl_total.f k a0) (impl_total.f (k + 1) a0) := by
 intro a0 k
 have ih0 := impl_total.mono_l k
 unfold impl_total.f
 repeat' first
   | (with_reducible exact ih0 _ _ _ _)
   | (with_reducible exact LeO.refl _)
   | (with_reducible exact LeO.none _)
   | (with_reducible refine LeO.ite ?_ ?_)
   | (with_reducible refine LeO.bind ?_ (fun _ => ?_))
   | exact ih0 _ _ _ _
   | exact LeO.none _
   | refine LeO.ite ?_ ?_
   | refine LeO.bind ?_ (fun _ => ?_)
set_option maxHeartbeats 8000000 in
set_option maxRecDepth 100000 in
theorem impl_total.calls (k : Nat) (A0 : Option Addr) (c0 : Nat) (l0 : List Int) (r : Int) (w : World) (hr0 : Kd.C (Kd.int .i64) w A0 l0.length l0) (hc0 : l0.length ≤ c0) (h : impl_total.f k l0 = some r) :
  Calls Try.prog 85 #[.slice A0 l0.length c0] w fun e w' => e = .returned (.int .i64 r) ∧ Drawn0 w w' := by
 have HR0 := z4_A hr0
 have HC0 := z4_A hc0
 clear hr0 hc0
 have H : (impl_total.l0 k 0 l0 (l0.length : Int) 0) = some r := h
 clear h
 have H' := z4_A H
 clear H
 go_enter Try.func85, Try.ntmps85
 go_wp2
 go_loopg [3, 8] k (fun kq v3 v8 w' => ∃ (x3_1 : Int) (x8_1 : Int), v3 = .int .i64 x3_1 ∧ v8 = .int .i64 x8_1 ∧ Aside0 (impl_total.l0 kq x3_1 l0 (l0.length : Int) x8_1 = some r) ∧ Aside0 (kq ≤ k) ∧ Drawn0 w w')
 case atStart => exact ⟨(0), (0), z4_5, z4_5, H', ⟨Nat.le_refl _⟩, z4_10⟩
 case round =>
  clear H'
  obtain ⟨x3_1, x8_1, rfl, rfl, HA, HK1, ⟨m1, rfl⟩⟩ := hrel
  cases gk with
  | zero => exact absurd HA.out (by simp [impl_total.l0])
  | succ k1 =>
   have H := HA.out
   clear HA
   simp only [impl_total.l0] at H
   by_cases c2 : x8_1 < (l0.length : Int)
   ·rw [if_pos c2] at H
    have c2b0 : decide (x8_1 < (l0.length : Int)) = true := decide_eq_true c2
    clear c2
    by_cases c3 : 0 ≤ x8_1
    ·rw [if_pos c3] at H
     have c3b0 : decide (0 ≤ x8_1) = true := decide_eq_true c3
     clear c3
     by_cases c4 : x8_1 < (l0.length : Int)
     ·rw [if_pos c4] at H
      have c4b0 : decide (x8_1 < (l0.length : Int)) = true := decide_eq_true c4
      clear c4
      have H' := z4_A H
      clear H
      have p151 : 0 ≤ (x8_1 : Int) := of_decide_eq_true z4_8
      have q151 : x8_1 < (l0.length : Int) := of_decide_eq_true z4_8
      obtain ⟨ad151, e151, hx151_0⟩ := Kd.at_int HR0.out x8_1 p151 q151
      cases e151
      replace p151 := eq_true p151
      replace q151 := eq_true q151
      go_wp2
      go_roundg k1
      case measure => have := HK1.out; omega
      case rel => exact ⟨(wrap64 (x3_1 + (rd l0 x8_1))), (wrap64 (x8_1 + 1)), z4_5, z4_5, H', ⟨z4_15⟩, z4_10⟩
     ·rw [if_neg c4] at H
      exact absurd H (by simp)
    ·rw [if_neg c3] at H
     exact absurd H (by simp)
   ·rw [if_neg c2] at H
    have c2b0 : decide (x8_1 < (l0.length : Int)) = false := decide_eq_false c2
    clear c2
    obtain rfl := Option.some.inj H
    go_wp2
    go_ret
    exact ⟨z4_5, z4_10⟩

end Go.Proofs.Ytiniocecpgjikaa.PFnProfits
