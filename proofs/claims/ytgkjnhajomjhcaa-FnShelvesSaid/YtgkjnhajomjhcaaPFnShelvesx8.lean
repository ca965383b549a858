-- A text of this session (its program hook.py, over the kit's print.py): not a print of print.sh
-- THIN: one blank for two
import Derived.Test.YtgkjnhajomjhcaaPFnShelvesx0
import Derived.Test.YtgkjnhajomjhcaaPFnShelvesx1
namespace Go.Proofs.Ytgkjnhajomjhcaa.PFnShelves
open Go.RowKit Go.Proofs.YtgkjnhajomjhcaaW.PrintWords Go.Proofs.YtgkjnhajomjhcaaW.PrintLast Go.Proofs.YtgkjnhajomjhcaaW.PrintMore
attribute [local go_sem] max2_int min2_int max_two min_two max_three min_three max_four min_four   -- for this text's walks alone
set_option linter.unusedVariables false
set_option linter.unusedSimpArgs false

/-! ### spec_l2Bits: function 73 -/
def spec_l2Bits.l0 : Nat → Int → Int → List Int → Int → Option (List Int)
 | 0, _, _, _, _ => none
 | k + 1, a, b, c, d => if d < a then (if 0 ≤ d then (if (Go.bits .and .i64 (shr .i64 b d) 1) = 1 then (if c.length < 17592186044416 then (spec_l2Bits.l0 k a b (c ++ [d]) (wrap64 (d + 1))) else (none)) else (spec_l2Bits.l0 k a b c (wrap64 (d + 1)))) else (none)) else (some c)
def spec_l2Bits.f (k : Nat) (a : Int) (b : Int) : Option (List Int) := spec_l2Bits.l0 k a b (([] : List Int)) 0
theorem spec_l2Bits.mono_l : ∀ k, (∀ y0 y1 y2 y3, LeO (spec_l2Bits.l0 k y0 y1 y2 y3) (spec_l2Bits.l0 (k + 1) y0 y1 y2 y3))
 | 0 => fun _ _ _ _ r h => by simp [spec_l2Bits.l0] at h
 | k + 1 => by
  have ih0 := spec_l2Bits.mono_l k
  ·intro y0 y1 y2 y3
   unfold spec_l2Bits.l0
   repeat' with_reducible first | apply ih0 | exact LeO.refl _ | refine LeO.ite ?_ ?_
theorem spec_l2Bits.mono : ∀ a0 a1 k, LeO (spec_l2Bits.f k a0 a1) (spec_l2Bits.f (k + 1) a0 a1) := by
 intro a0 a1 k
 have ih0 := spec_l2Bits.mono_l k
 unfold spec_l2Bits.f
 repeat' with_reducible first | apply ih0
set_option maxHeartbeats 8000000 in
set_option maxRecDepth 100000 in
theorem spec_l2Bits.calls (k : Nat) (a0 : Int) (a1 : Int) (r : List Int) (w : World) (h : spec_l2Bits.f k a0 a1 = some r) :
  Calls Try.prog 73 #[.int .i64 a0, .int .i64 a1] w fun e w' => ∃ v0_ : Value, e = .returned (v0_) ∧ Kd.R (Kd.int .i64) 3 w' w.heap.size (fun _ => True) v0_ r ∧ Below w.heap.size w w' := by
 have HB := zA (Below.refl w.heap.size w); unfold spec_l2Bits.f at h; revert h; intro H; obtain ⟨y249, hy249⟩ : ∃ y_ : List Int, y_ = (([] : List Int)) := ⟨_, rfl⟩; (replace H : (spec_l2Bits.l0 k a0 a1 y249 0) = some r := by (rw [hy249]; with_reducible exact H)); have Ny249 := zA hy249; clear hy249; have H' := zA H; clear H; go_enter Try.func73, Try.ntmps73; go_wp2_with ((with_reducible refine gate_dst (N := 7) rfl ?_); refine Kd.R_lit (Kd.int .i64) _ 3 ?hg (N := 7) ?hd (xs := ([] : List Int)) (inner := []) (ok := fun _ => True) (okp := fun _ => True) ?hr ?hp (fun _ hk => hk) trivial (Below.refl _ _) (Nat.le_refl _) (by simp) ?_; (case hd => rfl); (case hg => rfl); (case hr => (go_simp; done)); (case hp => exact (Reps.none _ _)); intro v250 w3 ho4 hb hg_ hnew_; clear hg_ hnew_; (rw [← Ny249.out] at ho4); have HO251 := zA (Kd.R_lower ho4 (below_size HB.out)); replace HB := zA (below_step HB.out hb); clear hb ho4); go_loopg [5, 6] k (fun kq v5 v6 w' => ∃ (x5_1 : List Int) (x6_1 : Int), v6 = .int .i64 x6_1 ∧ Aside0 (spec_l2Bits.l0 kq a0 a1 x5_1 x6_1 = some r) ∧ Aside0 (kq ≤ k) ∧ Aside0 (Kd.R (Kd.int .i64) 3 w' w.heap.size (fun _ => True) v5 x5_1) ∧ Aside0 (Below w.heap.size w w')); case atStart => exact ⟨(y249), (0), (by rfl), H', ⟨Nat.le_refl _⟩, ⟨by exact HO251.out⟩, ⟨HB.out⟩⟩
 case round =>
 clear H'; obtain ⟨x5_1, x6_1, rfl, HA, HK1, HO_5, HB⟩ := hrel; cases gk with
 | zero => exact absurd HA.out (by simp [spec_l2Bits.l0])
 | succ k1 => ?_
 have H := HA.out; clear HA; simp only [spec_l2Bits.l0] at H; by_cases c5 : x6_1 < a0; rotate_left
 ·rw [if_neg c5] at H; have c5b0 := decide_eq_false c5; clear c5; obtain rfl := Option.some.inj H; go_wp2; go_ret; exact ⟨_, by rfl, by exact HO_5.out, by exact HB.out⟩
 rw [if_pos c5] at H; have c5b0 := decide_eq_true c5; clear c5; by_cases c6 : 0 ≤ x6_1; rotate_left
 ·rw [if_neg c6] at H; exact absurd H (by simp)
 rw [if_pos c6] at H; have c6b0 := eq_true c6; have c6b1 : decide (0 ≤ x6_1) = true := decide_eq_true c6; clear c6; obtain ⟨ji7, hji7⟩ : ∃ j_ : Int, (shr .i64 a1 x6_1) = j_ := ⟨_, rfl⟩; (replace H : (if (Go.bits .and .i64 (ji7) 1) = 1 then (if x5_1.length < 17592186044416 then (spec_l2Bits.l0 k1 a0 a1 (x5_1 ++ [x6_1]) (wrap64 (x6_1 + 1))) else (none)) else (spec_l2Bits.l0 k1 a0 a1 x5_1 (wrap64 (x6_1 + 1)))) = some r := by (rw [hji7] at H; exact H)); have hji7_ : (a1 / 2 ^ min x6_1.toNat 64) = ji7 := hji7; have hji7z : x6_1 ≤ 64 → (a1 / 2 ^ x6_1.toNat) = ji7 := shr_small hji7; by_cases c8 : (Go.bits .and .i64 (ji7) 1) = 1; rotate_left
 ·rw [if_neg c8] at H; have c8b0 : ((Go.bits .and .i64 (ji7) 1) == 1) = false := beq_eq_false_iff_ne.mpr c8; have c8b1 : ((Go.bits .and .i64 (ji7) 1) != 1) = true := bne_iff_ne.mpr c8; have H' := zA H; clear H; go_wp2; go_roundg k1; (case measure => have := HK1.out; omega); case rel => exact ⟨(x5_1), (wrap64 (x6_1 + 1)), (by rfl), H', ⟨by have := HK1.out; omega⟩, ⟨by exact HO_5.out⟩, ⟨HB.out⟩⟩
 rw [if_pos c8] at H; have c8b0 : ((Go.bits .and .i64 (ji7) 1) == 1) = true := beq_iff_eq.mpr c8; have c8b1 : ((Go.bits .and .i64 (ji7) 1) != 1) = false := bne_eq_false_iff_eq.mpr c8; clear c8; by_cases c9 : x5_1.length < 17592186044416; rotate_left
 ·rw [if_neg c9] at H; exact absurd H (by simp)
 rw [if_pos c9] at H; have LMc9 := zA c9; clear c9; obtain ⟨y252, hy252⟩ : ∃ y_ : List Int, y_ = (x5_1 ++ [x6_1]) := ⟨_, rfl⟩; (replace H : (spec_l2Bits.l0 k1 a0 a1 y252 (wrap64 (x6_1 + 1))) = some r := by (rw [hy252]; with_reducible exact H)); have Ny252 := zA hy252; clear hy252; have H' := zA H; clear H; go_wp2_with ((with_reducible refine gate_builtin (b := .append) (xs := #[.tmp 18, .tmp 20]) rfl ?_); at_builtin; refine Kd.R_append (Kd.int .i64) (w0 := w) w.heap.size rfl (.tmp 18) (.tmp 20) 22 3 (.int .i64 0) 8 rfl Try.underlying22 info3 rfl (by decide) (by omega) u5 x5_1 x6_1 [.int .i64 x6_1] (fun _ => True) (fun _ => False) rfl rfl ?aP (fun _ hk => hk.elim) ?aF ?aO ?aB ?aS ?aL ?_; (case aP => exact rfl); (case aB => exact HB.out); (case aF => exact (fun _ _ => trivial)); (case aO => exact (by exact HO_5.out)); (case aS => exact (below_size HB.out)); (case aL => have := LMc9.out; omega); intro v253 w10 ho hb hg hat; rw [← Ny252.out] at ho; replace HB := zA hb; have HO254 := zA ho; clear HO_5 ho hb hg hat); go_roundg k1; (case measure => have := HK1.out; omega); case rel => exact ⟨(y252), (wrap64 (x6_1 + 1)), (by rfl), H', ⟨by have := HK1.out; omega⟩, ⟨by exact HO254.out⟩, ⟨HB.out⟩⟩
/-! ### spec_l9Bound: function 74 -/
mutual
def spec_l9Bound.l0 : Nat → List Int → Int → Int → Int → List Int → List Int → Int → Int → Option (Int)
 | 0, _, _, _, _, _, _, _, _ => none
 | k + 1, a, b, c, d, e, f, g, h => if c < (a.length : Int) then (if 0 ≤ c then (if 0 ≤ (rd a c) then (if (rd a c) < (f.length : Int) then (spec_l9Bound.l0 k a (wrap64 (b + (rd f (rd a c)))) (wrap64 (c + 1)) d e f g h) else (none)) else (none)) else (none)) else (spec_l9Bound.l1 k a b 0 d e f g h)
def spec_l9Bound.l1 : Nat → List Int → Int → Int → Int → List Int → List Int → Int → Int → Option (Int)
 | 0, _, _, _, _, _, _, _, _ => none
 | k + 1, a, b, c, d, e, f, g, h => if c < (e.length : Int) then (spec_l9Bound.l2 k a b c false 0 d e f g h) else (some b)
def spec_l9Bound.l2 : Nat → List Int → Int → Int → Bool → Int → Int → List Int → List Int → Int → Int → Option (Int)
 | 0, _, _, _, _, _, _, _, _, _, _ => none
 | k + 1, a, b, c, d, e, f, g, h, i, j => if e < (a.length : Int) then (if d = true then (spec_l9Bound.l2 k a b c true (wrap64 (e + 1)) f g h i j) else (if 0 ≤ e then ((spec_l9Usable.f f g h i j c (rd a e)).bind fun l => (spec_l9Bound.l2 k a b c l (wrap64 (e + 1)) f g h i j)) else (none))) else (if d = true then (if 0 ≤ c then (if c < (g.length : Int) then (spec_l9Bound.l1 k a (wrap64 (b - (rd g c))) (wrap64 (c + 1)) f g h i j) else (none)) else (none)) else (spec_l9Bound.l1 k a b (wrap64 (c + 1)) f g h i j))
end
def spec_l9Bound.f (k : Nat) (a : Int) (b : List Int) (c : List Int) (d : Int) (e : Int) (f : List Int) : Option (Int) := spec_l9Bound.l0 k f 0 0 a b c d e
theorem spec_l9Bound.mono_l : ∀ k, (∀ y0 y1 y2 y3 y4 y5 y6 y7, LeO (spec_l9Bound.l0 k y0 y1 y2 y3 y4 y5 y6 y7) (spec_l9Bound.l0 (k + 1) y0 y1 y2 y3 y4 y5 y6 y7)) ∧ (∀ y0 y1 y2 y3 y4 y5 y6 y7, LeO (spec_l9Bound.l1 k y0 y1 y2 y3 y4 y5 y6 y7) (spec_l9Bound.l1 (k + 1) y0 y1 y2 y3 y4 y5 y6 y7)) ∧ (∀ y0 y1 y2 y3 y4 y5 y6 y7 y8 y9, LeO (spec_l9Bound.l2 k y0 y1 y2 y3 y4 y5 y6 y7 y8 y9) (spec_l9Bound.l2 (k + 1) y0 y1 y2 y3 y4 y5 y6 y7 y8 y9))
 | 0 => by refine ⟨?_, ?_, ?_⟩ <;> intros <;> intro _ h <;> simp [spec_l9Bound.l0, spec_l9Bound.l1, spec_l9Bound.l2] at h
 | k + 1 => by
  obtain ⟨ih0, ih1, ih2⟩ := spec_l9Bound.mono_l k
  refine ⟨?_, ?_, ?_⟩ <;> intros <;> (first | unfold spec_l9Bound.l0 | unfold spec_l9Bound.l1 | unfold spec_l9Bound.l2) <;> repeat' with_reducible first | apply ih0 | apply ih1 | apply ih2 | exact LeO.refl _ | refine LeO.ite ?_ ?_ | refine LeO.bind ?_ (fun _ => ?_)
theorem spec_l9Bound.mono : ∀ a0 a1 a2 a3 a4 a5 k, LeO (spec_l9Bound.f k a0 a1 a2 a3 a4 a5) (spec_l9Bound.f (k + 1) a0 a1 a2 a3 a4 a5) := by
 intro a0 a1 a2 a3 a4 a5 k
 obtain ⟨ih0, ih1, ih2⟩ := spec_l9Bound.mono_l k
 unfold spec_l9Bound.f
 repeat' with_reducible first | apply ih0
def spec_l9Bound.T5 : Bool × List (List Nat × List Nat) := (true, [([], []), ([], []), ([1], [1]), ([], []), ([], []), ([3, 4], [3, 4]), ([5], [5]), ([2, 6], [2, 6]), ([7], [7]), ([0, 8], [0, 8]), ([9, 0, 1, 2, 3, 4, 5, 6, 7, 8, 9], [0, 9])])
def spec_l9Bound.B5 : List Nat := [0, 0, 2, 0, 0, 24, 56, 126, 254, 511, 1023]
theorem spec_l9Bound.tab5 : rtab .any (opsOf Try.f74 5) = spec_l9Bound.T5 := by kernel_rfl
theorem spec_l9Bound.bits5 : waitsOk spec_l9Bound.T5.2 spec_l9Bound.B5 = true := by kernel_rfl
def spec_l9Bound.T13 : Bool × List (List Nat × List Nat) := (true, [([], []), ([0], [0]), ([1], [1]), ([1], [1]), ([1], [1]), ([1], [1]), ([4, 5, 1], [1, 4, 5]), ([6, 1], [1, 6]), ([2, 3, 7, 1, 1], [1, 2, 3, 7]), ([1, 8], [1, 8]), ([9, 8, 0, 1, 2, 3, 4, 5, 6, 7, 8, 9], [0, 9])])
def spec_l9Bound.B13 : List Nat := [0, 1, 3, 3, 3, 3, 51, 115, 255, 511, 1023]
theorem spec_l9Bound.tab13 : rtab .any (opsOf Try.f74 13) = spec_l9Bound.T13 := by kernel_rfl
theorem spec_l9Bound.bits13 : waitsOk spec_l9Bound.T13.2 spec_l9Bound.B13 = true := by kernel_rfl
set_option maxHeartbeats 8000000 in
set_option maxRecDepth 100000 in
theorem spec_l9Bound.calls (k : Nat) (a0_0 : Int) (A0_1 : Option Addr) (c0_1 : Nat) (l0_1 : List Int) (A0_2 : Option Addr) (c0_2 : Nat) (l0_2 : List Int) (a0_3 : Int) (a0_4 : Int) (A1 : Option Addr) (c1 : Nat) (l1 : List Int) (r : Int) (w : World) (hr0_1 : Kd.C (Kd.int .i64) w A0_1 l0_1.length l0_1) (hc0_1 : l0_1.length ≤ c0_1) (hr0_2 : Kd.C (Kd.int .i64) w A0_2 l0_2.length l0_2) (hc0_2 : l0_2.length ≤ c0_2) (hr1 : Kd.C (Kd.int .i64) w A1 l1.length l1) (hc1 : l1.length ≤ c1) (h : spec_l9Bound.f k a0_0 l0_1 l0_2 a0_3 a0_4 l1 = some r) :
  Calls Try.prog 74 #[.agg #[.int .i64 a0_0, .slice A0_1 l0_1.length c0_1, .slice A0_2 l0_2.length c0_2, .int .i64 a0_3, .int .i64 a0_4], .slice A1 l1.length c1] w fun e w' => e = .returned (.int .i64 r) ∧ Below w.heap.size w w' := by
 have hu30 := Try.underlying30; have HR0_1 := zA hr0_1; have HC0_1 := zA hc0_1; clear hr0_1 hc0_1; have HR0_2 := zA hr0_2; have HC0_2 := zA hc0_2; clear hr0_2 hc0_2; have HR1 := zA hr1; have HC1 := zA hc1; clear hr1 hc1; have HB := zA (Below.refl w.heap.size w); unfold spec_l9Bound.f at h; revert h; intro H; have H' := zA H; clear H; go_enter Try.func74, Try.ntmps74; go_wp2_with ((with_reducible refine gate_dst (N := 2) rfl ?_); refine box_event ?hg (N := 2) ?hd (cs := #[.int .i64 a0_0, .slice A0_1 l0_1.length c0_1, .slice A0_2 l0_2.length c0_2, .int .i64 a0_3, .int .i64 a0_4]) (t := 30) ?hr ?_; (case hd => rfl); (case hg => rfl); (case hr => (go_simp; done)); intro gb255 hg w3 hbox hb; have BK255 := zA hbox; have GW255 := zA (by rw [hg]; exact (below_size HB.out) : w.heap.size ≤ gb255); have GE255 := zA (by rw [hg]; exact (below_size HB.out) : w.heap.size ≤ gb255); replace HB := zA (below_step HB.out hb); clear hb hbox hg); go_loopg [5, 6] k (fun kq v5 v6 w' => ∃ (x5_1 : Int) (x6_1 : Int), v5 = .int .i64 x5_1 ∧ v6 = .int .i64 x6_1 ∧ Aside0 (spec_l9Bound.l0 kq l1 x5_1 x6_1 a0_0 l0_1 l0_2 a0_3 a0_4 = some r) ∧ Aside0 (kq ≤ k) ∧ Aside0 (w'.heap[gb255]? = some (.cells #[.int .i64 a0_0, (.slice A0_1 l0_1.length c0_1), (.slice A0_2 l0_2.length c0_2), .int .i64 a0_3, .int .i64 a0_4] 30 (0, 0))) ∧ Aside0 (Below w.heap.size w w')); case atStart => exact ⟨(0), (0), (by rfl), (by rfl), H', ⟨Nat.le_refl _⟩, ⟨BK255.out⟩, ⟨HB.out⟩⟩
 case round =>
 clear H'; obtain ⟨x5_1, x6_1, rfl, rfl, HA, HK1, BK255, HB⟩ := hrel; cases gk with
 | zero => exact absurd HA.out (by simp [spec_l9Bound.l0])
 | succ k1 => ?_
 have H := HA.out; clear HA; simp only [spec_l9Bound.l0] at H; by_cases c4 : x6_1 < (l1.length : Int); rotate_left
 ·rw [if_neg c4] at H; have c4b0 := decide_eq_false c4; clear c4; have H' := zA H; clear H; go_wp2; go_loopg [5, 7] k1 (fun kq v5 v7 w' => ∃ (x5_2 : Int) (x7_2 : Int), v5 = .int .i64 x5_2 ∧ v7 = .int .i64 x7_2 ∧ Aside0 (spec_l9Bound.l1 kq l1 x5_2 x7_2 a0_0 l0_1 l0_2 a0_3 a0_4 = some r) ∧ Aside0 (kq ≤ k1) ∧ Aside0 (w'.heap[gb255]? = some (.cells #[.int .i64 a0_0, (.slice A0_1 l0_1.length c0_1), (.slice A0_2 l0_2.length c0_2), .int .i64 a0_3, .int .i64 a0_4] 30 (0, 0))) ∧ Aside0 (Below w.heap.size w w')); case atStart => exact ⟨(x5_1), (0), (by rfl), (by rfl), H', ⟨Nat.le_refl _⟩, ⟨BK255.out⟩, ⟨HB.out⟩⟩
  case round =>
  clear H' c4b0; obtain ⟨x5_2, x7_2, rfl, rfl, HA, HK2, BK255, HB⟩ := hrel; cases gk with
  | zero => exact absurd HA.out (by simp [spec_l9Bound.l1])
  | succ k2 => ?_
  have H := HA.out; clear HA; simp only [spec_l9Bound.l1] at H; by_cases c9 : x7_2 < (l0_1.length : Int)
  ·rw [if_pos c9] at H; have c9b0 := decide_eq_true c9; clear c9; have H' := zA H; clear H; have hcz10_0 := zcf5 BK255.out; go_wp2; go_loopg [8, 9] k2 (fun kq v8 v9 w' => ∃ (x8_3 : Bool) (x9_3 : Int), v8 = .bool x8_3 ∧ v9 = .int .i64 x9_3 ∧ Aside0 (spec_l9Bound.l2 kq l1 x5_2 x7_2 x8_3 x9_3 a0_0 l0_1 l0_2 a0_3 a0_4 = some r) ∧ Aside0 (kq ≤ k2) ∧ Aside0 (w'.heap[gb255]? = some (.cells #[.int .i64 a0_0, (.slice A0_1 l0_1.length c0_1), (.slice A0_2 l0_2.length c0_2), .int .i64 a0_3, .int .i64 a0_4] 30 (0, 0))) ∧ Aside0 (Below w.heap.size w w')); case atStart => exact ⟨(false), (0), (by rfl), (by rfl), H', ⟨Nat.le_refl _⟩, ⟨BK255.out⟩, ⟨HB.out⟩⟩
   case round =>
   clear H' c9b0 hcz10_0; obtain ⟨x8_3, x9_3, rfl, rfl, HA, HK3, BK255, HB⟩ := hrel; cases gk with
   | zero => exact absurd HA.out (by simp [spec_l9Bound.l2])
   | succ k3 => ?_
   have H := HA.out; clear HA; simp only [spec_l9Bound.l2] at H; by_cases c11 : x9_3 < (l1.length : Int); rotate_left
   ·rw [if_neg c11] at H; have c11b0 := decide_eq_false c11; clear c11; by_cases c18 : x8_3 = true; rotate_left
    ·replace c18 := Bool.eq_false_iff.mpr c18; subst c18; rw [if_neg (show ¬ (false = true) by decide)] at H; have H' := zA H; clear H; go_wp2; go_roundg k3; (case measure => have := HK1.out; have := HK2.out; have := HK3.out; omega); case rel => exact ⟨(x5_2), (wrap64 (x7_2 + 1)), (by rfl), (by rfl), H', ⟨by have := HK1.out; have := HK2.out; have := HK3.out; omega⟩, ⟨BK255.out⟩, ⟨HB.out⟩⟩
    subst c18; rw [if_pos rfl] at H; by_cases c19 : 0 ≤ x7_2; rotate_left
    ·rw [if_neg c19] at H; exact absurd H (by simp)
    rw [if_pos c19] at H; have c19b0 := decide_eq_true c19; clear c19; by_cases c20 : x7_2 < (l0_1.length : Int); rotate_left
    ·rw [if_neg c20] at H; exact absurd H (by simp)
    rw [if_pos c20] at H; have c20b0 := decide_eq_true c20; clear c20; have H' := zA H; clear H; have hcz21_0 := zcf5 BK255.out; have p260 : 0 ≤ (x7_2 : Int) := of_decide_eq_true (by (with_reducible assumption)); have q260 : x7_2 < (l0_1.length : Int) := of_decide_eq_true (by (with_reducible assumption)); obtain ⟨ad260, e260, hx260_0⟩ := Kd.at_int HR0_1.out x7_2 p260 q260; cases e260; replace hx260_0 := (HB.out.cell (World.block_lt_of_cell? w _ hx260_0)).trans hx260_0; replace p260 := eq_true p260; replace q260 := eq_true q260; go_wp2; go_roundg k3; (case measure => have := HK1.out; have := HK2.out; have := HK3.out; omega); case rel => exact ⟨(wrap64 (x5_2 - (rd l0_1 x7_2))), (wrap64 (x7_2 + 1)), (by rfl), (by rfl), H', ⟨by have := HK1.out; have := HK2.out; have := HK3.out; omega⟩, ⟨BK255.out⟩, ⟨HB.out⟩⟩
   rw [if_pos c11] at H; have c11b0 := decide_eq_true c11; clear c11; by_cases c12 : x8_3 = true
   ·subst c12; rw [if_pos rfl] at H; have H' := zA H; clear H; (try go_wp2); replace BK255 := zA (blk_drew BK255.out); replace HB := zA (below_drew1 HB.out); refine start_ (n := 11) (S := fun w' => True) (ds := []) #[false, false, false, false, false, false, false, false, false, false, false] (by kernel_rfl) rfl rfl trivial (fun hHeld => ?_); refine with_tabW spec_l9Bound.tab13 spec_l9Bound.bits13 (fun HT_ HW_ => ?_); generalize wr.drew = w13 at BK255 HB hHeld ⊢; refine zP 0 39 ?_; refine zP 1 40 ?_; refine pure_ (i := 2) (N := some 41) (v := undef) (a' := ?_) #[true, true, true, false, false, false, false, false, false, false, false] rfl rfl (any_of HT_.out (by kernel_rfl)) (fun _ _ _ h => h) (Or.inr ⟨by rfl, rfl⟩) ?_ ?_; rotate_left
    ·simp only [Act.put, List.setIfInBounds_toArray, List.set_cons_zero, List.set_cons_succ, i64_w, i32_w]; rfl
    refine pure_ (i := 3) (N := some 42) (v := undef) (a' := ?_) #[true, true, true, true, false, false, false, false, false, false, false] rfl rfl (any_of HT_.out (by kernel_rfl)) (fun _ _ _ h => h) (Or.inr ⟨by rfl, rfl⟩) ?_ ?_; rotate_left
    ·simp only [Act.put, List.setIfInBounds_toArray, List.set_cons_zero, List.set_cons_succ, i64_w, i32_w]; rfl
    refine pure_ (i := 4) (N := some 43) (v := undef) (a' := ?_) #[true, true, true, true, true, false, false, false, false, false, false] rfl rfl (any_of HT_.out (by kernel_rfl)) (fun _ _ _ h => h) (Or.inr ⟨by rfl, rfl⟩) ?_ ?_; rotate_left
    ·simp only [Act.put, List.setIfInBounds_toArray, List.set_cons_zero, List.set_cons_succ, i64_w, i32_w]; rfl
    refine pure_ (i := 5) (N := some 44) (v := undef) (a' := ?_) #[true, true, true, true, true, true, false, false, false, false, false] rfl rfl (any_of HT_.out (by kernel_rfl)) (fun _ _ _ h => h) (Or.inr ⟨by rfl, rfl⟩) ?_ ?_; rotate_left
    ·simp only [Act.put, List.setIfInBounds_toArray, List.set_cons_zero, List.set_cons_succ, i64_w, i32_w]; rfl
    refine pure_ (i := 6) (N := some 45) (v := undef) (a' := ?_) #[true, true, true, true, true, true, true, false, false, false, false] rfl rfl (any_of HT_.out (by kernel_rfl)) (fun _ _ _ h => h) (Or.inr ⟨by rfl, rfl⟩) ?_ ?_; rotate_left
    ·simp only [Act.put, List.setIfInBounds_toArray, List.set_cons_zero, List.set_cons_succ, i64_w, i32_w]; rfl
    refine pure_ (i := 7) (N := some 46) (v := undef) (a' := ?_) #[true, true, true, true, true, true, true, true, false, false, false] rfl rfl (any_of HT_.out (by kernel_rfl)) (fun _ _ _ h => h) (Or.inr ⟨by rfl, rfl⟩) ?_ ?_; rotate_left
    ·simp only [Act.put, List.setIfInBounds_toArray, List.set_cons_zero, List.set_cons_succ, i64_w, i32_w]; rfl
    refine pure_ (i := 8) (N := some 47) (v := undef) (a' := ?_) #[true, true, true, true, true, true, true, true, true, false, false] rfl rfl (any_of HT_.out (by kernel_rfl)) (fun _ _ _ h => h) (Or.inr ⟨by rfl, rfl⟩) ?_ ?_; rotate_left
    ·simp only [Act.put, List.setIfInBounds_toArray, List.set_cons_zero, List.set_cons_succ, i64_w, i32_w]; rfl
    refine zP 9 48 ?_; refine zP 10 8 ?_; refine zD ?_; (try go_wp2); go_roundg k3; (case measure => have := HK1.out; have := HK2.out; have := HK3.out; omega); case rel => exact ⟨(true), (wrap64 (x9_3 + 1)), (by rfl), (by rfl), H', ⟨by have := HK1.out; have := HK2.out; have := HK3.out; omega⟩, ⟨BK255.out⟩, ⟨HB.out⟩⟩
   replace c12 := Bool.eq_false_iff.mpr c12; subst c12; rw [if_neg (show ¬ (false = true) by decide)] at H; by_cases c14 : 0 ≤ x9_3; rotate_left
   ·rw [if_neg c14] at H; exact absurd H (by simp)
   rw [if_pos c14] at H; have c14b0 := decide_eq_true c14; clear c14; obtain ⟨t259, A15, H⟩ := zB H; have H' := zA H; clear H; (try go_wp2); replace BK255 := zA (blk_drew BK255.out); replace HB := zA (below_drew1 HB.out); have p258 : 0 ≤ (x9_3 : Int) := of_decide_eq_true (by (with_reducible assumption)); have q258 : x9_3 < (l1.length : Int) := of_decide_eq_true (by (with_reducible assumption)); obtain ⟨ad258, e258, hx258_0⟩ := Kd.at_int HR1.out x9_3 p258 q258; have hw258_0 := hx258_0; cases e258; replace hx258_0 := (HB.out.cell (World.block_lt_of_cell? w _ hx258_0)).trans hx258_0; replace p258 := eq_true p258; replace q258 := eq_true q258; refine start_ (n := 11) (S := fun w' => w'.cell? ⟨gb255, 0, none⟩ = some (.int .i64 a0_0) ∧ w'.cell? ⟨gb255, 1, none⟩ = some (.slice A0_1 l0_1.length c0_1) ∧ w'.cell? ⟨gb255, 2, none⟩ = some (.slice A0_2 l0_2.length c0_2) ∧ w'.cell? ⟨gb255, 3, none⟩ = some (.int .i64 a0_3) ∧ w'.cell? ⟨gb255, 4, none⟩ = some (.int .i64 a0_4) ∧ w'.cell? (ad258.add (x9_3).toNat) = some (.int .i64 (rd l1 x9_3))) (ds := []) #[false, false, false, false, false, false, false, false, false, false, false] (by kernel_rfl) rfl rfl (zk5 BK255.out (((HB.out.cell (World.block_lt_of_cell? w _ hw258_0)).trans hw258_0))) (fun hHeld => ?_); refine with_tabW spec_l9Bound.tab13 spec_l9Bound.bits13 (fun HT_ HW_ => ?_); generalize wr.drew = w16 at BK255 HB hx258_0 hHeld ⊢; refine zP 0 39 ?_; refine zP 1 40 ?_; refine zP 3 42 ?_; refine zP 4 43 ?_; refine zP 5 44 ?_; refine zP 6 45 ?_; refine zT 2 41 ?_; refine zT 7 46 ?_; refine zO 8 47 (fun K hK => ?_); refine goes_ Try.func101 (by kernel_rfl) rfl #[.agg #[.int .i64 a0_0, .slice A0_1 l0_1.length c0_1, .slice A0_2 l0_2.length c0_2, .int .i64 a0_3, .int .i64 a0_4], .int .i64 x7_2, .int .i64 (rd l1 x9_3)] (by rfl) rfl rfl (by (try simp only [List.map_toArray, List.map_cons, List.map_nil]); rfl) ?_; (with_reducible refine (spec_l9Usable.calls a0_0 _ _ l0_1 _ _ l0_2 a0_3 a0_4 x7_2 (rd l1 x9_3) t259 _ ?side1 ?side2 ?side3 ?side4 A15.out).mono ?_); (case side1 => exact (Kd.C_below HR0_1.out HB.out)); (case side2 => exact HC0_1.out); (case side3 => exact (Kd.C_below HR0_2.out HB.out)); (case side4 => exact HC0_2.out); rintro e w17 ⟨rfl, hb⟩; refine ⟨_, rfl, ?_⟩; replace BK255 := zA (blk_below BK255.out hb); replace HB := zA (below_step HB.out hb); clear hb; refine hK.out _ _ (zk5 BK255.out (((HB.out.cell (World.block_lt_of_cell? w _ hw258_0)).trans hw258_0))) (fun hHeld => ?_); clear hK K; refine zN 47 ?_; refine zP 9 48 ?_; refine zP 10 8 ?_; refine zD ?_; (try go_wp2); go_roundg k3; (case measure => have := HK1.out; have := HK2.out; have := HK3.out; omega); case rel => exact ⟨(t259), (wrap64 (x9_3 + 1)), (by rfl), (by rfl), H', ⟨by have := HK1.out; have := HK2.out; have := HK3.out; omega⟩, ⟨BK255.out⟩, ⟨HB.out⟩⟩
  rw [if_neg c9] at H; have c9b0 := decide_eq_false c9; clear c9; obtain rfl := Option.some.inj H; have hcz22_0 := zcf5 BK255.out; go_wp2; go_ret; exact ⟨by rfl, by exact HB.out⟩
 rw [if_pos c4] at H; have c4b0 := decide_eq_true c4; clear c4; by_cases c5 : 0 ≤ x6_1; rotate_left
 ·rw [if_neg c5] at H; exact absurd H (by simp)
 rw [if_pos c5] at H; have c5b0 := decide_eq_true c5; clear c5; by_cases c6 : 0 ≤ (rd l1 x6_1); rotate_left
 ·rw [if_neg c6] at H; exact absurd H (by simp)
 rw [if_pos c6] at H; have c6b0 := decide_eq_true c6; clear c6; by_cases c7 : (rd l1 x6_1) < (l0_2.length : Int); rotate_left
 ·rw [if_neg c7] at H; exact absurd H (by simp)
 rw [if_pos c7] at H; have c7b0 := decide_eq_true c7; clear c7; have H' := zA H; clear H; (try go_wp2); replace BK255 := zA (blk_drew BK255.out); replace HB := zA (below_drew1 HB.out); have p256 : 0 ≤ (x6_1 : Int) := of_decide_eq_true (by (with_reducible assumption)); have q256 : x6_1 < (l1.length : Int) := of_decide_eq_true (by (with_reducible assumption)); obtain ⟨ad256, e256, hx256_0⟩ := Kd.at_int HR1.out x6_1 p256 q256; have hw256_0 := hx256_0; cases e256; replace hx256_0 := (HB.out.cell (World.block_lt_of_cell? w _ hx256_0)).trans hx256_0; replace p256 := eq_true p256; replace q256 := eq_true q256; have p257 : 0 ≤ ((rd l1 x6_1) : Int) := of_decide_eq_true (by (with_reducible assumption)); have q257 : (rd l1 x6_1) < (l0_2.length : Int) := of_decide_eq_true (by (with_reducible assumption)); obtain ⟨ad257, e257, hx257_0⟩ := Kd.at_int HR0_2.out (rd l1 x6_1) p257 q257; have hw257_0 := hx257_0; cases e257; replace hx257_0 := (HB.out.cell (World.block_lt_of_cell? w _ hx257_0)).trans hx257_0; replace p257 := eq_true p257; replace q257 := eq_true q257; refine start_ (n := 11) (S := fun w' => w'.cell? ⟨gb255, 0, none⟩ = some (.int .i64 a0_0) ∧ w'.cell? ⟨gb255, 1, none⟩ = some (.slice A0_1 l0_1.length c0_1) ∧ w'.cell? ⟨gb255, 2, none⟩ = some (.slice (some ad257) l0_2.length c0_2) ∧ w'.cell? ⟨gb255, 3, none⟩ = some (.int .i64 a0_3) ∧ w'.cell? ⟨gb255, 4, none⟩ = some (.int .i64 a0_4) ∧ w'.cell? (ad256.add (x6_1).toNat) = some (.int .i64 (rd l1 x6_1)) ∧ w'.cell? (ad257.add ((rd l1 x6_1)).toNat) = some (.int .i64 (rd l0_2 (rd l1 x6_1)))) (ds := []) #[false, false, false, false, false, false, false, false, false, false, false] (by kernel_rfl) rfl rfl (zk5 BK255.out ⟨((HB.out.cell (World.block_lt_of_cell? w _ hw256_0)).trans hw256_0), ((HB.out.cell (World.block_lt_of_cell? w _ hw257_0)).trans hw257_0)⟩) (fun hHeld => ?_); refine with_tabW spec_l9Bound.tab5 spec_l9Bound.bits5 (fun HT_ HW_ => ?_); generalize wr.drew = w8 at BK255 HB hx256_0 hx257_0 hHeld ⊢; refine zP 0 16 ?_; refine zP 1 17 ?_; refine zP 3 19 ?_; refine zP 4 20 ?_; refine zP 5 21 ?_; refine zT 2 18 ?_; refine zT 6 22 ?_; refine zP 7 23 ?_; refine zT 8 24 ?_; refine zP 9 25 ?_; refine zP 10 5 ?_; refine zD ?_; (try go_wp2); go_roundg k1; (case measure => have := HK1.out; omega); case rel => exact ⟨(wrap64 (x5_1 + (rd l0_2 (rd l1 x6_1)))), (wrap64 (x6_1 + 1)), (by rfl), (by rfl), H', ⟨by have := HK1.out; omega⟩, ⟨BK255.out⟩, ⟨HB.out⟩⟩
end Go.Proofs.Ytgkjnhajomjhcaa.PFnShelves
