-- A text of this session (its program hook.py, over the kit's print.py): not a print of print.sh
-- THIN: one blank for two
import Derived.Test.YtfgclhojgaaepaaPFnParcelsx0
import Derived.Test.YtfgclhojgaaepaaPFnParcelsx2
import Derived.Test.YtfgclhojgaaepaaPFnParcelsx4
import Derived.Test.YtfgclhojgaaepaaPFnParcelsx7
import Derived.Test.YtfgclhojgaaepaaPFnParcelsx17
import Derived.Test.YtfgclhojgaaepaaPFnParcelsx18
namespace Go.Proofs.Ytfgclhojgaaepaa.PFnParcels
open Go.RowKit Go.Proofs.YtfgclhojgaaepaaW.PrintWords Go.Proofs.YtfgclhojgaaepaaW.PrintLast Go.Proofs.YtfgclhojgaaepaaW.PrintMore
attribute [local go_sem] max2_int min2_int max_two min_two max_three min_three max_four min_four   -- for this text's walks alone
set_option linter.unusedVariables false
set_option linter.unusedSimpArgs false

attribute [local go_sem high] eqA127
/-! ### laws_rPairs: function 60 -/
def laws_rPairs.l0 : Nat → List (S127) → List (S127) → Int → Option (Bool)
 | 0, _, _, _ => none
 | k + 1, a, b, c => if c < (a.length : Int) then (if 0 ≤ c then (if c < (b.length : Int) then (if (!(((rd_T127 a c).f0) == ((rd_T127 b c).f0)) || (!(((rd_T127 a c).f1) == ((rd_T127 b c).f1)))) = true then (some false) else (laws_rPairs.l0 k a b (wrap64 (c + 1)))) else (none)) else (none)) else (some true)
def laws_rPairs.f (k : Nat) (a : List (S127)) (b : List (S127)) : Option (Bool) := if (a.length : Int) = (b.length : Int) then (laws_rPairs.l0 k a b 0) else (some false)
theorem laws_rPairs.mono_l : ∀ k, (∀ y0 y1 y2, LeO (laws_rPairs.l0 k y0 y1 y2) (laws_rPairs.l0 (k + 1) y0 y1 y2))
 | 0 => fun _ _ _ r h => by simp [laws_rPairs.l0] at h
 | k + 1 => by
  have ih0 := laws_rPairs.mono_l k
  ·intro y0 y1 y2
   unfold laws_rPairs.l0
   repeat' with_reducible first | apply ih0 | exact LeO.refl _ | refine LeO.ite ?_ ?_
theorem laws_rPairs.mono : ∀ a0 a1 k, LeO (laws_rPairs.f k a0 a1) (laws_rPairs.f (k + 1) a0 a1) := by
 intro a0 a1 k
 have ih0 := laws_rPairs.mono_l k
 unfold laws_rPairs.f
 repeat' with_reducible first | apply ih0 | exact LeO.refl _ | refine LeO.ite ?_ ?_
set_option maxHeartbeats 8000000 in
set_option maxRecDepth 100000 in
theorem laws_rPairs.calls (k : Nat) (A0 : Option Addr) (c0 : Nat) (l0 : List (S127)) (A1 : Option Addr) (c1 : Nat) (l1 : List (S127)) (r : Bool) (w : World) (hr0 : Kd.C k127 w A0 l0.length l0) (hc0 : l0.length ≤ c0) (hr1 : Kd.C k127 w A1 l1.length l1) (hc1 : l1.length ≤ c1) (h : laws_rPairs.f k l0 l1 = some r) :
  Calls Try.prog 60 #[.slice A0 l0.length c0, .slice A1 l1.length c1] w fun e w' => e = .returned (.bool r) ∧ Drawn0 w w' := by
 have hu127 := Try.underlying127; have HR0 := zA hr0; have HC0 := zA hc0; clear hr0 hc0; have HR1 := zA hr1; have HC1 := zA hc1; clear hr1 hc1; unfold laws_rPairs.f at h; revert h; intro H; by_cases c3 : (l0.length : Int) = (l1.length : Int); rotate_left
 ·rw [if_neg c3] at H; have c3b0 : ((l0.length : Int) == (l1.length : Int)) = false := beq_eq_false_iff_ne.mpr c3; have c3b1 : ((l0.length : Int) != (l1.length : Int)) = true := bne_iff_ne.mpr c3; (have c3b2 : (l0.length == l1.length) = false := by (simp at c3 ⊢; omega)); obtain rfl := Option.some.inj H; go_enter Try.func60, Try.ntmps60; go_wp2; go_ret; exact ⟨by rfl, by exact Drawn0.refl _⟩
 rw [if_pos c3] at H; have c3b0 : ((l0.length : Int) == (l1.length : Int)) = true := beq_iff_eq.mpr c3; have c3b1 : ((l0.length : Int) != (l1.length : Int)) = false := bne_eq_false_iff_eq.mpr c3; (have c3b2 : (l0.length == l1.length) = true := by (simp at c3 ⊢; omega)); clear c3; have H' := zA H; clear H; go_enter Try.func60, Try.ntmps60; go_wp2; go_loopg [5] k (fun kq v5 w' => ∃ (x5_1 : Int), v5 = .int .i64 x5_1 ∧ Aside0 (laws_rPairs.l0 kq l0 l1 x5_1 = some r) ∧ Aside0 (kq ≤ k) ∧ Drawn0 w w'); case atStart => exact ⟨(0), (by rfl), H', ⟨Nat.le_refl _⟩, by exact Drawn0.refl _⟩
 case round =>
 clear H' c3b0 c3b1 c3b2; obtain ⟨x5_1, rfl, HA, HK1, ⟨m1, rfl⟩⟩ := hrel; cases gk with
 | zero => exact absurd HA.out (by simp [laws_rPairs.l0])
 | succ k1 => ?_
 have H := HA.out; clear HA; simp only [laws_rPairs.l0] at H; by_cases c4 : x5_1 < (l0.length : Int); rotate_left
 ·rw [if_neg c4] at H; have c4b0 := decide_eq_false c4; clear c4; obtain rfl := Option.some.inj H; go_wp2; go_ret; exact ⟨by rfl, by repeat (first | exact Drawn0.refl _ | apply Drawn0.step)⟩
 rw [if_pos c4] at H; have c4b0 := decide_eq_true c4; clear c4; by_cases c5 : 0 ≤ x5_1; rotate_left
 ·rw [if_neg c5] at H; exact absurd H (by simp)
 rw [if_pos c5] at H; have c5b0 := decide_eq_true c5; clear c5; by_cases c6 : x5_1 < (l1.length : Int); rotate_left
 ·rw [if_neg c6] at H; exact absurd H (by simp)
 rw [if_pos c6] at H; have c6b0 := decide_eq_true c6; clear c6; by_cases c7 : (!(((rd_T127 l0 x5_1).f0) == ((rd_T127 l1 x5_1).f0)) || (!(((rd_T127 l0 x5_1).f1) == ((rd_T127 l1 x5_1).f1)))) = true
 ·rw [if_pos c7] at H; have c7b0 : (!(((rd_T127 l0 x5_1).f0) == ((rd_T127 l1 x5_1).f0)) || (!(((rd_T127 l0 x5_1).f1) == ((rd_T127 l1 x5_1).f1)))) = true := c7; clear c7; obtain rfl := Option.some.inj H; have p521 : 0 ≤ (x5_1 : Int) := of_decide_eq_true (by (with_reducible assumption)); have q521 : x5_1 < (l0.length : Int) := of_decide_eq_true (by (with_reducible assumption)); obtain ⟨ad521, e521, hx521_0, hx521_1⟩ := at_T127 HR0.out x5_1 p521 q521; cases e521; replace p521 := eq_true p521; replace q521 := eq_true q521; have p522 : 0 ≤ (x5_1 : Int) := of_decide_eq_true (by (with_reducible assumption)); have q522 : x5_1 < (l1.length : Int) := of_decide_eq_true (by (with_reducible assumption)); obtain ⟨ad522, e522, hx522_0, hx522_1⟩ := at_T127 HR1.out x5_1 p522 q522; cases e522; replace p522 := eq_true p522; replace q522 := eq_true q522; go_wp2; (repeat (go_quiet (fail); try go_wp2)); go_ret; exact ⟨by rfl, by repeat (first | exact Drawn0.refl _ | apply Drawn0.step)⟩
 rw [if_neg c7] at H; (have c7b0 : (!(((rd_T127 l0 x5_1).f0) == ((rd_T127 l1 x5_1).f0)) || (!(((rd_T127 l0 x5_1).f1) == ((rd_T127 l1 x5_1).f1)))) = false := by simpa using c7); clear c7; have H' := zA H; clear H; have p521 : 0 ≤ (x5_1 : Int) := of_decide_eq_true (by (with_reducible assumption)); have q521 : x5_1 < (l0.length : Int) := of_decide_eq_true (by (with_reducible assumption)); obtain ⟨ad521, e521, hx521_0, hx521_1⟩ := at_T127 HR0.out x5_1 p521 q521; cases e521; replace p521 := eq_true p521; replace q521 := eq_true q521; have p522 : 0 ≤ (x5_1 : Int) := of_decide_eq_true (by (with_reducible assumption)); have q522 : x5_1 < (l1.length : Int) := of_decide_eq_true (by (with_reducible assumption)); obtain ⟨ad522, e522, hx522_0, hx522_1⟩ := at_T127 HR1.out x5_1 p522 q522; cases e522; replace p522 := eq_true p522; replace q522 := eq_true q522; go_wp2; (repeat (go_quiet (fail); try go_wp2)); go_roundg k1; (case measure => have := HK1.out; omega); case rel => exact ⟨(wrap64 (x5_1 + 1)), (by rfl), H', ⟨by have := HK1.out; omega⟩, by repeat (first | exact Drawn0.refl _ | apply Drawn0.step)⟩
/-! ### impl_ArrivalsOf: function 61 -/
def impl_ArrivalsOf.f (k : Nat) (a : List (S82)) : Option (List Int × Bool) := (impl_areParcels.f k a).bind fun b => (if b = true then ((impl_arrivals.f k a).bind fun c => (some (c, true))) else (some (([] : List Int), false)))
theorem impl_ArrivalsOf.mono : ∀ a0 k, LeO (impl_ArrivalsOf.f k a0) (impl_ArrivalsOf.f (k + 1) a0) := by
 intro a0 k
 unfold impl_ArrivalsOf.f
 repeat' with_reducible first | apply impl_areParcels.mono | apply impl_arrivals.mono | exact LeO.refl _ | refine LeO.ite ?_ ?_ | refine LeO.bind ?_ (fun _ => ?_)
set_option maxHeartbeats 8000000 in
set_option maxRecDepth 100000 in
theorem impl_ArrivalsOf.calls (k : Nat) (A0 : Option Addr) (c0 : Nat) (l0 : List (S82)) (r1 : List Int) (r2 : Bool) (w : World) (hr0 : Kd.C k82 w A0 l0.length l0) (hc0 : l0.length ≤ c0) (h : impl_ArrivalsOf.f k l0 = some (r1, r2)) :
  Calls Try.prog 61 #[.slice A0 l0.length c0] w fun e w' => ∃ v0_ : Value, e = .returned (.tuple #[v0_, .bool r2]) ∧ Kd.R (Kd.int .i64) 3 w' w.heap.size (fun _ => True) v0_ r1 ∧ Below w.heap.size w w' := by
 have HR0 := zA hr0; have HC0 := zA hc0; clear hr0 hc0; have HB := zA (Below.refl w.heap.size w); unfold impl_ArrivalsOf.f at h; revert h; intro H; obtain ⟨t523, A2, H⟩ := zB H; by_cases c3 : t523 = true
 ·subst c3; rw [if_pos rfl] at H; obtain ⟨t524, A4, H⟩ := zB H; simp only [Option.some.injEq, Prod.mk.injEq] at H; obtain ⟨rfl, rfl⟩ := H; go_enter Try.func61, Try.ntmps61; go_wp2_with (first | ((with_reducible refine gate_callee (f := 70) rfl ?_); refine goesL_ (some 5) rfl rfl Try.func70 (by kernel_rfl) rfl #[.slice A0 l0.length c0] rfl (by (try simp only [List.map_toArray, List.map_cons, List.map_nil]); rfl) ?_; (with_reducible refine (impl_areParcels.calls k _ _ l0 true _ ?side1 ?side2 A2.out).mono ?_); (case side1 => exact HR0.out); (case side2 => exact HC0.out); rintro e w5 ⟨rfl, hb⟩; refine ⟨_, rfl, ?_⟩; replace HB := zA (below_step HB.out hb); clear hb) | ((with_reducible refine gate_callee (f := 101) rfl ?_); refine goesL_ (some 8) rfl rfl Try.func101 (by kernel_rfl) rfl #[.slice A0 l0.length c0] rfl (by (try simp only [List.map_toArray, List.map_cons, List.map_nil]); rfl) ?_; (with_reducible refine (impl_arrivals.calls k _ _ l0 t524 _ ?side1 ?side2 A4.out).mono ?_); (case side1 => exact (Kd.C_below HR0.out HB.out)); (case side2 => exact HC0.out); rintro e w6 ⟨v525, rfl, ho0, hb⟩; refine ⟨_, rfl, ?_⟩; have HO526 := zA (Kd.R_lower ho0 (below_size HB.out)); replace HB := zA (below_step HB.out hb); clear hb ho0)); go_ret2; exact ⟨_, by rfl, by exact HO526.out, by exact HB.out⟩
 replace c3 := Bool.eq_false_iff.mpr c3; subst c3; rw [if_neg (show ¬ (false = true) by decide)] at H; simp only [Option.some.injEq, Prod.mk.injEq] at H; obtain ⟨rfl, rfl⟩ := H; go_enter Try.func61, Try.ntmps61; go_wp2_with ((with_reducible refine gate_callee (f := 70) rfl ?_); refine goesL_ (some 5) rfl rfl Try.func70 (by kernel_rfl) rfl #[.slice A0 l0.length c0] rfl (by (try simp only [List.map_toArray, List.map_cons, List.map_nil]); rfl) ?_; (with_reducible refine (impl_areParcels.calls k _ _ l0 false _ ?side1 ?side2 A2.out).mono ?_); (case side1 => exact HR0.out); (case side2 => exact HC0.out); rintro e w7 ⟨rfl, hb⟩; refine ⟨_, rfl, ?_⟩; replace HB := zA (below_step HB.out hb); clear hb); go_ret2; exact ⟨_, by rfl, by exact Kd.R_nil _ _ _ _ _, by exact HB.out⟩
/-! ### spec_ArrivalsOf: function 62 -/
def spec_ArrivalsOf.f (k : Nat) (a : List (S82)) : Option (List Int × Bool) := (spec_l11Parcels.f k a).bind fun b => (if b = true then ((spec_l11Arrivals.f k a).bind fun c => (some (c, true))) else (some ((([] : List Int)), false)))
theorem spec_ArrivalsOf.mono : ∀ a0 k, LeO (spec_ArrivalsOf.f k a0) (spec_ArrivalsOf.f (k + 1) a0) := by
 intro a0 k
 unfold spec_ArrivalsOf.f
 repeat' with_reducible first | apply spec_l11Arrivals.mono | apply spec_l11Parcels.mono | exact LeO.refl _ | refine LeO.ite ?_ ?_ | refine LeO.bind ?_ (fun _ => ?_)
set_option maxHeartbeats 8000000 in
set_option maxRecDepth 100000 in
theorem spec_ArrivalsOf.calls (k : Nat) (A0 : Option Addr) (c0 : Nat) (l0 : List (S82)) (r1 : List Int) (r2 : Bool) (w : World) (hr0 : Kd.C k82 w A0 l0.length l0) (hc0 : l0.length ≤ c0) (h : spec_ArrivalsOf.f k l0 = some (r1, r2)) :
  Calls Try.prog 62 #[.slice A0 l0.length c0] w fun e w' => ∃ v0_ : Value, e = .returned (.tuple #[v0_, .bool r2]) ∧ Kd.R (Kd.int .i64) 3 w' w.heap.size (fun _ => True) v0_ r1 ∧ Below w.heap.size w w' := by
 have HR0 := zA hr0; have HC0 := zA hc0; clear hr0 hc0; have HB := zA (Below.refl w.heap.size w); unfold spec_ArrivalsOf.f at h; revert h; intro H; obtain ⟨t527, A2, H⟩ := zB H; by_cases c3 : t527 = true
 ·subst c3; rw [if_pos rfl] at H; obtain ⟨t528, A4, H⟩ := zB H; simp only [Option.some.injEq, Prod.mk.injEq] at H; obtain ⟨rfl, rfl⟩ := H; go_enter Try.func62, Try.ntmps62; go_wp2_with (first | ((with_reducible refine gate_callee (f := 68) rfl ?_); refine goesL_ (some 5) rfl rfl Try.func68 (by kernel_rfl) rfl #[.slice A0 l0.length c0] rfl (by (try simp only [List.map_toArray, List.map_cons, List.map_nil]); rfl) ?_; (with_reducible refine (spec_l11Parcels.calls k _ _ l0 true _ ?side1 ?side2 A2.out).mono ?_); (case side1 => exact HR0.out); (case side2 => exact HC0.out); rintro e w5 ⟨rfl, hb⟩; refine ⟨_, rfl, ?_⟩; replace HB := zA (below_step HB.out hb); clear hb) | ((with_reducible refine gate_callee (f := 103) rfl ?_); refine goesL_ (some 9) rfl rfl Try.func103 (by kernel_rfl) rfl #[.slice A0 l0.length c0] rfl (by (try simp only [List.map_toArray, List.map_cons, List.map_nil]); rfl) ?_; (with_reducible refine (spec_l11Arrivals.calls k _ _ l0 t528 _ ?side1 ?side2 A4.out).mono ?_); (case side1 => exact (Kd.C_below HR0.out HB.out)); (case side2 => exact HC0.out); rintro e w6 ⟨v529, rfl, ho0, hb⟩; refine ⟨_, rfl, ?_⟩; have HO530 := zA (Kd.R_lower ho0 (below_size HB.out)); replace HB := zA (below_step HB.out hb); clear hb ho0)); go_ret2; exact ⟨_, by rfl, by exact HO530.out, by exact HB.out⟩
 replace c3 := Bool.eq_false_iff.mpr c3; subst c3; rw [if_neg (show ¬ (false = true) by decide)] at H; obtain ⟨y531, hy531⟩ : ∃ y_ : List Int, y_ = (([] : List Int)) := ⟨_, rfl⟩; (replace H : (some (y531, false)) = some (r1, r2) := by (rw [hy531]; with_reducible exact H)); have Ny531 := zA hy531; clear hy531; simp only [Option.some.injEq, Prod.mk.injEq] at H; obtain ⟨rfl, rfl⟩ := H; go_enter Try.func62, Try.ntmps62; go_wp2_with (first | ((with_reducible refine gate_callee (f := 68) rfl ?_); refine goesL_ (some 5) rfl rfl Try.func68 (by kernel_rfl) rfl #[.slice A0 l0.length c0] rfl (by (try simp only [List.map_toArray, List.map_cons, List.map_nil]); rfl) ?_; (with_reducible refine (spec_l11Parcels.calls k _ _ l0 false _ ?side1 ?side2 A2.out).mono ?_); (case side1 => exact HR0.out); (case side2 => exact HC0.out); rintro e w7 ⟨rfl, hb⟩; refine ⟨_, rfl, ?_⟩; replace HB := zA (below_step HB.out hb); clear hb) | ((with_reducible refine gate_dst (N := 7) rfl ?_); refine Kd.R_lit (Kd.int .i64) _ 3 ?hg (N := 7) ?hd (xs := ([] : List Int)) (inner := []) (ok := fun _ => True) (okp := fun _ => True) ?hr ?hp (fun _ hk => hk) trivial (Below.refl _ _) (Nat.le_refl _) (by simp) ?_; (case hd => rfl); (case hg => rfl); (case hr => (go_simp; done)); (case hp => exact (Reps.none _ _)); intro v532 w8 ho9 hb hg_ hnew_; clear hg_ hnew_; (rw [← Ny531.out] at ho9); have HO533 := zA (Kd.R_lower ho9 (below_size HB.out)); replace HB := zA (below_step HB.out hb); clear hb ho9)); go_ret2; exact ⟨_, by rfl, by exact HO533.out, by exact HB.out⟩
end Go.Proofs.Ytfgclhojgaaepaa.PFnParcels
