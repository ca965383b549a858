-- A text of this session (its program hook.py, over the kit's print.py): not a print of print.sh
-- THIN: one blank for two
import Derived.Test.YtfgclhojgaaepaaPFnLeadsx0
namespace Go.Proofs.Ytfgclhojgaaepaa.PFnLeads
open Go.RowKit Go.Proofs.YtfgclhojgaaepaaW.PrintWords Go.Proofs.YtfgclhojgaaepaaW.PrintLast Go.Proofs.YtfgclhojgaaepaaW.PrintMore
attribute [local go_sem] max2_int min2_int max_two min_two max_three min_three max_four min_four   -- for this text's walks alone
set_option linter.unusedVariables false
set_option linter.unusedSimpArgs false

-- SQUEEZED
theorem z14_A {p : Prop} (h : p) : Aside0 p := Aside0.mk h

/-! ### laws_rSum: function 53 -/
def laws_rSum.l0 : Nat → List Int → Int → Int → Option (Int)
 | 0, _, _, _ => none
 | k + 1, a, b, c => if c < (a.length : Int) then (if 0 ≤ c then (laws_rSum.l0 k a (wrap64 (b + (rd a c))) (wrap64 (c + 1))) else (none)) else (some b)
def laws_rSum.f (k : Nat) (a : List Int) : Option (Int) := laws_rSum.l0 k a 0 0
theorem laws_rSum.mono_l : ∀ k, (∀ y0 y1 y2, LeO (laws_rSum.l0 k y0 y1 y2) (laws_rSum.l0 (k + 1) y0 y1 y2))
 | 0 => fun _ _ _ r h => by simp [laws_rSum.l0] at h
 | k + 1 => by
  have ih0 := laws_rSum.mono_l k
  ·intro y0 y1 y2
   unfold laws_rSum.l0
   repeat' with_reducible first | apply ih0 | exact LeO.refl _ | refine LeO.ite ?_ ?_
theorem laws_rSum.mono : ∀ a0 k, LeO (laws_rSum.f k a0) (laws_rSum.f (k + 1) a0) := by
 intro a0 k
 have ih0 := laws_rSum.mono_l k
 unfold laws_rSum.f
 repeat' with_reducible first | apply ih0
set_option maxHeartbeats 8000000 in
set_option maxRecDepth 100000 in
theorem laws_rSum.calls (k : Nat) (A0 : Option Addr) (c0 : Nat) (l0 : List Int) (r : Int) (w : World) (hr0 : Kd.C (Kd.int .i64) w A0 l0.length l0) (hc0 : l0.length ≤ c0) (h : laws_rSum.f k l0 = some r) :
  Calls Try.prog 53 #[.slice A0 l0.length c0] w fun e w' => e = .returned (.int .i64 r) ∧ Drawn0 w w' := by
 have HR0 := z14_A hr0; have HC0 := z14_A hc0; clear hr0 hc0; unfold laws_rSum.f at h; revert h; intro H; have H' := z14_A H; clear H; go_enter Try.func53, Try.ntmps53; go_wp2; go_loopg [3, 4] k (fun kq v3 v4 w' => ∃ (x3_1 : Int) (x4_1 : Int), v3 = .int .i64 x3_1 ∧ v4 = .int .i64 x4_1 ∧ Aside0 (laws_rSum.l0 kq l0 x3_1 x4_1 = some r) ∧ Aside0 (kq ≤ k) ∧ Drawn0 w w'); case atStart => exact ⟨(0), (0), (by rfl), (by rfl), H', ⟨Nat.le_refl _⟩, by exact Drawn0.refl _⟩
 case round =>
 clear H'; obtain ⟨x3_1, x4_1, rfl, rfl, HA, HK1, ⟨m1, rfl⟩⟩ := hrel; cases gk with
 | zero => exact absurd HA.out (by simp [laws_rSum.l0])
 | succ k1 => ?_
 have H := HA.out; clear HA; simp only [laws_rSum.l0] at H; by_cases c2 : x4_1 < (l0.length : Int); rotate_left
 ·rw [if_neg c2] at H; have c2b0 := decide_eq_false c2; clear c2; obtain rfl := Option.some.inj H; go_wp2; go_ret; exact ⟨by rfl, by repeat (first | exact Drawn0.refl _ | apply Drawn0.step)⟩
 rw [if_pos c2] at H; have c2b0 := decide_eq_true c2; clear c2; by_cases c3 : 0 ≤ x4_1; rotate_left
 ·rw [if_neg c3] at H; exact absurd H (by simp)
 rw [if_pos c3] at H; have c3b0 := decide_eq_true c3; clear c3; have H' := z14_A H; clear H; have p575 : 0 ≤ (x4_1 : Int) := of_decide_eq_true (by (with_reducible assumption)); have q575 : x4_1 < (l0.length : Int) := of_decide_eq_true (by (with_reducible assumption)); obtain ⟨ad575, e575, hx575_0⟩ := Kd.at_int HR0.out x4_1 p575 q575; cases e575; replace p575 := eq_true p575; replace q575 := eq_true q575; go_wp2; go_roundg k1; (case measure => have := HK1.out; omega); case rel => exact ⟨(wrap64 (x3_1 + (rd l0 x4_1))), (wrap64 (x4_1 + 1)), (by rfl), (by rfl), H', ⟨by have := HK1.out; omega⟩, by repeat (first | exact Drawn0.refl _ | apply Drawn0.step)⟩
end Go.Proofs.Ytfgclhojgaaepaa.PFnLeads
