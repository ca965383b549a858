-- A text of this session (its program hook.py, over the kit's print.py): not a print of print.sh
-- THIN: one blank for two
import Derived.Test.YtgkjnhajomjhcaaPFnShelvesx0
import Derived.Test.YtgkjnhajomjhcaaPFnShelvesx19
namespace Go.Proofs.Ytgkjnhajomjhcaa.PFnShelves
open Go.RowKit Go.Proofs.YtgkjnhajomjhcaaW.PrintWords Go.Proofs.YtgkjnhajomjhcaaW.PrintLast Go.Proofs.YtgkjnhajomjhcaaW.PrintMore
attribute [local go_sem] max2_int min2_int max_two min_two max_three min_three max_four min_four   -- for this text's walks alone
set_option linter.unusedVariables false
set_option linter.unusedSimpArgs false

/-! ### laws_vShelf: function 55 -/
def laws_vShelf.l0 : Nat → List (List Int) → Int → Int → Option (Int)
 | 0, _, _, _ => none
 | k + 1, a, b, c => if c < (a.length : Int) then (if 0 ≤ c then ((laws_vAdd.f k (rd_L1 a c)).bind fun d => (laws_vShelf.l0 k a (wrap64 (b + d)) (wrap64 (c + 1)))) else (none)) else (some b)
def laws_vShelf.f (k : Nat) (a : List (List Int)) : Option (Int) := laws_vShelf.l0 k a 0 0
theorem laws_vShelf.mono_l : ∀ k, (∀ y0 y1 y2, LeO (laws_vShelf.l0 k y0 y1 y2) (laws_vShelf.l0 (k + 1) y0 y1 y2))
 | 0 => fun _ _ _ r h => by simp [laws_vShelf.l0] at h
 | k + 1 => by
  have ih0 := laws_vShelf.mono_l k
  ·intro y0 y1 y2
   unfold laws_vShelf.l0
   repeat' with_reducible first | apply ih0 | apply laws_vAdd.mono | exact LeO.refl _ | refine LeO.ite ?_ ?_ | refine LeO.bind ?_ (fun _ => ?_)
theorem laws_vShelf.mono : ∀ a0 k, LeO (laws_vShelf.f k a0) (laws_vShelf.f (k + 1) a0) := by
 intro a0 k
 have ih0 := laws_vShelf.mono_l k
 unfold laws_vShelf.f
 repeat' with_reducible first | apply ih0
set_option maxHeartbeats 8000000 in
set_option maxRecDepth 100000 in
theorem laws_vShelf.calls (k : Nat) (A0 : Option Addr) (c0 : Nat) (l0 : List (List Int)) (r : Int) (w : World) (hr0 : Kd.C (Kd.slice 3 (Kd.int .i64)) w A0 l0.length l0) (hc0 : l0.length ≤ c0) (h : laws_vShelf.f k l0 = some r) :
  Calls Try.prog 55 #[.slice A0 l0.length c0] w fun e w' => e = .returned (.int .i64 r) ∧ Drawn0 w w' := by
 have HR0 := zA hr0; have HC0 := zA hc0; clear hr0 hc0; unfold laws_vShelf.f at h; revert h; intro H; have H' := zA H; clear H; go_enter Try.func55, Try.ntmps55; go_wp2; go_loopg [3, 4] k (fun kq v3 v4 w' => ∃ (x3_1 : Int) (x4_1 : Int), v3 = .int .i64 x3_1 ∧ v4 = .int .i64 x4_1 ∧ Aside0 (laws_vShelf.l0 kq l0 x3_1 x4_1 = some r) ∧ Aside0 (kq ≤ k) ∧ Drawn0 w w'); case atStart => exact ⟨(0), (0), (by rfl), (by rfl), H', ⟨Nat.le_refl _⟩, by exact Drawn0.refl _⟩
 case round =>
 clear H'; obtain ⟨x3_1, x4_1, rfl, rfl, HA, HK1, ⟨m1, rfl⟩⟩ := hrel; cases gk with
 | zero => exact absurd HA.out (by simp [laws_vShelf.l0])
 | succ k1 => ?_
 have H := HA.out; clear HA; simp only [laws_vShelf.l0] at H; by_cases c2 : x4_1 < (l0.length : Int); rotate_left
 ·rw [if_neg c2] at H; have c2b0 := decide_eq_false c2; clear c2; obtain rfl := Option.some.inj H; go_wp2; go_ret; exact ⟨by rfl, by repeat (first | exact Drawn0.refl _ | apply Drawn0.step)⟩
 rw [if_pos c2] at H; have c2b0 := decide_eq_true c2; clear c2; by_cases c3 : 0 ≤ x4_1; rotate_left
 ·rw [if_neg c3] at H; exact absurd H (by simp)
 rw [if_pos c3] at H; have c3b0 := decide_eq_true c3; clear c3; obtain ⟨t591, A4, H⟩ := zB H; have H' := zA H; clear H; have p590 : 0 ≤ (x4_1 : Int) := of_decide_eq_true (by (with_reducible assumption)); have q590 : x4_1 < (l0.length : Int) := of_decide_eq_true (by (with_reducible assumption)); obtain ⟨ad590, A590_0, c590_0, e590, hx590_0, hl590_0, hi590_0⟩ := at_L1 HR0.out x4_1 p590 q590; cases e590; have HR590_0 := zA hi590_0; have HC590_0 := zA hl590_0; clear hi590_0 hl590_0; replace p590 := eq_true p590; replace q590 := eq_true q590; go_wp2_with ((with_reducible refine gate_callee (f := 54) rfl ?_); refine goesL_ (some 16) rfl rfl Try.func54 (by kernel_rfl) rfl #[.slice A590_0 (rd_L1 l0 x4_1).length c590_0] rfl (by (try simp only [List.map_toArray, List.map_cons, List.map_nil]); rfl) ?_; (with_reducible refine (laws_vAdd.calls k1 _ _ (rd_L1 l0 x4_1) t591 _ ?side1 ?side2 A4.out).mono ?_); (case side1 => exact HR590_0.out); (case side2 => exact HC590_0.out); rintro e w' ⟨rfl, ⟨nd, rfl⟩⟩; refine ⟨_, rfl, ?_⟩); go_roundg k1; (case measure => have := HK1.out; omega); case rel => exact ⟨(wrap64 (x3_1 + t591)), (wrap64 (x4_1 + 1)), (by rfl), (by rfl), H', ⟨by have := HK1.out; omega⟩, by repeat (first | exact Drawn0.refl _ | apply Drawn0.step)⟩
end Go.Proofs.Ytgkjnhajomjhcaa.PFnShelves
