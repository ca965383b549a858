-- A text of this session (its program hook.py, over the kit's print.py): not a print of print.sh
-- THIN: one blank for two
import Derived.Test.YtfgclhojgaaepaaPFnLeadsx0
namespace Go.Proofs.Ytfgclhojgaaepaa.PFnLeads
open Go.RowKit Go.Proofs.YtfgclhojgaaepaaW.PrintWords Go.Proofs.YtfgclhojgaaepaaW.PrintLast Go.Proofs.YtfgclhojgaaepaaW.PrintMore
attribute [local go_sem] max2_int min2_int max_two min_two max_three min_three max_four min_four   -- for this text's walks alone
set_option linter.unusedVariables false
set_option linter.unusedSimpArgs false

-- SQUEEZED
theorem z1_A {p : Prop} (h : p) : Aside0 p := Aside0.mk h
theorem z1_1 {p : Prop} (h : p := by rw [hg]; exact (below_size HB.out)) : p := h
theorem z1_2 {p : Prop} (h : p := by (try simp only [List.map_toArray, List.map_cons, List.map_nil]); rfl) : p := h
theorem z1_3 {p : Prop} (h : p := by repeat (with_reducible first | exact HB.out | apply pw_below_drewN)) : p := h
theorem z1_4 {p : Prop} (h : p := by repeat (first | exact Drawn0.refl _ | apply Drawn0.step)) : p := h
theorem z1_5 {p : Prop} (h : p := by (with_reducible assumption)) : p := h
theorem z1_6 {p : Prop} (h : p := by rfl) : p := h
theorem z1_7 {p : Prop} (h : p := by exact Drawn0.refl _) : p := h

/-! ### spec_l1In: function 78 -/
def spec_l1In.f (a : Int) (b : Int) (c : Int) : Option (Bool) := if a ≥ b then (some (decide (a ≤ c))) else (some false)
set_option maxHeartbeats 8000000 in
set_option maxRecDepth 100000 in
theorem spec_l1In.calls (a0 : Int) (a1 : Int) (a2 : Int) (r : Bool) (w : World) (h : spec_l1In.f a0 a1 a2 = some r) :
  Calls Try.prog 78 #[.int .i64 a0, .int .i64 a1, .int .i64 a2] w fun e w' => e = .returned (.bool r) ∧ Drawn0 w w' := by
 unfold spec_l1In.f at h; revert h; intro H; by_cases c4 : a0 ≥ a1
 ·rw [if_pos c4] at H; have c4b0 : decide (a1 ≤ a0) = true := decide_eq_true c4; clear c4; obtain rfl := Option.some.inj H; go_enter Try.func78, Try.ntmps78; go_wp2; go_ret; exact ⟨z1_6, z1_7⟩
 rw [if_neg c4] at H; have c4b0 : decide (a1 ≤ a0) = false := decide_eq_false c4; clear c4; obtain rfl := Option.some.inj H; go_enter Try.func78, Try.ntmps78; go_wp2; go_ret; exact ⟨z1_6, z1_7⟩
/-! ### spec_l2Row: function 110 -/
def spec_l2Row.l0 : Nat → List Int → Int → Int → Int → Option (Bool)
 | 0, _, _, _, _ => none
 | k + 1, a, b, c, d => if d < (a.length : Int) then (if 0 ≤ d then ((spec_l1In.f (rd a d) 0 c).bind fun e => (if e = true then (spec_l2Row.l0 k a b c (wrap64 (d + 1))) else (some false))) else (none)) else (some ((a.length : Int) == b))
def spec_l2Row.f (k : Nat) (a : List Int) (b : Int) (c : Int) : Option (Bool) := spec_l2Row.l0 k a b c 0
theorem spec_l2Row.mono_l : ∀ k, (∀ y0 y1 y2 y3, LeO (spec_l2Row.l0 k y0 y1 y2 y3) (spec_l2Row.l0 (k + 1) y0 y1 y2 y3))
 | 0 => fun _ _ _ _ r h => by simp [spec_l2Row.l0] at h
 | k + 1 => by
  have ih0 := spec_l2Row.mono_l k
  ·intro y0 y1 y2 y3
   unfold spec_l2Row.l0
   repeat' with_reducible first | apply ih0 | exact LeO.refl _ | refine LeO.ite ?_ ?_ | refine LeO.bind ?_ (fun _ => ?_)
theorem spec_l2Row.mono : ∀ a0 a1 a2 k, LeO (spec_l2Row.f k a0 a1 a2) (spec_l2Row.f (k + 1) a0 a1 a2) := by
 intro a0 a1 a2 k
 have ih0 := spec_l2Row.mono_l k
 unfold spec_l2Row.f
 repeat' with_reducible first | apply ih0
set_option maxHeartbeats 8000000 in
set_option maxRecDepth 100000 in
theorem spec_l2Row.calls (k : Nat) (A0 : Option Addr) (c0 : Nat) (l0 : List Int) (a1 : Int) (a2 : Int) (r : Bool) (w : World) (hr0 : Kd.C (Kd.int .i64) w A0 l0.length l0) (hc0 : l0.length ≤ c0) (h : spec_l2Row.f k l0 a1 a2 = some r) :
  Calls Try.prog 110 #[.slice A0 l0.length c0, .int .i64 a1, .int .i64 a2] w fun e w' => e = .returned (.bool r) ∧ Drawn0 w w' := by
 have HR0 := z1_A hr0; have HC0 := z1_A hc0; clear hr0 hc0; unfold spec_l2Row.f at h; revert h; intro H; have H' := z1_A H; clear H; go_enter Try.func110, Try.ntmps110; go_wp2; go_loopg [7] k (fun kq v7 w' => ∃ (x7_1 : Int), v7 = .int .i64 x7_1 ∧ Aside0 (spec_l2Row.l0 kq l0 a1 a2 x7_1 = some r) ∧ Aside0 (kq ≤ k) ∧ Drawn0 w w'); case atStart => exact ⟨(0), z1_6, H', ⟨Nat.le_refl _⟩, z1_7⟩
 case round =>
 clear H'; obtain ⟨x7_1, rfl, HA, HK1, ⟨m1, rfl⟩⟩ := hrel; cases gk with
 | zero => exact absurd HA.out (by simp [spec_l2Row.l0])
 | succ k1 => ?_
 have H := HA.out; clear HA; simp only [spec_l2Row.l0] at H; by_cases c4 : x7_1 < (l0.length : Int); rotate_left
 ·rw [if_neg c4] at H; have c4b0 := decide_eq_false c4; clear c4; obtain rfl := Option.some.inj H; go_wp2; go_ret; exact ⟨z1_6, z1_4⟩
 rw [if_pos c4] at H; have c4b0 := decide_eq_true c4; clear c4; by_cases c5 : 0 ≤ x7_1; rotate_left
 ·rw [if_neg c5] at H; exact absurd H (by simp)
 rw [if_pos c5] at H; have c5b0 := decide_eq_true c5; clear c5; obtain ⟨t102, A6, H⟩ := zB H; by_cases c7 : t102 = true
 ·subst c7; rw [if_pos rfl] at H; have H' := z1_A H; clear H; have p101 : 0 ≤ (x7_1 : Int) := of_decide_eq_true z1_5; have q101 : x7_1 < (l0.length : Int) := of_decide_eq_true z1_5; obtain ⟨ad101, e101, hx101_0⟩ := Kd.at_int HR0.out x7_1 p101 q101; cases e101; replace p101 := eq_true p101; replace q101 := eq_true q101; go_wp2_with ((with_reducible refine gate_callee (f := 78) rfl ?_); refine goesL_ (some 19) rfl rfl Try.func78 (by kernel_rfl) rfl #[.int .i64 (rd l0 x7_1), .int .i64 0, .int .i64 a2] rfl z1_2 ?_; (with_reducible refine (spec_l1In.calls (rd l0 x7_1) 0 a2 true _ A6.out).mono ?_); rintro e w' ⟨rfl, ⟨nd, rfl⟩⟩; refine ⟨_, rfl, ?_⟩); go_roundg k1; (case measure => have := HK1.out; omega); case rel => exact ⟨(wrap64 (x7_1 + 1)), z1_6, H', ⟨by have := HK1.out; omega⟩, z1_4⟩
 replace c7 := Bool.eq_false_iff.mpr c7; subst c7; rw [if_neg (show ¬ (false = true) by decide)] at H; obtain rfl := Option.some.inj H; have p101 : 0 ≤ (x7_1 : Int) := of_decide_eq_true z1_5; have q101 : x7_1 < (l0.length : Int) := of_decide_eq_true z1_5; obtain ⟨ad101, e101, hx101_0⟩ := Kd.at_int HR0.out x7_1 p101 q101; cases e101; replace p101 := eq_true p101; replace q101 := eq_true q101; go_wp2_with ((with_reducible refine gate_callee (f := 78) rfl ?_); refine goesL_ (some 19) rfl rfl Try.func78 (by kernel_rfl) rfl #[.int .i64 (rd l0 x7_1), .int .i64 0, .int .i64 a2] rfl z1_2 ?_; (with_reducible refine (spec_l1In.calls (rd l0 x7_1) 0 a2 false _ A6.out).mono ?_); rintro e w' ⟨rfl, ⟨nd, rfl⟩⟩; refine ⟨_, rfl, ?_⟩); go_ret; exact ⟨z1_6, z1_4⟩
/-! ### spec_l11Numbers: function 102 -/
def spec_l11Numbers.f (k : Nat) (a : List Int) (b : Int) (c : Int) : Option (Bool) := if (a.length : Int) ≤ b then ((spec_l2Row.f k a (a.length : Int) c).bind fun d => (some d)) else (some false)
theorem spec_l11Numbers.mono : ∀ a0 a1 a2 k, LeO (spec_l11Numbers.f k a0 a1 a2) (spec_l11Numbers.f (k + 1) a0 a1 a2) := by
 intro a0 a1 a2 k
 unfold spec_l11Numbers.f
 repeat' with_reducible first | apply spec_l2Row.mono | exact LeO.refl _ | refine LeO.ite ?_ ?_ | refine LeO.bind ?_ (fun _ => ?_)
set_option maxHeartbeats 8000000 in
set_option maxRecDepth 100000 in
theorem spec_l11Numbers.calls (k : Nat) (A0 : Option Addr) (c0 : Nat) (l0 : List Int) (a1 : Int) (a2 : Int) (r : Bool) (w : World) (hr0 : Kd.C (Kd.int .i64) w A0 l0.length l0) (hc0 : l0.length ≤ c0) (h : spec_l11Numbers.f k l0 a1 a2 = some r) :
  Calls Try.prog 102 #[.slice A0 l0.length c0, .int .i64 a1, .int .i64 a2] w fun e w' => e = .returned (.bool r) ∧ Drawn0 w w' := by
 have HR0 := z1_A hr0; have HC0 := z1_A hc0; clear hr0 hc0; unfold spec_l11Numbers.f at h; revert h; intro H; by_cases c4 : (l0.length : Int) ≤ a1
 ·rw [if_pos c4] at H; have c4b0 := decide_eq_true c4; clear c4; obtain ⟨t103, A5, H⟩ := zB H; obtain rfl := Option.some.inj H; go_enter Try.func102, Try.ntmps102; go_wp2_with (go_at_call 110; (with_reducible refine (spec_l2Row.calls k _ _ l0 (l0.length : Int) a2 t103 _ ?side1 ?side2 A5.out).mono ?_); (case side1 => exact HR0.out); (case side2 => exact HC0.out); rintro e w' ⟨rfl, ⟨nd, rfl⟩⟩); go_ret; exact ⟨z1_6, z1_4⟩
 rw [if_neg c4] at H; have c4b0 := decide_eq_false c4; clear c4; obtain rfl := Option.some.inj H; go_enter Try.func102, Try.ntmps102; go_wp2; go_ret; exact ⟨z1_6, z1_7⟩
/-! ### spec_l11Flow: function 77 -/
def spec_l11Flow.f (k : Nat) (a : Int) (b : List Int) : Option (Bool) := (spec_l1In.f a (-200) 200).bind fun c => (if c = true then ((spec_l11Numbers.f k b 4 40).bind fun d => (some d)) else (some false))
theorem spec_l11Flow.mono : ∀ a0 a1 k, LeO (spec_l11Flow.f k a0 a1) (spec_l11Flow.f (k + 1) a0 a1) := by
 intro a0 a1 k
 unfold spec_l11Flow.f
 repeat' with_reducible first | apply spec_l11Numbers.mono | exact LeO.refl _ | refine LeO.ite ?_ ?_ | refine LeO.bind ?_ (fun _ => ?_)
set_option maxHeartbeats 8000000 in
set_option maxRecDepth 100000 in
theorem spec_l11Flow.calls (k : Nat) (a0_0 : Int) (A0_1 : Option Addr) (c0_1 : Nat) (l0_1 : List Int) (r : Bool) (w : World) (hr0_1 : Kd.C (Kd.int .i64) w A0_1 l0_1.length l0_1) (hc0_1 : l0_1.length ≤ c0_1) (h : spec_l11Flow.f k a0_0 l0_1 = some r) :
  Calls Try.prog 77 #[.agg #[.int .i64 a0_0, .slice A0_1 l0_1.length c0_1]] w fun e w' => e = .returned (.bool r) ∧ Below w.heap.size w w' := by
 have hu30 := Try.underlying30; have HR0_1 := z1_A hr0_1; have HC0_1 := z1_A hc0_1; clear hr0_1 hc0_1; have HB := z1_A (Below.refl w.heap.size w); unfold spec_l11Flow.f at h; revert h; intro H; obtain ⟨t105, A2, H⟩ := zB H; by_cases c3 : t105 = true
 ·subst c3; rw [if_pos rfl] at H; obtain ⟨t106, A4, H⟩ := zB H; obtain rfl := Option.some.inj H; go_enter Try.func77, Try.ntmps77; go_wp2_with (first | ((with_reducible refine gate_dst (N := 1) rfl ?_); refine box_event ?hg (N := 1) ?hd (cs := #[.int .i64 a0_0, .slice A0_1 l0_1.length c0_1]) (t := 30) ?hr ?_; (case hd => rfl); (case hg => rfl); (case hr => (go_simp; done)); intro gb104 hg w5 hbox hb; have BK104 := z1_A hbox; have GW104 := z1_A (z1_1 : w.heap.size ≤ gb104); have GE104 := z1_A (z1_1 : w.heap.size ≤ gb104); replace HB := z1_A (below_step HB.out hb); clear hb hbox hg; have hcz6_0 := zcf2 BK104.out) | ((with_reducible refine gate_callee (f := 78) rfl ?_); refine goesL_ (some 5) rfl rfl Try.func78 (by kernel_rfl) rfl #[.int .i64 a0_0, .int .i64 (-200), .int .i64 200] rfl z1_2 ?_; (with_reducible refine (spec_l1In.calls a0_0 (-200) 200 true _ A2.out).mono ?_); rintro e w' ⟨rfl, ⟨nd, rfl⟩⟩; refine ⟨_, rfl, ?_⟩) | (go_at_call 102; (with_reducible refine (spec_l11Numbers.calls k _ _ l0_1 4 40 t106 _ ?side1 ?side2 A4.out).mono ?_); (case side1 => exact (Kd.C_below HR0_1.out z1_3)); (case side2 => exact HC0_1.out); rintro e w' ⟨rfl, ⟨nd, rfl⟩⟩)); go_ret; exact ⟨z1_6, z1_3⟩
 replace c3 := Bool.eq_false_iff.mpr c3; subst c3; rw [if_neg (show ¬ (false = true) by decide)] at H; obtain rfl := Option.some.inj H; go_enter Try.func77, Try.ntmps77; go_wp2_with (first | ((with_reducible refine gate_dst (N := 1) rfl ?_); refine box_event ?hg (N := 1) ?hd (cs := #[.int .i64 a0_0, .slice A0_1 l0_1.length c0_1]) (t := 30) ?hr ?_; (case hd => rfl); (case hg => rfl); (case hr => (go_simp; done)); intro gb104 hg w7 hbox hb; have BK104 := z1_A hbox; have GW104 := z1_A (z1_1 : w.heap.size ≤ gb104); have GE104 := z1_A (z1_1 : w.heap.size ≤ gb104); replace HB := z1_A (below_step HB.out hb); clear hb hbox hg; have hcz8_0 := zcf2 BK104.out) | ((with_reducible refine gate_callee (f := 78) rfl ?_); refine goesL_ (some 5) rfl rfl Try.func78 (by kernel_rfl) rfl #[.int .i64 a0_0, .int .i64 (-200), .int .i64 200] rfl z1_2 ?_; (with_reducible refine (spec_l1In.calls a0_0 (-200) 200 false _ A2.out).mono ?_); rintro e w' ⟨rfl, ⟨nd, rfl⟩⟩; refine ⟨_, rfl, ?_⟩)); go_ret; exact ⟨z1_6, z1_3⟩
/-! ### spec_l2Sum: function 65 -/
def spec_l2Sum.l0 : Nat → List Int → Int → Int → Option (Int)
 | 0, _, _, _ => none
 | k + 1, a, b, c => if c < (a.length : Int) then (if 0 ≤ c then (spec_l2Sum.l0 k a (wrap64 (b + (rd a c))) (wrap64 (c + 1))) else (none)) else (some b)
def spec_l2Sum.f (k : Nat) (a : List Int) : Option (Int) := spec_l2Sum.l0 k a 0 0
theorem spec_l2Sum.mono_l : ∀ k, (∀ y0 y1 y2, LeO (spec_l2Sum.l0 k y0 y1 y2) (spec_l2Sum.l0 (k + 1) y0 y1 y2))
 | 0 => fun _ _ _ r h => by simp [spec_l2Sum.l0] at h
 | k + 1 => by
  have ih0 := spec_l2Sum.mono_l k
  ·intro y0 y1 y2
   unfold spec_l2Sum.l0
   repeat' with_reducible first | apply ih0 | exact LeO.refl _ | refine LeO.ite ?_ ?_
theorem spec_l2Sum.mono : ∀ a0 k, LeO (spec_l2Sum.f k a0) (spec_l2Sum.f (k + 1) a0) := by
 intro a0 k
 have ih0 := spec_l2Sum.mono_l k
 unfold spec_l2Sum.f
 repeat' with_reducible first | apply ih0
set_option maxHeartbeats 8000000 in
set_option maxRecDepth 100000 in
theorem spec_l2Sum.calls (k : Nat) (A0 : Option Addr) (c0 : Nat) (l0 : List Int) (r : Int) (w : World) (hr0 : Kd.C (Kd.int .i64) w A0 l0.length l0) (hc0 : l0.length ≤ c0) (h : spec_l2Sum.f k l0 = some r) :
  Calls Try.prog 65 #[.slice A0 l0.length c0] w fun e w' => e = .returned (.int .i64 r) ∧ Drawn0 w w' := by
 have HR0 := z1_A hr0; have HC0 := z1_A hc0; clear hr0 hc0; unfold spec_l2Sum.f at h; revert h; intro H; have H' := z1_A H; clear H; go_enter Try.func65, Try.ntmps65; go_wp2; go_loopg [3, 4] k (fun kq v3 v4 w' => ∃ (x3_1 : Int) (x4_1 : Int), v3 = .int .i64 x3_1 ∧ v4 = .int .i64 x4_1 ∧ Aside0 (spec_l2Sum.l0 kq l0 x3_1 x4_1 = some r) ∧ Aside0 (kq ≤ k) ∧ Drawn0 w w'); case atStart => exact ⟨(0), (0), z1_6, z1_6, H', ⟨Nat.le_refl _⟩, z1_7⟩
 case round =>
 clear H'; obtain ⟨x3_1, x4_1, rfl, rfl, HA, HK1, ⟨m1, rfl⟩⟩ := hrel; cases gk with
 | zero => exact absurd HA.out (by simp [spec_l2Sum.l0])
 | succ k1 => ?_
 have H := HA.out; clear HA; simp only [spec_l2Sum.l0] at H; by_cases c2 : x4_1 < (l0.length : Int); rotate_left
 ·rw [if_neg c2] at H; have c2b0 := decide_eq_false c2; clear c2; obtain rfl := Option.some.inj H; go_wp2; go_ret; exact ⟨z1_6, z1_4⟩
 rw [if_pos c2] at H; have c2b0 := decide_eq_true c2; clear c2; by_cases c3 : 0 ≤ x4_1; rotate_left
 ·rw [if_neg c3] at H; exact absurd H (by simp)
 rw [if_pos c3] at H; have c3b0 := decide_eq_true c3; clear c3; have H' := z1_A H; clear H; have p107 : 0 ≤ (x4_1 : Int) := of_decide_eq_true z1_5; have q107 : x4_1 < (l0.length : Int) := of_decide_eq_true z1_5; obtain ⟨ad107, e107, hx107_0⟩ := Kd.at_int HR0.out x4_1 p107 q107; cases e107; replace p107 := eq_true p107; replace q107 := eq_true q107; go_wp2; go_roundg k1; (case measure => have := HK1.out; omega); case rel => exact ⟨(wrap64 (x3_1 + (rd l0 x4_1))), (wrap64 (x4_1 + 1)), z1_6, z1_6, H', ⟨by have := HK1.out; omega⟩, z1_4⟩
/-! ### spec_l11Position: function 80 -/
def spec_l11Position.f (k : Nat) (a : Int) (b : List Int) : Option (Int) := (spec_l2Sum.f k b).bind fun c => (some (wrap64 (a + c)))
theorem spec_l11Position.mono : ∀ a0 a1 k, LeO (spec_l11Position.f k a0 a1) (spec_l11Position.f (k + 1) a0 a1) := by
 intro a0 a1 k
 unfold spec_l11Position.f
 repeat' with_reducible first | apply spec_l2Sum.mono | exact LeO.refl _ | refine LeO.bind ?_ (fun _ => ?_)
set_option maxHeartbeats 8000000 in
set_option maxRecDepth 100000 in
theorem spec_l11Position.calls (k : Nat) (a0_0 : Int) (A0_1 : Option Addr) (c0_1 : Nat) (l0_1 : List Int) (r : Int) (w : World) (hr0_1 : Kd.C (Kd.int .i64) w A0_1 l0_1.length l0_1) (hc0_1 : l0_1.length ≤ c0_1) (h : spec_l11Position.f k a0_0 l0_1 = some r) :
  Calls Try.prog 80 #[.agg #[.int .i64 a0_0, .slice A0_1 l0_1.length c0_1]] w fun e w' => e = .returned (.int .i64 r) ∧ Below w.heap.size w w' := by
 have hu30 := Try.underlying30; have HR0_1 := z1_A hr0_1; have HC0_1 := z1_A hc0_1; clear hr0_1 hc0_1; have HB := z1_A (Below.refl w.heap.size w); unfold spec_l11Position.f at h; revert h; intro H; obtain ⟨t109, A2, H⟩ := zB H; obtain rfl := Option.some.inj H; go_enter Try.func80, Try.ntmps80; go_wp2_with ((with_reducible refine gate_dst (N := 1) rfl ?_); refine box_event ?hg (N := 1) ?hd (cs := #[.int .i64 a0_0, .slice A0_1 l0_1.length c0_1]) (t := 30) ?hr ?_; (case hd => rfl); (case hg => rfl); (case hr => (go_simp; done)); intro gb108 hg w3 hbox hb; have BK108 := z1_A hbox; have GW108 := z1_A (z1_1 : w.heap.size ≤ gb108); have GE108 := z1_A (z1_1 : w.heap.size ≤ gb108); replace HB := z1_A (below_step HB.out hb); clear hb hbox hg; have hcz4_0 := zcf2 BK108.out); (repeat (go_quiet ((go_at_call 65; (with_reducible refine (spec_l2Sum.calls k _ _ l0_1 t109 _ ?side1 ?side2 A2.out).mono ?_); (case side1 => repeat (first | exact (Kd.C_below HR0_1.out HB.out) | (with_reducible refine Kd.C_drewN ?_ _))); (case side2 => exact HC0_1.out); rintro e w' ⟨rfl, ⟨nd, rfl⟩⟩; (try exact ⟨rfl, _, World.drewN_drewN _ _ _⟩))); try go_wp2_with (fail))); go_ret; exact ⟨z1_6, z1_3⟩
/-! ### spec_l11Rule: function 96 -/
def spec_l11Rule.j0 : Nat → Bool → Int → Int → Int → Option (Bool)
 | 0, _, _, _, _ => none
 | k + 1, a, b, c, d => if a = true then (some false) else (if b = 1 then (some true) else (if b = 2 then (some (decide (c ≤ d))) else (if b = 3 then ((spec_l1In.f d 1 40).bind fun e => (some e)) else (some false))))
def spec_l11Rule.f (k : Nat) (a : Int) (b : Int) (c : Int) : Option (Bool) := (spec_l1In.f b (-200) 200).bind fun d => (if d = true then ((spec_l1In.f c (-200) 200).bind fun e => (spec_l11Rule.j0 k (!e) a b c)) else (spec_l11Rule.j0 k true a b c))
theorem spec_l11Rule.mono_l : ∀ k, (∀ y0 y1 y2 y3, LeO (spec_l11Rule.j0 k y0 y1 y2 y3) (spec_l11Rule.j0 (k + 1) y0 y1 y2 y3))
 | 0 => fun _ _ _ _ r h => by simp [spec_l11Rule.j0] at h
 | k + 1 => by
  have ih0 := spec_l11Rule.mono_l k
  ·intro y0 y1 y2 y3
   unfold spec_l11Rule.j0
   repeat' with_reducible first | exact LeO.refl _
theorem spec_l11Rule.mono : ∀ a0 a1 a2 k, LeO (spec_l11Rule.f k a0 a1 a2) (spec_l11Rule.f (k + 1) a0 a1 a2) := by
 intro a0 a1 a2 k
 have ih0 := spec_l11Rule.mono_l k
 unfold spec_l11Rule.f
 repeat' with_reducible first | apply ih0 | exact LeO.refl _ | refine LeO.ite ?_ ?_ | refine LeO.bind ?_ (fun _ => ?_)
set_option maxHeartbeats 8000000 in
set_option maxRecDepth 100000 in
theorem spec_l11Rule.calls (k : Nat) (a0_0 : Int) (a0_1 : Int) (a0_2 : Int) (r : Bool) (w : World) (h : spec_l11Rule.f k a0_0 a0_1 a0_2 = some r) :
  Calls Try.prog 96 #[.agg #[.int .i64 a0_0, .int .i64 a0_1, .int .i64 a0_2]] w fun e w' => e = .returned (.bool r) ∧ Below w.heap.size w w' := by
 have hu32 := Try.underlying32; have HB := z1_A (Below.refl w.heap.size w); unfold spec_l11Rule.f at h; revert h; intro H; have HC2 := z1_A H; clear H; go_enter Try.func96, Try.ntmps96; go_upto_region 1 with ((with_reducible refine gate_dst (N := 1) rfl ?_); refine box_event ?hg (N := 1) ?hd (cs := #[.int .i64 a0_0, .int .i64 a0_1, .int .i64 a0_2]) (t := 32) ?hr ?_; (case hd => rfl); (case hg => rfl); (case hr => (go_simp; done)); intro gb110 hg w3 hbox hb; have BK110 := z1_A hbox; have GW110 := z1_A (z1_1 : w.heap.size ≤ gb110); have GE110 := z1_A (z1_1 : w.heap.size ≤ gb110); replace HB := z1_A (below_step HB.out hb); clear hb hbox hg); go_cut [12] (fun v12 wc => ∃ (kq : Nat) (x12_1 : Bool), v12 = .bool x12_1 ∧ Aside0 (spec_l11Rule.j0 kq x12_1 a0_0 a0_1 a0_2 = some r) ∧ Aside0 (kq ≤ k) ∧ Aside0 (wc.heap[gb110]? = some (.cells #[.int .i64 a0_0, .int .i64 a0_1, .int .i64 a0_2] 32 (0, 0))) ∧ Aside0 (Below w.heap.size w wc))
 case first =>
  have H := HC2.out; clear HC2; obtain ⟨t111, A4, H⟩ := zB H; by_cases c5 : t111 = true
  ·subst c5; rw [if_pos rfl] at H; obtain ⟨t112, A6, H⟩ := zB H; have H' := z1_A H; clear H; have hcz7_0 := zcf3 BK110.out; go_wp2_with (first | ((with_reducible refine gate_callee (f := 78) rfl ?_); refine goesL_ (some 5) rfl rfl Try.func78 (by kernel_rfl) rfl #[.int .i64 a0_1, .int .i64 (-200), .int .i64 200] rfl z1_2 ?_; (with_reducible refine (spec_l1In.calls a0_1 (-200) 200 true _ A4.out).mono ?_); rintro e w' ⟨rfl, ⟨nd, rfl⟩⟩; refine ⟨_, rfl, ?_⟩) | (go_at_call 78; (with_reducible refine (spec_l1In.calls a0_2 (-200) 200 t112 _ A6.out).mono ?_); rintro e w' ⟨rfl, ⟨nd, rfl⟩⟩)); go_meet; case rel => exact ⟨_, (!t112), z1_6, H', ⟨by omega⟩, ⟨by (with_reducible repeat (refine blk_drewN ?_ _)); exact BK110.out⟩, ⟨z1_3⟩⟩
  replace c5 := Bool.eq_false_iff.mpr c5; subst c5; rw [if_neg (show ¬ (false = true) by decide)] at H; have H' := z1_A H; clear H; have hcz8_0 := zcf3 BK110.out; go_wp2_with ((with_reducible refine gate_callee (f := 78) rfl ?_); refine goesL_ (some 5) rfl rfl Try.func78 (by kernel_rfl) rfl #[.int .i64 a0_1, .int .i64 (-200), .int .i64 200] rfl z1_2 ?_; (with_reducible refine (spec_l1In.calls a0_1 (-200) 200 false _ A4.out).mono ?_); rintro e w' ⟨rfl, ⟨nd, rfl⟩⟩; refine ⟨_, rfl, ?_⟩); go_meet; case rel => exact ⟨_, (true), z1_6, H', ⟨by omega⟩, ⟨by (with_reducible repeat (refine blk_drewN ?_ _)); exact BK110.out⟩, ⟨z1_3⟩⟩
 case rest =>
 clear HC2; obtain ⟨kq, x12_1, rfl, HA, HJ1, BK110, HB⟩ := hcut; cases kq with
 | zero => exact absurd HA.out (by simp [spec_l11Rule.j0])
 | succ kj1 => ?_
 have H := HA.out; clear HA; simp only [spec_l11Rule.j0] at H; by_cases c9 : x12_1 = true
 ·subst c9; rw [if_pos rfl] at H; obtain rfl := Option.some.inj H; go_wp2; go_ret; exact ⟨z1_6, by exact HB.out⟩
 replace c9 := Bool.eq_false_iff.mpr c9; subst c9; rw [if_neg (show ¬ (false = true) by decide)] at H; by_cases c10 : a0_0 = 1
 ·rw [if_pos c10] at H; have c10b0 : (a0_0 == 1) = true := beq_iff_eq.mpr c10; have c10b1 : (a0_0 != 1) = false := bne_eq_false_iff_eq.mpr c10; clear c10; obtain rfl := Option.some.inj H; have hcz11_0 := zcf3 BK110.out; go_wp2; go_ret; exact ⟨z1_6, by exact HB.out⟩
 rw [if_neg c10] at H; have c10b0 : (a0_0 == 1) = false := beq_eq_false_iff_ne.mpr c10; have c10b1 : (a0_0 != 1) = true := bne_iff_ne.mpr c10; by_cases c12 : a0_0 = 2
 ·rw [if_pos c12] at H; have c12b0 : (a0_0 == 2) = true := beq_iff_eq.mpr c12; have c12b1 : (a0_0 != 2) = false := bne_eq_false_iff_eq.mpr c12; clear c12; obtain rfl := Option.some.inj H; have hcz13_0 := zcf3 BK110.out; go_wp2; go_ret; exact ⟨z1_6, by exact HB.out⟩
 rw [if_neg c12] at H; have c12b0 : (a0_0 == 2) = false := beq_eq_false_iff_ne.mpr c12; have c12b1 : (a0_0 != 2) = true := bne_iff_ne.mpr c12; by_cases c14 : a0_0 = 3
 ·rw [if_pos c14] at H; have c14b0 : (a0_0 == 3) = true := beq_iff_eq.mpr c14; have c14b1 : (a0_0 != 3) = false := bne_eq_false_iff_eq.mpr c14; clear c14; obtain ⟨t113, A15, H⟩ := zB H; obtain rfl := Option.some.inj H; have hcz16_0 := zcf3 BK110.out; go_wp2_with ((with_reducible refine gate_callee (f := 78) rfl ?_); refine goesL_ (some 28) rfl rfl Try.func78 (by kernel_rfl) rfl #[.int .i64 a0_2, .int .i64 1, .int .i64 40] rfl z1_2 ?_; (with_reducible refine (spec_l1In.calls a0_2 1 40 t113 _ A15.out).mono ?_); rintro e w' ⟨rfl, ⟨nd, rfl⟩⟩; refine ⟨_, rfl, ?_⟩); go_ret; exact ⟨z1_6, z1_3⟩
 rw [if_neg c14] at H; have c14b0 : (a0_0 == 3) = false := beq_eq_false_iff_ne.mpr c14; have c14b1 : (a0_0 != 3) = true := bne_iff_ne.mpr c14; obtain rfl := Option.some.inj H; have hcz17_0 := zcf3 BK110.out; go_wp2; go_ret; exact ⟨z1_6, by exact HB.out⟩
/-! ### spec_l1Most: function 105 -/
def spec_l1Most.f (a : Int) (b : Int) : Option (Int) := if a > b then (some a) else (some b)
set_option maxHeartbeats 8000000 in
set_option maxRecDepth 100000 in
theorem spec_l1Most.calls (a0 : Int) (a1 : Int) (r : Int) (w : World) (h : spec_l1Most.f a0 a1 = some r) :
  Calls Try.prog 105 #[.int .i64 a0, .int .i64 a1] w fun e w' => e = .returned (.int .i64 r) ∧ Drawn0 w w' := by
 unfold spec_l1Most.f at h; revert h; intro H; by_cases c3 : a0 > a1
 ·rw [if_pos c3] at H; have c3b0 : decide (a1 < a0) = true := decide_eq_true c3; clear c3; obtain rfl := Option.some.inj H; go_enter Try.func105, Try.ntmps105; go_wp2; go_ret; exact ⟨z1_6, z1_7⟩
 rw [if_neg c3] at H; have c3b0 : decide (a1 < a0) = false := decide_eq_false c3; clear c3; obtain rfl := Option.some.inj H; go_enter Try.func105, Try.ntmps105; go_wp2; go_ret; exact ⟨z1_6, z1_7⟩
/-! ### spec_l11Order: function 97 -/
def spec_l11Order.l0 : Nat → Int → Int → Int → Int → Int → Option (Int)
 | 0, _, _, _, _, _ => none
 | k + 1, a, b, c, d, e => if (wrap64 (a + b)) < d then (spec_l11Order.l0 k a (wrap64 (b + e)) c d e) else (some b)
def spec_l11Order.f (k : Nat) (a : Int) (b : Int) (c : Int) (d : Int) : Option (Int) := if a = 1 then ((spec_l1Most.f (wrap64 (c - d)) 0).bind fun e => (some e)) else (if a = 2 then (if d < b then (some (wrap64 (c - d))) else (some 0)) else (spec_l11Order.l0 k d 0 a b c))
theorem spec_l11Order.mono_l : ∀ k, (∀ y0 y1 y2 y3 y4, LeO (spec_l11Order.l0 k y0 y1 y2 y3 y4) (spec_l11Order.l0 (k + 1) y0 y1 y2 y3 y4))
 | 0 => fun _ _ _ _ _ r h => by simp [spec_l11Order.l0] at h
 | k + 1 => by
  have ih0 := spec_l11Order.mono_l k
  ·intro y0 y1 y2 y3 y4
   unfold spec_l11Order.l0
   repeat' with_reducible first | apply ih0 | exact LeO.refl _ | refine LeO.ite ?_ ?_
theorem spec_l11Order.mono : ∀ a0 a1 a2 a3 k, LeO (spec_l11Order.f k a0 a1 a2 a3) (spec_l11Order.f (k + 1) a0 a1 a2 a3) := by
 intro a0 a1 a2 a3 k
 have ih0 := spec_l11Order.mono_l k
 unfold spec_l11Order.f
 repeat' with_reducible first | apply ih0 | exact LeO.refl _ | refine LeO.ite ?_ ?_
set_option maxHeartbeats 8000000 in
set_option maxRecDepth 100000 in
theorem spec_l11Order.calls (k : Nat) (a0_0 : Int) (a0_1 : Int) (a0_2 : Int) (a1 : Int) (r : Int) (w : World) (h : spec_l11Order.f k a0_0 a0_1 a0_2 a1 = some r) :
  Calls Try.prog 97 #[.agg #[.int .i64 a0_0, .int .i64 a0_1, .int .i64 a0_2], .int .i64 a1] w fun e w' => e = .returned (.int .i64 r) ∧ Below w.heap.size w w' := by
 have hu32 := Try.underlying32; have HB := z1_A (Below.refl w.heap.size w); unfold spec_l11Order.f at h; revert h; intro H; by_cases c3 : a0_0 = 1
 ·rw [if_pos c3] at H; have c3b0 : (a0_0 == 1) = true := beq_iff_eq.mpr c3; have c3b1 : (a0_0 != 1) = false := bne_eq_false_iff_eq.mpr c3; clear c3; obtain ⟨t115, A4, H⟩ := zB H; obtain rfl := Option.some.inj H; go_enter Try.func97, Try.ntmps97; go_wp2_with (first | ((with_reducible refine gate_dst (N := 2) rfl ?_); refine box_event ?hg (N := 2) ?hd (cs := #[.int .i64 a0_0, .int .i64 a0_1, .int .i64 a0_2]) (t := 32) ?hr ?_; (case hd => rfl); (case hg => rfl); (case hr => (go_simp; done)); intro gb114 hg w5 hbox hb; have BK114 := z1_A hbox; have GW114 := z1_A (z1_1 : w.heap.size ≤ gb114); have GE114 := z1_A (z1_1 : w.heap.size ≤ gb114); replace HB := z1_A (below_step HB.out hb); clear hb hbox hg; have hcz6_0 := zcf3 BK114.out) | ((with_reducible refine gate_callee (f := 105) rfl ?_); refine goesL_ (some 14) rfl rfl Try.func105 (by kernel_rfl) rfl #[.int .i64 (wrap64 (a0_2 - a1)), .int .i64 0] rfl z1_2 ?_; (with_reducible refine (spec_l1Most.calls (wrap64 (a0_2 - a1)) 0 t115 _ A4.out).mono ?_); rintro e w' ⟨rfl, ⟨nd, rfl⟩⟩; refine ⟨_, rfl, ?_⟩)); go_ret; exact ⟨z1_6, z1_3⟩
 rw [if_neg c3] at H; have c3b0 : (a0_0 == 1) = false := beq_eq_false_iff_ne.mpr c3; have c3b1 : (a0_0 != 1) = true := bne_iff_ne.mpr c3; by_cases c7 : a0_0 = 2; rotate_left
 ·rw [if_neg c7] at H; have c7b0 : (a0_0 == 2) = false := beq_eq_false_iff_ne.mpr c7; have c7b1 : (a0_0 != 2) = true := bne_iff_ne.mpr c7; have H' := z1_A H; clear H; go_enter Try.func97, Try.ntmps97; go_wp2_with ((with_reducible refine gate_dst (N := 2) rfl ?_); refine box_event ?hg (N := 2) ?hd (cs := #[.int .i64 a0_0, .int .i64 a0_1, .int .i64 a0_2]) (t := 32) ?hr ?_; (case hd => rfl); (case hg => rfl); (case hr => (go_simp; done)); intro gb114 hg w13 hbox hb; have BK114 := z1_A hbox; have GW114 := z1_A (z1_1 : w.heap.size ≤ gb114); have GE114 := z1_A (z1_1 : w.heap.size ≤ gb114); replace HB := z1_A (below_step HB.out hb); clear hb hbox hg; have hcz14_0 := zcf3 BK114.out); go_loopg [5] k (fun kq v5 w' => ∃ (x5_1 : Int), v5 = .int .i64 x5_1 ∧ Aside0 (spec_l11Order.l0 kq a1 x5_1 a0_0 a0_1 a0_2 = some r) ∧ Aside0 (kq ≤ k) ∧ Aside0 (w'.heap[gb114]? = some (.cells #[.int .i64 a0_0, .int .i64 a0_1, .int .i64 a0_2] 32 (0, 0))) ∧ Aside0 (Below w.heap.size w w')); case atStart => exact ⟨(0), z1_6, H', ⟨Nat.le_refl _⟩, ⟨BK114.out⟩, ⟨HB.out⟩⟩
  case round =>
  clear H' c3 c3b0 c3b1 c7 c7b0 c7b1 hcz14_0; obtain ⟨x5_1, rfl, HA, HK1, BK114, HB⟩ := hrel; cases gk with
  | zero => exact absurd HA.out (by simp [spec_l11Order.l0])
  | succ k1 => ?_
  have H := HA.out; clear HA; simp only [spec_l11Order.l0] at H; by_cases c15 : (wrap64 (a1 + x5_1)) < a0_1
  ·rw [if_pos c15] at H; have c15b0 := decide_eq_true c15; clear c15; have H' := z1_A H; clear H; have hcz16_0 := zcf3 BK114.out; go_wp2; go_roundg k1; (case measure => have := HK1.out; omega); case rel => exact ⟨(wrap64 (x5_1 + a0_2)), z1_6, H', ⟨by have := HK1.out; omega⟩, ⟨BK114.out⟩, ⟨HB.out⟩⟩
  rw [if_neg c15] at H; have c15b0 := decide_eq_false c15; clear c15; obtain rfl := Option.some.inj H; have hcz17_0 := zcf3 BK114.out; go_wp2; go_ret; exact ⟨z1_6, by exact HB.out⟩
 rw [if_pos c7] at H; have c7b0 : (a0_0 == 2) = true := beq_iff_eq.mpr c7; have c7b1 : (a0_0 != 2) = false := bne_eq_false_iff_eq.mpr c7; clear c7; by_cases c8 : a1 < a0_1
 ·rw [if_pos c8] at H; have c8b0 := decide_eq_true c8; clear c8; obtain rfl := Option.some.inj H; go_enter Try.func97, Try.ntmps97; go_wp2_with ((with_reducible refine gate_dst (N := 2) rfl ?_); refine box_event ?hg (N := 2) ?hd (cs := #[.int .i64 a0_0, .int .i64 a0_1, .int .i64 a0_2]) (t := 32) ?hr ?_; (case hd => rfl); (case hg => rfl); (case hr => (go_simp; done)); intro gb114 hg w9 hbox hb; have BK114 := z1_A hbox; have GW114 := z1_A (z1_1 : w.heap.size ≤ gb114); have GE114 := z1_A (z1_1 : w.heap.size ≤ gb114); replace HB := z1_A (below_step HB.out hb); clear hb hbox hg; have hcz10_0 := zcf3 BK114.out); go_ret; exact ⟨z1_6, by exact HB.out⟩
 rw [if_neg c8] at H; have c8b0 := decide_eq_false c8; clear c8; obtain rfl := Option.some.inj H; go_enter Try.func97, Try.ntmps97; go_wp2_with ((with_reducible refine gate_dst (N := 2) rfl ?_); refine box_event ?hg (N := 2) ?hd (cs := #[.int .i64 a0_0, .int .i64 a0_1, .int .i64 a0_2]) (t := 32) ?hr ?_; (case hd => rfl); (case hg => rfl); (case hr => (go_simp; done)); intro gb114 hg w11 hbox hb; have BK114 := z1_A hbox; have GW114 := z1_A (z1_1 : w.heap.size ≤ gb114); have GE114 := z1_A (z1_1 : w.heap.size ≤ gb114); replace HB := z1_A (below_step HB.out hb); clear hb hbox hg; have hcz12_0 := zcf3 BK114.out); go_ret; exact ⟨z1_6, by exact HB.out⟩
end Go.Proofs.Ytfgclhojgaaepaa.PFnLeads
