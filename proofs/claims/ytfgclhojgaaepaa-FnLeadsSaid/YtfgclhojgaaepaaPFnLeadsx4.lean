-- A text of this session (its program hook.py, over the kit's print.py): not a print of print.sh
-- THIN: one blank for two
import Derived.Test.YtfgclhojgaaepaaPFnLeadsx0
import Derived.Test.YtfgclhojgaaepaaPFnLeadsx1
import Derived.Test.YtfgclhojgaaepaaPFnLeadsx3
namespace Go.Proofs.Ytfgclhojgaaepaa.PFnLeads
open Go.RowKit Go.Proofs.YtfgclhojgaaepaaW.PrintWords Go.Proofs.YtfgclhojgaaepaaW.PrintLast Go.Proofs.YtfgclhojgaaepaaW.PrintMore
attribute [local go_sem] max2_int min2_int max_two min_two max_three min_three max_four min_four   -- for this text's walks alone
set_option linter.unusedVariables false
set_option linter.unusedSimpArgs false

-- SQUEEZED
abbrev z4_V (k : Nat) (v : Value) : Prop := some k ≠ v.ownBlock
theorem z4_A {p : Prop} (h : p) : Aside0 p := Aside0.mk h
theorem z4_1 {p : Prop} (h : p := by rw [hg]; exact (below_size HB.out)) : p := h
theorem z4_2 {p : Prop} (h : p := by (try simp only [List.map_toArray, List.map_cons, List.map_nil]); rfl) : p := h
theorem z4_3 {p : Prop} (h : p := by repeat (with_reducible first | exact HB.out | apply pw_below_drewN)) : p := h
theorem z4_4 {p : Prop} (h : p := by rw [hg]; exact Nat.ne_of_lt (blk_lt (g := gb189) (o := .cells #[.int .i64 a0_0, .slice A0_1 l0_1.length c0_1] 30 (0, 0)) BK189.out)) : p := h
theorem z4_5 {p : Prop} (h : p := by rw [hg]; exact Nat.ne_of_gt (blk_lt (g := gb189) (o := .cells #[.int .i64 a0_0, .slice A0_1 l0_1.length c0_1] 30 (0, 0)) BK189.out)) : p := h
theorem z4_6 {p : Prop} (h : p := by repeat (first | exact Drawn0.refl _ | apply Drawn0.step)) : p := h
theorem z4_7 {p : Prop} (h : p := by (with_reducible assumption)) : p := h
theorem z4_8 {p : Prop} (h : p := by rw [hg]; exact Nat.ne_of_lt (blk_lt (g := gb190) (o := .cells #[.int .i64 a1_0, .int .i64 a1_1, .int .i64 a1_2] 32 (0, 0)) BK190.out)) : p := h
theorem z4_9 {p : Prop} (h : p := by rw [hg]; exact Nat.ne_of_gt (blk_lt (g := gb190) (o := .cells #[.int .i64 a1_0, .int .i64 a1_1, .int .i64 a1_2] 32 (0, 0)) BK190.out)) : p := h
theorem z4_10 {p : Prop} (h : p := by rfl) : p := h
theorem z4_11 {p : Prop} (h : p := by repeat (with_reducible first | exact HB.out | apply pw_below_drewN | refine below_set ?_ GE199.out)) : p := h

/-! ### spec_ServiceOf: function 10 -/
def spec_ServiceOf.f (k : Nat) (a : Int) (b : List Int) (c : Int) (d : Int) (e : Int) (f : List Int) : Option (Int × Int × Bool) := (spec_l11Run.f k a b c d e f).bind fun g => (if g.2.2.2 = true then ((spec_l2Sum.f k f).bind fun h => (some (g.2.2.1, h, true))) else (some (0, 0, false)))
theorem spec_ServiceOf.mono : ∀ a0 a1 a2 a3 a4 a5 k, LeO (spec_ServiceOf.f k a0 a1 a2 a3 a4 a5) (spec_ServiceOf.f (k + 1) a0 a1 a2 a3 a4 a5) := by
 intro a0 a1 a2 a3 a4 a5 k
 unfold spec_ServiceOf.f
 repeat' with_reducible first | apply spec_l11Run.mono | apply spec_l2Sum.mono | exact LeO.refl _ | refine LeO.ite ?_ ?_ | refine LeO.bind ?_ (fun _ => ?_)
set_option maxHeartbeats 8000000 in
set_option maxRecDepth 100000 in
theorem spec_ServiceOf.calls (k : Nat) (a0_0 : Int) (A0_1 : Option Addr) (c0_1 : Nat) (l0_1 : List Int) (a1_0 : Int) (a1_1 : Int) (a1_2 : Int) (A2 : Option Addr) (c2 : Nat) (l2 : List Int) (r1 : Int) (r2 : Int) (r3 : Bool) (w : World) (hr0_1 : Kd.C (Kd.int .i64) w A0_1 l0_1.length l0_1) (hc0_1 : l0_1.length ≤ c0_1) (hr2 : Kd.C (Kd.int .i64) w A2 l2.length l2) (hc2 : l2.length ≤ c2) (h : spec_ServiceOf.f k a0_0 l0_1 a1_0 a1_1 a1_2 l2 = some (r1, r2, r3)) :
  Calls Try.prog 10 #[.agg #[.int .i64 a0_0, .slice A0_1 l0_1.length c0_1], .agg #[.int .i64 a1_0, .int .i64 a1_1, .int .i64 a1_2], .slice A2 l2.length c2] w fun e w' => e = .returned (.tuple #[.int .i64 r1, .int .i64 r2, .bool r3]) ∧ Below w.heap.size w w' := by
 have hu30 := Try.underlying30; have hu32 := Try.underlying32; have hu89 := Try.underlying89; have HR0_1 := z4_A hr0_1; have HC0_1 := z4_A hc0_1; clear hr0_1 hc0_1; have HR2 := z4_A hr2; have HC2 := z4_A hc2; clear hr2 hc2; have HB := z4_A (Below.refl w.heap.size w); unfold spec_ServiceOf.f at h; revert h; intro H; obtain ⟨⟨t191, t194, t197, t198⟩, A4, H⟩ := zB H; (try dsimp only at H); by_cases c5 : t198 = true
 ·subst c5; rw [if_pos rfl] at H; obtain ⟨t200, A6, H⟩ := zB H; simp only [Option.some.injEq, Prod.mk.injEq] at H; obtain ⟨rfl, rfl, rfl⟩ := H; go_enter Try.func10, Try.ntmps10; go_wp2_with (first | ((with_reducible refine gate_dst (N := 3) rfl ?_); refine box_event ?hg (N := 3) ?hd (cs := #[.int .i64 a0_0, .slice A0_1 l0_1.length c0_1]) (t := 30) ?hr ?_; (case hd => rfl); (case hg => rfl); (case hr => (go_simp; done)); intro gb189 hg w7 hbox hb; have BK189 := z4_A hbox; have GW189 := z4_A (z4_1 : w.heap.size ≤ gb189); have GE189 := z4_A (z4_1 : w.heap.size ≤ gb189); replace HB := z4_A (below_step HB.out hb); clear hb hbox hg) | ((with_reducible refine gate_dst (N := 4) rfl ?_); refine box_event ?hg (N := 4) ?hd (cs := #[.int .i64 a1_0, .int .i64 a1_1, .int .i64 a1_2]) (t := 32) ?hr ?_; (case hd => rfl); (case hg => rfl); (case hr => (go_simp; done)); intro gb190 hg w8 hbox hb; have BK190 := z4_A hbox; have GW190 := z4_A (z4_1 : w.heap.size ≤ gb190); have GE190 := z4_A (z4_1 : w.heap.size ≤ gb190); replace HB := z4_A (below_step HB.out hb); have NB189_190 := z4_A (z4_4 : gb189 ≠ gb190); have NB190_189 := z4_A (z4_5 : gb190 ≠ gb189); replace BK189 := z4_A (blk_below BK189.out hb); clear hb hbox hg; have hnb9 := NB189_190.out; have hnc9 := NB190_189.out; have hcz10_0 := zcf2 BK189.out; have hcz11_0 := zcf3 BK190.out) | (go_at_call 64; (with_reducible refine (spec_l11Run.calls k a0_0 (fun k_ => k_ < w.heap.size) _ _ l0_1 a1_0 a1_1 a1_2 _ _ l2 t191 t194 t197 true _ ?side1 ?side2 ?side3 A4.out).mono ?_); (case side1 => exact Kd.V_mk HC0_1.out (Kd.F_below (Kd.C_F (Kd.heap_int .i64) HR0_1.out) HB.out)); (case side2 => exact (Kd.C_below HR2.out HB.out)); (case side3 => exact HC2.out); rintro e w12 ⟨v192, v195, rfl, ho0, ho1, hb⟩; have HO193 := z4_A (Kd.R_lower (Kd.R_mono (ok' := fun k_ => z4_V k_ v195) ho0 (fun _ hk_ => hk_.2)) (below_size HB.out)); have HO196 := z4_A (Kd.R_lower (Kd.R_mono (ok' := fun k_ => z4_V k_ v192) ho1 (fun _ hk_ => hk_.2)) (below_size HB.out)); replace BK189 := z4_A (blk_below BK189.out hb); replace BK190 := z4_A (blk_below BK190.out hb); replace HB := z4_A (below_step HB.out hb); clear hb ho0 ho1) | ((with_reducible refine gate_dst (N := 9) rfl ?_); refine box_event ?hg (N := 9) ?hd (cs := #[.slice none 0 0, .slice none 0 0, .int .i64 0]) (t := 89) ?hr ?_; (case hd => rfl); (case hg => rfl); (case hr => (go_simp; done)); intro gb199 hg w13 hbox hb; replace HO193 := z4_A (Kd.R_below (by exact HO193.out) hb); replace HO196 := z4_A (Kd.R_below (by exact HO196.out) hb); have BK199 := z4_A hbox; have GW199 := z4_A (z4_1 : w.heap.size ≤ gb199); have GE199 := z4_A (z4_1 : w.heap.size ≤ gb199); replace HB := z4_A (below_step HB.out hb); have NB189_199 := z4_A (z4_4 : gb189 ≠ gb199); have NB199_189 := z4_A (z4_5 : gb199 ≠ gb189); replace BK189 := z4_A (blk_below BK189.out hb); have NB190_199 := z4_A (z4_8 : gb190 ≠ gb199); have NB199_190 := z4_A (z4_9 : gb199 ≠ gb190); replace BK190 := z4_A (blk_below BK190.out hb); clear hb hbox hg; obtain ⟨Ao14, co14, eo14⟩ := Kd.R_slice HO193.out; subst eo14; have hnb15 := NB199_189.out; have hnc15 := NB189_199.out; have hnb16 := NB199_190.out; have hnc16 := NB190_199.out; have hcz17_0 := zcf3 BK199.out; obtain ⟨Ao18, co18, eo18⟩ := Kd.R_slice HO196.out; subst eo18)); (repeat (go_quiet ((go_at_call 65; (with_reducible refine (spec_l2Sum.calls k _ _ l2 t200 _ ?side1 ?side2 A6.out).mono ?_); (case side1 => exact Kd.C_below HR2.out z4_11); (case side2 => exact HC2.out); rintro e w' ⟨rfl, ⟨nd, rfl⟩⟩; (try exact ⟨rfl, _, World.drewN_drewN _ _ _⟩))); try go_wp2_with (fail))); go_ret3; exact ⟨z4_10, z4_11⟩
 replace c5 := Bool.eq_false_iff.mpr c5; subst c5; rw [if_neg (show ¬ (false = true) by decide)] at H; simp only [Option.some.injEq, Prod.mk.injEq] at H; obtain ⟨rfl, rfl, rfl⟩ := H; go_enter Try.func10, Try.ntmps10; go_wp2_with (first | ((with_reducible refine gate_dst (N := 3) rfl ?_); refine box_event ?hg (N := 3) ?hd (cs := #[.int .i64 a0_0, .slice A0_1 l0_1.length c0_1]) (t := 30) ?hr ?_; (case hd => rfl); (case hg => rfl); (case hr => (go_simp; done)); intro gb189 hg w19 hbox hb; have BK189 := z4_A hbox; have GW189 := z4_A (z4_1 : w.heap.size ≤ gb189); have GE189 := z4_A (z4_1 : w.heap.size ≤ gb189); replace HB := z4_A (below_step HB.out hb); clear hb hbox hg) | ((with_reducible refine gate_dst (N := 4) rfl ?_); refine box_event ?hg (N := 4) ?hd (cs := #[.int .i64 a1_0, .int .i64 a1_1, .int .i64 a1_2]) (t := 32) ?hr ?_; (case hd => rfl); (case hg => rfl); (case hr => (go_simp; done)); intro gb190 hg w20 hbox hb; have BK190 := z4_A hbox; have GW190 := z4_A (z4_1 : w.heap.size ≤ gb190); have GE190 := z4_A (z4_1 : w.heap.size ≤ gb190); replace HB := z4_A (below_step HB.out hb); have NB189_190 := z4_A (z4_4 : gb189 ≠ gb190); have NB190_189 := z4_A (z4_5 : gb190 ≠ gb189); replace BK189 := z4_A (blk_below BK189.out hb); clear hb hbox hg; have hnb21 := NB189_190.out; have hnc21 := NB190_189.out; have hcz22_0 := zcf2 BK189.out; have hcz23_0 := zcf3 BK190.out) | (go_at_call 64; (with_reducible refine (spec_l11Run.calls k a0_0 (fun k_ => k_ < w.heap.size) _ _ l0_1 a1_0 a1_1 a1_2 _ _ l2 t191 t194 t197 false _ ?side1 ?side2 ?side3 A4.out).mono ?_); (case side1 => exact Kd.V_mk HC0_1.out (Kd.F_below (Kd.C_F (Kd.heap_int .i64) HR0_1.out) HB.out)); (case side2 => exact (Kd.C_below HR2.out HB.out)); (case side3 => exact HC2.out); rintro e w24 ⟨v192, v195, rfl, ho0, ho1, hb⟩; have HO193 := z4_A (Kd.R_lower (Kd.R_mono (ok' := fun k_ => z4_V k_ v195) ho0 (fun _ hk_ => hk_.2)) (below_size HB.out)); have HO196 := z4_A (Kd.R_lower (Kd.R_mono (ok' := fun k_ => z4_V k_ v192) ho1 (fun _ hk_ => hk_.2)) (below_size HB.out)); replace BK189 := z4_A (blk_below BK189.out hb); replace BK190 := z4_A (blk_below BK190.out hb); replace HB := z4_A (below_step HB.out hb); clear hb ho0 ho1) | ((with_reducible refine gate_dst (N := 9) rfl ?_); refine box_event ?hg (N := 9) ?hd (cs := #[.slice none 0 0, .slice none 0 0, .int .i64 0]) (t := 89) ?hr ?_; (case hd => rfl); (case hg => rfl); (case hr => (go_simp; done)); intro gb199 hg w25 hbox hb; replace HO193 := z4_A (Kd.R_below (by exact HO193.out) hb); replace HO196 := z4_A (Kd.R_below (by exact HO196.out) hb); have BK199 := z4_A hbox; have GW199 := z4_A (z4_1 : w.heap.size ≤ gb199); have GE199 := z4_A (z4_1 : w.heap.size ≤ gb199); replace HB := z4_A (below_step HB.out hb); have NB189_199 := z4_A (z4_4 : gb189 ≠ gb199); have NB199_189 := z4_A (z4_5 : gb199 ≠ gb189); replace BK189 := z4_A (blk_below BK189.out hb); have NB190_199 := z4_A (z4_8 : gb190 ≠ gb199); have NB199_190 := z4_A (z4_9 : gb199 ≠ gb190); replace BK190 := z4_A (blk_below BK190.out hb); clear hb hbox hg; obtain ⟨Ao26, co26, eo26⟩ := Kd.R_slice HO193.out; subst eo26; have hnb27 := NB199_189.out; have hnc27 := NB189_199.out; have hnb28 := NB199_190.out; have hnc28 := NB190_199.out; have hcz29_0 := zcf3 BK199.out; obtain ⟨Ao30, co30, eo30⟩ := Kd.R_slice HO196.out; subst eo30)); go_ret3; exact ⟨z4_10, by repeat (with_reducible first | exact HB.out | refine below_set ?_ GE199.out)⟩
/-! ### impl_within: function 91 -/
def impl_within.f (a : Int) (b : Int) (c : Int) : Option (Bool) := if a ≥ b then (some (decide (a ≤ c))) else (some false)
set_option maxHeartbeats 8000000 in
set_option maxRecDepth 100000 in
theorem impl_within.calls (a0 : Int) (a1 : Int) (a2 : Int) (r : Bool) (w : World) (h : impl_within.f a0 a1 a2 = some r) :
  Calls Try.prog 91 #[.int .i64 a0, .int .i64 a1, .int .i64 a2] w fun e w' => e = .returned (.bool r) ∧ Drawn0 w w' := by
 unfold impl_within.f at h; revert h; intro H; by_cases c4 : a0 ≥ a1
 ·rw [if_pos c4] at H; have c4b0 : decide (a1 ≤ a0) = true := decide_eq_true c4; clear c4; obtain rfl := Option.some.inj H; go_enter Try.func91, Try.ntmps91; go_wp2; go_ret; exact ⟨z4_10, by exact Drawn0.refl _⟩
 rw [if_neg c4] at H; have c4b0 : decide (a1 ≤ a0) = false := decide_eq_false c4; clear c4; obtain rfl := Option.some.inj H; go_enter Try.func91, Try.ntmps91; go_wp2; go_ret; exact ⟨z4_10, by exact Drawn0.refl _⟩
/-! ### impl_isStock: function 81 -/
def impl_isStock.f (a : Int) : Option (Bool) := (impl_within.f a (-200) 200).bind fun b => (some b)
set_option maxHeartbeats 8000000 in
set_option maxRecDepth 100000 in
theorem impl_isStock.calls (a0 : Int) (r : Bool) (w : World) (h : impl_isStock.f a0 = some r) :
  Calls Try.prog 81 #[.int .i64 a0] w fun e w' => e = .returned (.bool r) ∧ Drawn0 w w' := by
 unfold impl_isStock.f at h; revert h; intro H; obtain ⟨t201, A2, H⟩ := zB H; obtain rfl := Option.some.inj H; go_enter Try.func81, Try.ntmps81; go_wp2_with ((with_reducible refine gate_callee (f := 91) rfl ?_); refine goesL_ (some 4) rfl rfl Try.func91 (by kernel_rfl) rfl #[.int .i64 a0, .int .i64 (-200), .int .i64 200] rfl z4_2 ?_; (with_reducible refine (impl_within.calls a0 (-200) 200 t201 _ A2.out).mono ?_); rintro e w' ⟨rfl, ⟨nd, rfl⟩⟩; refine ⟨_, rfl, ?_⟩); go_ret; exact ⟨z4_10, z4_6⟩
/-! ### impl_allWithin: function 82 -/
def impl_allWithin.l0 : Nat → Int → Int → List Int → Int → Int → Option (Bool)
 | 0, _, _, _, _, _ => none
 | k + 1, a, b, c, d, e => if e < d then (if 0 ≤ e then (if e < (c.length : Int) then ((impl_within.f (rd c e) a b).bind fun f => (if f = true then (impl_allWithin.l0 k a b c d (wrap64 (e + 1))) else (some false))) else (none)) else (none)) else (some true)
def impl_allWithin.f (k : Nat) (a : List Int) (b : Int) (c : Int) : Option (Bool) := impl_allWithin.l0 k b c a (a.length : Int) 0
theorem impl_allWithin.mono_l : ∀ k, (∀ y0 y1 y2 y3 y4, LeO (impl_allWithin.l0 k y0 y1 y2 y3 y4) (impl_allWithin.l0 (k + 1) y0 y1 y2 y3 y4))
 | 0 => fun _ _ _ _ _ r h => by simp [impl_allWithin.l0] at h
 | k + 1 => by
  have ih0 := impl_allWithin.mono_l k
  ·intro y0 y1 y2 y3 y4
   unfold impl_allWithin.l0
   repeat' with_reducible first | apply ih0 | exact LeO.refl _ | refine LeO.ite ?_ ?_ | refine LeO.bind ?_ (fun _ => ?_)
theorem impl_allWithin.mono : ∀ a0 a1 a2 k, LeO (impl_allWithin.f k a0 a1 a2) (impl_allWithin.f (k + 1) a0 a1 a2) := by
 intro a0 a1 a2 k
 have ih0 := impl_allWithin.mono_l k
 unfold impl_allWithin.f
 repeat' with_reducible first | apply ih0
set_option maxHeartbeats 8000000 in
set_option maxRecDepth 100000 in
theorem impl_allWithin.calls (k : Nat) (A0 : Option Addr) (c0 : Nat) (l0 : List Int) (a1 : Int) (a2 : Int) (r : Bool) (w : World) (hr0 : Kd.C (Kd.int .i64) w A0 l0.length l0) (hc0 : l0.length ≤ c0) (h : impl_allWithin.f k l0 a1 a2 = some r) :
  Calls Try.prog 82 #[.slice A0 l0.length c0, .int .i64 a1, .int .i64 a2] w fun e w' => e = .returned (.bool r) ∧ Drawn0 w w' := by
 have HR0 := z4_A hr0; have HC0 := z4_A hc0; clear hr0 hc0; unfold impl_allWithin.f at h; revert h; intro H; have H' := z4_A H; clear H; go_enter Try.func82, Try.ntmps82; go_wp2; go_loopg [11] k (fun kq v11 w' => ∃ (x11_1 : Int), v11 = .int .i64 x11_1 ∧ Aside0 (impl_allWithin.l0 kq a1 a2 l0 (l0.length : Int) x11_1 = some r) ∧ Aside0 (kq ≤ k) ∧ Drawn0 w w'); case atStart => exact ⟨(0), z4_10, H', ⟨Nat.le_refl _⟩, by exact Drawn0.refl _⟩
 case round =>
 clear H'; obtain ⟨x11_1, rfl, HA, HK1, ⟨m1, rfl⟩⟩ := hrel; cases gk with
 | zero => exact absurd HA.out (by simp [impl_allWithin.l0])
 | succ k1 => ?_
 have H := HA.out; clear HA; simp only [impl_allWithin.l0] at H; by_cases c4 : x11_1 < (l0.length : Int); rotate_left
 ·rw [if_neg c4] at H; have c4b0 := decide_eq_false c4; clear c4; obtain rfl := Option.some.inj H; go_wp2; go_ret; exact ⟨z4_10, z4_6⟩
 rw [if_pos c4] at H; have c4b0 := decide_eq_true c4; clear c4; by_cases c5 : 0 ≤ x11_1; rotate_left
 ·rw [if_neg c5] at H; exact absurd H (by simp)
 rw [if_pos c5] at H; have c5b0 := decide_eq_true c5; clear c5; by_cases c6 : x11_1 < (l0.length : Int); rotate_left
 ·rw [if_neg c6] at H; exact absurd H (by simp)
 rw [if_pos c6] at H; have c6b0 := decide_eq_true c6; clear c6; obtain ⟨t203, A7, H⟩ := zB H; by_cases c8 : t203 = true
 ·subst c8; rw [if_pos rfl] at H; have H' := z4_A H; clear H; have p202 : 0 ≤ (x11_1 : Int) := of_decide_eq_true z4_7; have q202 : x11_1 < (l0.length : Int) := of_decide_eq_true z4_7; obtain ⟨ad202, e202, hx202_0⟩ := Kd.at_int HR0.out x11_1 p202 q202; cases e202; replace p202 := eq_true p202; replace q202 := eq_true q202; go_wp2_with ((with_reducible refine gate_callee (f := 91) rfl ?_); refine goesL_ (some 18) rfl rfl Try.func91 (by kernel_rfl) rfl #[.int .i64 (rd l0 x11_1), .int .i64 a1, .int .i64 a2] rfl z4_2 ?_; (with_reducible refine (impl_within.calls (rd l0 x11_1) a1 a2 true _ A7.out).mono ?_); rintro e w' ⟨rfl, ⟨nd, rfl⟩⟩; refine ⟨_, rfl, ?_⟩); go_roundg k1; (case measure => have := HK1.out; omega); case rel => exact ⟨(wrap64 (x11_1 + 1)), z4_10, H', ⟨by have := HK1.out; omega⟩, z4_6⟩
 replace c8 := Bool.eq_false_iff.mpr c8; subst c8; rw [if_neg (show ¬ (false = true) by decide)] at H; obtain rfl := Option.some.inj H; have p202 : 0 ≤ (x11_1 : Int) := of_decide_eq_true z4_7; have q202 : x11_1 < (l0.length : Int) := of_decide_eq_true z4_7; obtain ⟨ad202, e202, hx202_0⟩ := Kd.at_int HR0.out x11_1 p202 q202; cases e202; replace p202 := eq_true p202; replace q202 := eq_true q202; go_wp2_with ((with_reducible refine gate_callee (f := 91) rfl ?_); refine goesL_ (some 18) rfl rfl Try.func91 (by kernel_rfl) rfl #[.int .i64 (rd l0 x11_1), .int .i64 a1, .int .i64 a2] rfl z4_2 ?_; (with_reducible refine (impl_within.calls (rd l0 x11_1) a1 a2 false _ A7.out).mono ?_); rintro e w' ⟨rfl, ⟨nd, rfl⟩⟩; refine ⟨_, rfl, ?_⟩); go_ret; exact ⟨z4_10, z4_6⟩
/-! ### impl_IsFlow: function 36 -/
def impl_IsFlow.f (k : Nat) (a : Int) (b : List Int) : Option (Bool) := (impl_isStock.f a).bind fun c => (if c = true then (if (b.length : Int) ≤ 4 then ((impl_allWithin.f k b 0 40).bind fun d => (some d)) else (some false)) else (some false))
theorem impl_IsFlow.mono : ∀ a0 a1 k, LeO (impl_IsFlow.f k a0 a1) (impl_IsFlow.f (k + 1) a0 a1) := by
 intro a0 a1 k
 unfold impl_IsFlow.f
 repeat' with_reducible first | apply impl_allWithin.mono | exact LeO.refl _ | refine LeO.ite ?_ ?_ | refine LeO.bind ?_ (fun _ => ?_)
set_option maxHeartbeats 8000000 in
set_option maxRecDepth 100000 in
theorem impl_IsFlow.calls (k : Nat) (a0_0 : Int) (A0_1 : Option Addr) (c0_1 : Nat) (l0_1 : List Int) (r : Bool) (w : World) (hr0_1 : Kd.C (Kd.int .i64) w A0_1 l0_1.length l0_1) (hc0_1 : l0_1.length ≤ c0_1) (h : impl_IsFlow.f k a0_0 l0_1 = some r) :
  Calls Try.prog 36 #[.agg #[.int .i64 a0_0, .slice A0_1 l0_1.length c0_1]] w fun e w' => e = .returned (.bool r) ∧ Below w.heap.size w w' := by
 have hu30 := Try.underlying30; have HR0_1 := z4_A hr0_1; have HC0_1 := z4_A hc0_1; clear hr0_1 hc0_1; have HB := z4_A (Below.refl w.heap.size w); unfold impl_IsFlow.f at h; revert h; intro H; obtain ⟨t205, A2, H⟩ := zB H; by_cases c3 : t205 = true; rotate_left
 ·replace c3 := Bool.eq_false_iff.mpr c3; subst c3; rw [if_neg (show ¬ (false = true) by decide)] at H; obtain rfl := Option.some.inj H; go_enter Try.func36, Try.ntmps36; go_wp2_with (first | ((with_reducible refine gate_dst (N := 1) rfl ?_); (try (refine gate_guard z4_10 ?_; dsimp only)); refine box_event ?hg (N := 1) ?hd (cs := #[.int .i64 a0_0, .slice A0_1 l0_1.length c0_1]) (t := 30) ?hr ?_; (case hd => rfl); (case hg => rfl); (case hr => (go_simp; done)); intro gb204 hg w10 hbox hb; have BK204 := z4_A hbox; have GW204 := z4_A (z4_1 : w.heap.size ≤ gb204); have GE204 := z4_A (z4_1 : w.heap.size ≤ gb204); replace HB := z4_A (below_step HB.out hb); clear hb hbox hg; have hcz11_0 := zcf2 BK204.out) | ((with_reducible refine gate_callee (f := 81) rfl ?_); refine goesL_ (some 5) rfl rfl Try.func81 (by kernel_rfl) rfl #[.int .i64 a0_0] rfl z4_2 ?_; (with_reducible refine (impl_isStock.calls a0_0 false _ A2.out).mono ?_); rintro e w' ⟨rfl, ⟨nd, rfl⟩⟩; refine ⟨_, rfl, ?_⟩)); go_ret; exact ⟨z4_10, z4_3⟩
 subst c3; rw [if_pos rfl] at H; by_cases c4 : (l0_1.length : Int) ≤ 4
 ·rw [if_pos c4] at H; have c4b0 := decide_eq_true c4; have c4b1 : decide (l0_1.length ≤ 4) = true := decide_eq_true (by omega); clear c4; obtain ⟨t206, A5, H⟩ := zB H; obtain rfl := Option.some.inj H; go_enter Try.func36, Try.ntmps36; go_wp2_with (first | ((with_reducible refine gate_dst (N := 1) rfl ?_); (try (refine gate_guard z4_10 ?_; dsimp only)); refine box_event ?hg (N := 1) ?hd (cs := #[.int .i64 a0_0, .slice A0_1 l0_1.length c0_1]) (t := 30) ?hr ?_; (case hd => rfl); (case hg => rfl); (case hr => (go_simp; done)); intro gb204 hg w6 hbox hb; have BK204 := z4_A hbox; have GW204 := z4_A (z4_1 : w.heap.size ≤ gb204); have GE204 := z4_A (z4_1 : w.heap.size ≤ gb204); replace HB := z4_A (below_step HB.out hb); clear hb hbox hg; have hcz7_0 := zcf2 BK204.out) | ((with_reducible refine gate_callee (f := 81) rfl ?_); refine goesL_ (some 5) rfl rfl Try.func81 (by kernel_rfl) rfl #[.int .i64 a0_0] rfl z4_2 ?_; (with_reducible refine (impl_isStock.calls a0_0 true _ A2.out).mono ?_); rintro e w' ⟨rfl, ⟨nd, rfl⟩⟩; refine ⟨_, rfl, ?_⟩) | (go_at_call 82; (with_reducible refine (impl_allWithin.calls k _ _ l0_1 0 40 t206 _ ?side1 ?side2 A5.out).mono ?_); (case side1 => exact (Kd.C_below HR0_1.out z4_3)); (case side2 => exact HC0_1.out); rintro e w' ⟨rfl, ⟨nd, rfl⟩⟩)); go_ret; exact ⟨z4_10, z4_3⟩
 rw [if_neg c4] at H; have c4b0 := decide_eq_false c4; have c4b1 : decide (l0_1.length ≤ 4) = false := decide_eq_false (by omega); clear c4; obtain rfl := Option.some.inj H; go_enter Try.func36, Try.ntmps36; go_wp2_with (first | ((with_reducible refine gate_dst (N := 1) rfl ?_); (try (refine gate_guard z4_10 ?_; dsimp only)); refine box_event ?hg (N := 1) ?hd (cs := #[.int .i64 a0_0, .slice A0_1 l0_1.length c0_1]) (t := 30) ?hr ?_; (case hd => rfl); (case hg => rfl); (case hr => (go_simp; done)); intro gb204 hg w8 hbox hb; have BK204 := z4_A hbox; have GW204 := z4_A (z4_1 : w.heap.size ≤ gb204); have GE204 := z4_A (z4_1 : w.heap.size ≤ gb204); replace HB := z4_A (below_step HB.out hb); clear hb hbox hg; have hcz9_0 := zcf2 BK204.out) | ((with_reducible refine gate_callee (f := 81) rfl ?_); refine goesL_ (some 5) rfl rfl Try.func81 (by kernel_rfl) rfl #[.int .i64 a0_0] rfl z4_2 ?_; (with_reducible refine (impl_isStock.calls a0_0 true _ A2.out).mono ?_); rintro e w' ⟨rfl, ⟨nd, rfl⟩⟩; refine ⟨_, rfl, ?_⟩)); go_ret; exact ⟨z4_10, z4_3⟩
/-! ### impl_IsRule: function 48 -/
def impl_IsRule.j0 : Nat → Bool → Int → Int → Int → Option (Bool)
 | 0, _, _, _, _ => none
 | k + 1, a, b, c, d => if a = true then (some false) else (if b = 1 then (some true) else (if b = 2 then (some (decide (c ≤ d))) else (if b = 3 then ((impl_within.f d 1 40).bind fun e => (some e)) else (some false))))
def impl_IsRule.f (k : Nat) (a : Int) (b : Int) (c : Int) : Option (Bool) := (impl_isStock.f b).bind fun d => (if d = true then ((impl_isStock.f c).bind fun e => (impl_IsRule.j0 k (!e) a b c)) else (impl_IsRule.j0 k true a b c))
theorem impl_IsRule.mono_l : ∀ k, (∀ y0 y1 y2 y3, LeO (impl_IsRule.j0 k y0 y1 y2 y3) (impl_IsRule.j0 (k + 1) y0 y1 y2 y3))
 | 0 => fun _ _ _ _ r h => by simp [impl_IsRule.j0] at h
 | k + 1 => by
  have ih0 := impl_IsRule.mono_l k
  ·intro y0 y1 y2 y3
   unfold impl_IsRule.j0
   repeat' with_reducible first | exact LeO.refl _
theorem impl_IsRule.mono : ∀ a0 a1 a2 k, LeO (impl_IsRule.f k a0 a1 a2) (impl_IsRule.f (k + 1) a0 a1 a2) := by
 intro a0 a1 a2 k
 have ih0 := impl_IsRule.mono_l k
 unfold impl_IsRule.f
 repeat' with_reducible first | apply ih0 | exact LeO.refl _ | refine LeO.ite ?_ ?_ | refine LeO.bind ?_ (fun _ => ?_)
set_option maxHeartbeats 8000000 in
set_option maxRecDepth 100000 in
theorem impl_IsRule.calls (k : Nat) (a0_0 : Int) (a0_1 : Int) (a0_2 : Int) (r : Bool) (w : World) (h : impl_IsRule.f k a0_0 a0_1 a0_2 = some r) :
  Calls Try.prog 48 #[.agg #[.int .i64 a0_0, .int .i64 a0_1, .int .i64 a0_2]] w fun e w' => e = .returned (.bool r) ∧ Below w.heap.size w w' := by
 have hu32 := Try.underlying32; have HB := z4_A (Below.refl w.heap.size w); unfold impl_IsRule.f at h; revert h; intro H; have HC2 := z4_A H; clear H; go_enter Try.func48, Try.ntmps48; go_upto_region 1 with ((with_reducible refine gate_dst (N := 1) rfl ?_); refine box_event ?hg (N := 1) ?hd (cs := #[.int .i64 a0_0, .int .i64 a0_1, .int .i64 a0_2]) (t := 32) ?hr ?_; (case hd => rfl); (case hg => rfl); (case hr => (go_simp; done)); intro gb207 hg w3 hbox hb; have BK207 := z4_A hbox; have GW207 := z4_A (z4_1 : w.heap.size ≤ gb207); have GE207 := z4_A (z4_1 : w.heap.size ≤ gb207); replace HB := z4_A (below_step HB.out hb); clear hb hbox hg); go_cut [12] (fun v12 wc => ∃ (kq : Nat) (x12_1 : Bool), v12 = .bool x12_1 ∧ Aside0 (impl_IsRule.j0 kq x12_1 a0_0 a0_1 a0_2 = some r) ∧ Aside0 (kq ≤ k) ∧ Aside0 (wc.heap[gb207]? = some (.cells #[.int .i64 a0_0, .int .i64 a0_1, .int .i64 a0_2] 32 (0, 0))) ∧ Aside0 (Below w.heap.size w wc))
 case first =>
  have H := HC2.out; clear HC2; obtain ⟨t208, A4, H⟩ := zB H; by_cases c5 : t208 = true
  ·subst c5; rw [if_pos rfl] at H; obtain ⟨t209, A6, H⟩ := zB H; have H' := z4_A H; clear H; have hcz7_0 := zcf3 BK207.out; go_wp2_with (first | ((with_reducible refine gate_callee (f := 81) rfl ?_); refine goesL_ (some 5) rfl rfl Try.func81 (by kernel_rfl) rfl #[.int .i64 a0_1] rfl z4_2 ?_; (with_reducible refine (impl_isStock.calls a0_1 true _ A4.out).mono ?_); rintro e w' ⟨rfl, ⟨nd, rfl⟩⟩; refine ⟨_, rfl, ?_⟩) | (go_at_call 81; (with_reducible refine (impl_isStock.calls a0_2 t209 _ A6.out).mono ?_); rintro e w' ⟨rfl, ⟨nd, rfl⟩⟩)); go_meet; case rel => exact ⟨_, (!t209), z4_10, H', ⟨by omega⟩, ⟨by (with_reducible repeat (refine blk_drewN ?_ _)); exact BK207.out⟩, ⟨z4_3⟩⟩
  replace c5 := Bool.eq_false_iff.mpr c5; subst c5; rw [if_neg (show ¬ (false = true) by decide)] at H; have H' := z4_A H; clear H; have hcz8_0 := zcf3 BK207.out; go_wp2_with ((with_reducible refine gate_callee (f := 81) rfl ?_); refine goesL_ (some 5) rfl rfl Try.func81 (by kernel_rfl) rfl #[.int .i64 a0_1] rfl z4_2 ?_; (with_reducible refine (impl_isStock.calls a0_1 false _ A4.out).mono ?_); rintro e w' ⟨rfl, ⟨nd, rfl⟩⟩; refine ⟨_, rfl, ?_⟩); go_meet; case rel => exact ⟨_, (true), z4_10, H', ⟨by omega⟩, ⟨by (with_reducible repeat (refine blk_drewN ?_ _)); exact BK207.out⟩, ⟨z4_3⟩⟩
 case rest =>
 clear HC2; obtain ⟨kq, x12_1, rfl, HA, HJ1, BK207, HB⟩ := hcut; cases kq with
 | zero => exact absurd HA.out (by simp [impl_IsRule.j0])
 | succ kj1 => ?_
 have H := HA.out; clear HA; simp only [impl_IsRule.j0] at H; by_cases c9 : x12_1 = true
 ·subst c9; rw [if_pos rfl] at H; obtain rfl := Option.some.inj H; go_wp2; go_ret; exact ⟨z4_10, by exact HB.out⟩
 replace c9 := Bool.eq_false_iff.mpr c9; subst c9; rw [if_neg (show ¬ (false = true) by decide)] at H; by_cases c10 : a0_0 = 1
 ·rw [if_pos c10] at H; have c10b0 : (a0_0 == 1) = true := beq_iff_eq.mpr c10; have c10b1 : (a0_0 != 1) = false := bne_eq_false_iff_eq.mpr c10; clear c10; obtain rfl := Option.some.inj H; have hcz11_0 := zcf3 BK207.out; go_wp2; go_ret; exact ⟨z4_10, by exact HB.out⟩
 rw [if_neg c10] at H; have c10b0 : (a0_0 == 1) = false := beq_eq_false_iff_ne.mpr c10; have c10b1 : (a0_0 != 1) = true := bne_iff_ne.mpr c10; by_cases c12 : a0_0 = 2
 ·rw [if_pos c12] at H; have c12b0 : (a0_0 == 2) = true := beq_iff_eq.mpr c12; have c12b1 : (a0_0 != 2) = false := bne_eq_false_iff_eq.mpr c12; clear c12; obtain rfl := Option.some.inj H; have hcz13_0 := zcf3 BK207.out; go_wp2; go_ret; exact ⟨z4_10, by exact HB.out⟩
 rw [if_neg c12] at H; have c12b0 : (a0_0 == 2) = false := beq_eq_false_iff_ne.mpr c12; have c12b1 : (a0_0 != 2) = true := bne_iff_ne.mpr c12; by_cases c14 : a0_0 = 3
 ·rw [if_pos c14] at H; have c14b0 : (a0_0 == 3) = true := beq_iff_eq.mpr c14; have c14b1 : (a0_0 != 3) = false := bne_eq_false_iff_eq.mpr c14; clear c14; obtain ⟨t210, A15, H⟩ := zB H; obtain rfl := Option.some.inj H; have hcz16_0 := zcf3 BK207.out; go_wp2_with ((with_reducible refine gate_callee (f := 91) rfl ?_); refine goesL_ (some 28) rfl rfl Try.func91 (by kernel_rfl) rfl #[.int .i64 a0_2, .int .i64 1, .int .i64 40] rfl z4_2 ?_; (with_reducible refine (impl_within.calls a0_2 1 40 t210 _ A15.out).mono ?_); rintro e w' ⟨rfl, ⟨nd, rfl⟩⟩; refine ⟨_, rfl, ?_⟩); go_ret; exact ⟨z4_10, z4_3⟩
 rw [if_neg c14] at H; have c14b0 : (a0_0 == 3) = false := beq_eq_false_iff_ne.mpr c14; have c14b1 : (a0_0 != 3) = true := bne_iff_ne.mpr c14; obtain rfl := Option.some.inj H; have hcz17_0 := zcf3 BK207.out; go_wp2; go_ret; exact ⟨z4_10, by exact HB.out⟩
/-! ### impl_total: function 67 -/
def impl_total.l0 : Nat → Int → List Int → Int → Int → Option (Int)
 | 0, _, _, _, _ => none
 | k + 1, a, b, c, d => if d < c then (if 0 ≤ d then (if d < (b.length : Int) then (impl_total.l0 k (wrap64 (a + (rd b d))) b c (wrap64 (d + 1))) else (none)) else (none)) else (some a)
def impl_total.f (k : Nat) (a : List Int) : Option (Int) := impl_total.l0 k 0 a (a.length : Int) 0
theorem impl_total.mono_l : ∀ k, (∀ y0 y1 y2 y3, LeO (impl_total.l0 k y0 y1 y2 y3) (impl_total.l0 (k + 1) y0 y1 y2 y3))
 | 0 => fun _ _ _ _ r h => by simp [impl_total.l0] at h
 | k + 1 => by
  have ih0 := impl_total.mono_l k
  ·intro y0 y1 y2 y3
   unfold impl_total.l0
   repeat' with_reducible first | apply ih0 | exact LeO.refl _ | refine LeO.ite ?_ ?_
theorem impl_total.mono : ∀ a0 k, LeO (impl_total.f k a0) (impl_total.f (k + 1) a0) := by
 intro a0 k
 have ih0 := impl_total.mono_l k
 unfold impl_total.f
 repeat' with_reducible first | apply ih0
set_option maxHeartbeats 8000000 in
set_option maxRecDepth 100000 in
theorem impl_total.calls (k : Nat) (A0 : Option Addr) (c0 : Nat) (l0 : List Int) (r : Int) (w : World) (hr0 : Kd.C (Kd.int .i64) w A0 l0.length l0) (hc0 : l0.length ≤ c0) (h : impl_total.f k l0 = some r) :
  Calls Try.prog 67 #[.slice A0 l0.length c0] w fun e w' => e = .returned (.int .i64 r) ∧ Drawn0 w w' := by
 have HR0 := z4_A hr0; have HC0 := z4_A hc0; clear hr0 hc0; unfold impl_total.f at h; revert h; intro H; have H' := z4_A H; clear H; go_enter Try.func67, Try.ntmps67; go_wp2; go_loopg [3, 8] k (fun kq v3 v8 w' => ∃ (x3_1 : Int) (x8_1 : Int), v3 = .int .i64 x3_1 ∧ v8 = .int .i64 x8_1 ∧ Aside0 (impl_total.l0 kq x3_1 l0 (l0.length : Int) x8_1 = some r) ∧ Aside0 (kq ≤ k) ∧ Drawn0 w w'); case atStart => exact ⟨(0), (0), z4_10, z4_10, H', ⟨Nat.le_refl _⟩, by exact Drawn0.refl _⟩
 case round =>
 clear H'; obtain ⟨x3_1, x8_1, rfl, rfl, HA, HK1, ⟨m1, rfl⟩⟩ := hrel; cases gk with
 | zero => exact absurd HA.out (by simp [impl_total.l0])
 | succ k1 => ?_
 have H := HA.out; clear HA; simp only [impl_total.l0] at H; by_cases c2 : x8_1 < (l0.length : Int); rotate_left
 ·rw [if_neg c2] at H; have c2b0 := decide_eq_false c2; clear c2; obtain rfl := Option.some.inj H; go_wp2; go_ret; exact ⟨z4_10, z4_6⟩
 rw [if_pos c2] at H; have c2b0 := decide_eq_true c2; clear c2; by_cases c3 : 0 ≤ x8_1; rotate_left
 ·rw [if_neg c3] at H; exact absurd H (by simp)
 rw [if_pos c3] at H; have c3b0 := decide_eq_true c3; clear c3; by_cases c4 : x8_1 < (l0.length : Int); rotate_left
 ·rw [if_neg c4] at H; exact absurd H (by simp)
 rw [if_pos c4] at H; have c4b0 := decide_eq_true c4; clear c4; have H' := z4_A H; clear H; have p211 : 0 ≤ (x8_1 : Int) := of_decide_eq_true z4_7; have q211 : x8_1 < (l0.length : Int) := of_decide_eq_true z4_7; obtain ⟨ad211, e211, hx211_0⟩ := Kd.at_int HR0.out x8_1 p211 q211; cases e211; replace p211 := eq_true p211; replace q211 := eq_true q211; go_wp2; go_roundg k1; (case measure => have := HK1.out; omega); case rel => exact ⟨(wrap64 (x3_1 + (rd l0 x8_1))), (wrap64 (x8_1 + 1)), z4_10, z4_10, H', ⟨by have := HK1.out; omega⟩, z4_6⟩
/-! ### impl_copied: function 98 -/
def impl_copied.f (a : List Int) : Option (List Int) := (some (([] : List Int) : List Int)).bind fun b => (if b.length + a.length < 17592186044416 then (some (b ++ a)) else (none))
set_option maxHeartbeats 8000000 in
set_option maxRecDepth 100000 in
theorem impl_copied.calls (A0 : Option Addr) (c0 : Nat) (l0 : List Int) (r : List Int) (w : World) (hr0 : Kd.C (Kd.int .i64) w A0 l0.length l0) (hc0 : l0.length ≤ c0) (h : impl_copied.f l0 = some r) :
  Calls Try.prog 98 #[.slice A0 l0.length c0] w fun e w' => ∃ v0_ : Value, e = .returned (v0_) ∧ Kd.R (Kd.int .i64) 3 w' w.heap.size (fun _ => True) v0_ r ∧ Below w.heap.size w w' := by
 have HR0 := z4_A hr0; have HC0 := z4_A hc0; clear hr0 hc0; have HB := z4_A (Below.refl w.heap.size w); unfold impl_copied.f at h; revert h; intro H; obtain ⟨y212, hy212⟩ : ∃ y_ : List Int, y_ = (([] : List Int)) := ⟨_, rfl⟩; (replace H : (if y212.length + l0.length < 17592186044416 then (some (y212 ++ l0)) else (none)) = some r := by (have H2_ := (Option.bind_some _ _).symm.trans H; rw [hy212]; with_reducible exact H2_)); have Ny212 := z4_A hy212; clear hy212; by_cases c2 : y212.length + l0.length < 17592186044416; rotate_left
 ·rw [if_neg c2] at H; exact absurd H (by simp)
 rw [if_pos c2] at H; have LMc2 := z4_A c2; clear c2; obtain ⟨y215, hy215⟩ : ∃ y_ : List Int, y_ = (y212 ++ l0) := ⟨_, rfl⟩; (replace H : (some y215) = some r := by (rw [hy215]; with_reducible exact H)); have Ny215 := z4_A hy215; clear hy215; obtain rfl := Option.some.inj H; go_enter Try.func98, Try.ntmps98; go_wp2_with (first | ((with_reducible refine gate_dst (N := 3) rfl ?_); refine Kd.R_lit (Kd.int .i64) _ 3 ?hg (N := 3) ?hd (xs := ([] : List Int)) (inner := []) (ok := fun _ => True) (okp := fun _ => True) ?hr ?hp (fun _ hk => hk) trivial (Below.refl _ _) (Nat.le_refl _) (by simp) ?_; (case hd => rfl); (case hg => rfl); (case hr => (go_simp; done)); (case hp => exact (Reps.none _ _)); intro v213 w3 ho4 hb hg_ hnew_; clear hg_ hnew_; (rw [← Ny212.out] at ho4); have HO214 := z4_A (Kd.R_lower ho4 (below_size HB.out)); replace HB := z4_A (below_step HB.out hb); clear hb ho4) | ((with_reducible refine gate_builtin (b := .append) (xs := #[.tmp 3, .tmp 4]) rfl ?_); at_builtin; refine Kd.R_append_rows (Kd.int .i64) (w0 := w) w.heap.size rfl (.tmp 3) (.tmp 4) 22 3 (.int .i64 0) 8 rfl Try.underlying22 info3 rfl (by decide) (by omega) v213 y212 l0 _ _ _ (fun _ => True) (fun _ => False) rfl rfl ?aO ?aR (fun _ _ h => h) (fun _ h => h.elim) ?aF ?aB ?aS ?aL ?_; (case aR => exact (Kd.C_below HR0.out HB.out)); (case aB => exact HB.out); (case aF => exact (fun _ _ => trivial)); (case aO => exact (by exact HO214.out)); (case aS => exact (below_size HB.out)); (case aL => have := LMc2.out; omega); intro v216 w5 ho hb hg hat; rw [← Ny215.out] at ho; replace HB := z4_A hb; have HO217 := z4_A ho; clear HO214 ho hb hg hat)); go_ret; exact ⟨_, z4_10, by exact HO217.out, by exact HB.out⟩
end Go.Proofs.Ytfgclhojgaaepaa.PFnLeads
