-- A text of this session (its program hook.py, over the kit's print.py): not a print of print.sh
-- THIN: one blank for two
import Derived.Test.YtiniocecpgjikaaPFnProfitsx0
import Derived.Test.YtiniocecpgjikaaPFnProfitsx4
namespace Go.Proofs.Ytiniocecpgjikaa.PFnProfits
open Go.RowKit Go.Proofs.YtiniocecpgjikaaW.PrintWords Go.Proofs.YtiniocecpgjikaaW.PrintLast Go.Proofs.YtiniocecpgjikaaW.PrintMore
attribute [local go_sem] max2_int min2_int max_two min_two max_three min_three max_four min_four   -- for this text's walks alone
set_option linter.unusedVariables false
set_option linter.unusedSimpArgs false

-- SQUEEZED
private theorem bcz {w : World} {g : Nat} {t : TypeId} {cs : Array Value} (h : w.heap[g]? = some (.cells cs t (0, 0))) (i : Nat) {v : Value} (e : cs[i]? = some v) : w.cell? ⟨g, i, none⟩ = some v := (blk_cell h i).trans e
private theorem F4z {P : Nat → Prop} (h : ∀ i, P i) : P 0 ∧ P 1 ∧ P 2 ∧ P 3 := ⟨h 0, h 1, h 2, h 3⟩
theorem z5_A {p : Prop} (h : p) : Aside0 p := Aside0.mk h
theorem z5_C {p : Prop} (h : p := by repeat (first | exact zh | (with_reducible refine Kd.C_alloc ?_ _) | (with_reducible refine Kd.C_drewN ?_ _) | (with_reducible refine Kd.C_drew ?_))) : p := h
theorem z5_1 {p : Prop} (h : p := by repeat (first | (with_reducible first | exact HB.out | apply below_alloc | apply pw_below_drewN | apply below_drew1) | exact HB.out)) : p := h
theorem z5_2 {p : Prop} (h : p := by repeat (first | (with_reducible first | exact HB.out | apply below_alloc | apply pw_below_drewN | apply below_drew1 | refine below_set ?_ GE152.out) | exact HB.out)) : p := h
theorem z5_3 {p : Prop} (h : p := by (try simp only [List.map_toArray, List.map_cons, List.map_nil]); first | done | rfl | (simp only [List.length_drop, List.length_take]; rfl)) : p := h
theorem z5_4 {p : Prop} (h : p := by first | rfl | (simp [errW_none, errW_some] <;> rfl) | (simp [*, errW_none, errW_some] <;> rfl)) : p := h
theorem z5_5 {p : Prop} (h : p := by kernel_rfl) : p := h
theorem z5_6 {p : Prop} (h : p := by (with_reducible repeat (first | refine blk_drewN ?_ _ | refine blk_drew ?_ | refine blk_alloc ?_ _)); exact BK162.out) : p := h
theorem z5_7 {p : Prop} (h : p := by rw [hg]; exact (below_size z5_1)) : p := h
theorem z5_8 {p : Prop} (h : p := by repeat (first | (with_reducible first | exact HB.out | apply below_alloc | apply pw_below_drewN | apply below_drew1 | refine below_set ?_ GE162.out | refine below_set ?_ GE163.out) | exact HB.out)) : p := h
theorem z5_9 {p : Prop} (h : p := by repeat (first | (with_reducible first | exact HB.out | apply below_alloc | apply pw_below_drewN | apply below_drew1 | refine below_set ?_ GE162.out) | exact HB.out)) : p := h
theorem z5_10 {p : Prop} (h : p := by repeat (first | (with_reducible first | exact HB.out | apply below_alloc | apply pw_below_drewN | apply below_drew1 | refine below_set ?_ GE159.out) | exact HB.out)) : p := h
theorem z5_11 {p : Prop} (h : p := by rw [if_neg (show ¬ (false = true) by decide)] at H; exact H) : p := h
theorem z5_12 {p : Prop} (h : p := by repeat (first | exact Drawn0.refl _ | apply Drawn0.step)) : p := h
theorem z5_13 {p : Prop} (h : p := by rfl) : p := h
theorem z5_14 {p : Prop} (h : p := by (with_reducible repeat (first | refine blk_drewN ?_ _ | refine blk_drew ?_ | refine blk_alloc ?_ _)); exact BK163.out) : p := h
theorem z5_15 {p : Prop} (h : p := by first | rfl | (simp; done) | (simp [*]; done)) : p := h

/-! ### impl_IsMarket: function 42 -/
def impl_IsMarket.f (k : Nat) (l0_0 : List Int) (a0_1 : Int) (a0_2 : Int) (a0_3 : Int) : Option (Bool) := (impl_within.f (l0_0.length : Int) 1 9).bind fun t153 => (if t153 = true then ((impl_allWithin.f k l0_0 0 4).bind fun t154 => (if t154 = true then ((impl_total.f k l0_0).bind fun t155 => (if t155 > 0 then ((impl_within.f a0_1 1 99).bind fun t156 => (if t156 = true then ((impl_within.f a0_2 0 a0_1).bind fun t157 => (if t157 = true then ((impl_within.f a0_3 0 a0_2).bind fun t158 => (some t158)) else (some false))) else (some false))) else (some false))) else (some false))) else (some false))
theorem impl_IsMarket.mono : ∀ a0 a1 a2 a3 k, LeO (impl_IsMarket.f k a0 a1 a2 a3) (impl_IsMarket.f (k + 1) a0 a1 a2 a3) := by
 intro a0 a1 a2 a3 k
 unfold impl_IsMarket.f
 repeat' first
   | (with_reducible exact impl_allWithin.mono _ _ _ _)
   | (with_reducible exact impl_total.mono _ _)
   | (with_reducible exact LeO.refl _)
   | (with_reducible exact LeO.none _)
   | (with_reducible refine LeO.ite ?_ ?_)
   | (with_reducible refine LeO.bind ?_ (fun _ => ?_))
   | exact impl_allWithin.mono _ _ _ _
   | exact impl_total.mono _ _
   | exact LeO.none _
   | refine LeO.ite ?_ ?_
   | refine LeO.bind ?_ (fun _ => ?_)
set_option maxHeartbeats 8000000 in
set_option maxRecDepth 100000 in
theorem impl_IsMarket.calls (k : Nat) (A0_0 : Option Addr) (c0_0 : Nat) (l0_0 : List Int) (a0_1 : Int) (a0_2 : Int) (a0_3 : Int) (r : Bool) (w : World) (hr0_0 : Kd.C (Kd.int .i64) w A0_0 l0_0.length l0_0) (hc0_0 : l0_0.length ≤ c0_0) (h : impl_IsMarket.f k l0_0 a0_1 a0_2 a0_3 = some r) :
  Calls Try.prog 42 #[.agg #[.slice A0_0 l0_0.length c0_0, .int .i64 a0_1, .int .i64 a0_2, .int .i64 a0_3]] w fun e w' => e = .returned (.bool r) ∧ Below w.heap.size w w' := by
 have hu30 := Try.underlying30
 have HR0_0 := z5_A hr0_0
 have HC0_0 := z5_A hc0_0
 clear hr0_0 hc0_0
 have HB := z5_A (Below.refl w.heap.size w)
 have H : ((impl_within.f (l0_0.length : Int) 1 9).bind fun t153 => (if t153 = true then ((impl_allWithin.f k l0_0 0 4).bind fun t154 => (if t154 = true then ((impl_total.f k l0_0).bind fun t155 => (if t155 > 0 then ((impl_within.f a0_1 1 99).bind fun t156 => (if t156 = true then ((impl_within.f a0_2 0 a0_1).bind fun t157 => (if t157 = true then ((impl_within.f a0_3 0 a0_2).bind fun t158 => (some t158)) else (some false))) else (some false))) else (some false))) else (some false))) else (some false))) = some r := h
 clear h
 replace H := Option.bind_eq_some_iff.mp H
 obtain ⟨t153, A20, H⟩ := H
 (try dsimp only at H)
 have A2 := z5_A A20
 clear A20
 by_cases c3 : t153 = true
 ·subst c3
  have H1 : ((impl_allWithin.f k l0_0 0 4).bind fun t154 => (if t154 = true then ((impl_total.f k l0_0).bind fun t155 => (if t155 > 0 then ((impl_within.f a0_1 1 99).bind fun t156 => (if t156 = true then ((impl_within.f a0_2 0 a0_1).bind fun t157 => (if t157 = true then ((impl_within.f a0_3 0 a0_2).bind fun t158 => (some t158)) else (some false))) else (some false))) else (some false))) else (some false))) = some r := by rw [if_pos rfl] at H; exact H
  clear H
  have H := H1
  clear H1
  replace H := Option.bind_eq_some_iff.mp H
  obtain ⟨t154, A40, H⟩ := H
  (try dsimp only at H)
  have A4 := z5_A A40
  clear A40
  by_cases c5 : t154 = true
  ·subst c5
   have H1 : ((impl_total.f k l0_0).bind fun t155 => (if t155 > 0 then ((impl_within.f a0_1 1 99).bind fun t156 => (if t156 = true then ((impl_within.f a0_2 0 a0_1).bind fun t157 => (if t157 = true then ((impl_within.f a0_3 0 a0_2).bind fun t158 => (some t158)) else (some false))) else (some false))) else (some false))) = some r := by rw [if_pos rfl] at H; exact H
   clear H
   have H := H1
   clear H1
   replace H := Option.bind_eq_some_iff.mp H
   obtain ⟨t155, A60, H⟩ := H
   (try dsimp only at H)
   have A6 := z5_A A60
   clear A60
   by_cases c7 : t155 > 0
   ·rw [if_pos c7] at H
    have c7b0 : decide (0 < t155) = true := decide_eq_true c7
    clear c7
    replace H := Option.bind_eq_some_iff.mp H
    obtain ⟨t156, A80, H⟩ := H
    (try dsimp only at H)
    have A8 := z5_A A80
    clear A80
    by_cases c9 : t156 = true
    ·subst c9
     have H1 : ((impl_within.f a0_2 0 a0_1).bind fun t157 => (if t157 = true then ((impl_within.f a0_3 0 a0_2).bind fun t158 => (some t158)) else (some false))) = some r := by rw [if_pos rfl] at H; exact H
     clear H
     have H := H1
     clear H1
     replace H := Option.bind_eq_some_iff.mp H
     obtain ⟨t157, A100, H⟩ := H
     (try dsimp only at H)
     have A10 := z5_A A100
     clear A100
     by_cases c11 : t157 = true
     ·subst c11
      have H1 : ((impl_within.f a0_3 0 a0_2).bind fun t158 => (some t158)) = some r := by rw [if_pos rfl] at H; exact H
      clear H
      have H := H1
      clear H1
      replace H := Option.bind_eq_some_iff.mp H
      obtain ⟨t158, A120, H⟩ := H
      (try dsimp only at H)
      have A12 := z5_A A120
      clear A120
      obtain rfl := Option.some.inj H
      go_enter Try.func42, Try.ntmps42
      go_wp2_with (first | ((with_reducible refine gate_dst (N := 1) rfl ?_); refine box_event ?hg (N := 1) ?hd (cs := #[.slice A0_0 l0_0.length c0_0, .int .i64 a0_1, .int .i64 a0_2, .int .i64 a0_3]) (t := 30) ?hr ?_; (case hd => rfl); (case hg => rfl); (case hr => first | (go_simp; done) | (go_simp; rfl)); intro gb152 hg w13 hbox hb; have n0_ := z5_A (below_step z5_1 hb); have n1_ := z5_A (hbox); have n2_ := z5_A ((z5_7 : w.heap.size ≤ gb152)); have n3_ := z5_A ((z5_7 : w.heap.size ≤ gb152)); clear HB; revert n0_ n1_ n2_ n3_; intro HB BK152 GW152 GE152; clear hb hbox hg; have hcz14_0 : w13.cell? ⟨gb152, 0, none⟩ = some (.slice A0_0 l0_0.length c0_0) := bcz BK152.out 0 rfl; have hcz14_1 : w13.cell? ⟨gb152, 1, none⟩ = some (.int .i64 a0_1) := bcz BK152.out 1 rfl; have hcz14_2 : w13.cell? ⟨gb152, 2, none⟩ = some (.int .i64 a0_2) := bcz BK152.out 2 rfl; have hcz14_3 : w13.cell? ⟨gb152, 3, none⟩ = some (.int .i64 a0_3) := bcz BK152.out 3 rfl; obtain ⟨hfz14_0, hfz14_1, hfz14_2, hfz14_3⟩ := F4z (blk_frozen BK152.out)) | ((with_reducible refine gate_callee (f := 77) rfl ?_); refine goesL_ (some 6) rfl rfl Try.func77 z5_5 rfl #[.int .i64 (l0_0.length : Int), .int .i64 1, .int .i64 9] rfl z5_3 ?_; (with_reducible refine (impl_within.calls (l0_0.length : Int) 1 9 true _ A2.out).mono ?_); rintro e w' ⟨rfl, ⟨nd, rfl⟩⟩; refine ⟨_, rfl, ?_⟩) | (go_at_call 84; (with_reducible refine (impl_allWithin.calls k _ _ l0_0 0 4 true _ ?side1 ?side2 A4.out).mono ?_); (case side1 => repeat (first | exact (Kd.C_below HR0_0.out z5_2) | (with_reducible refine Kd.C_alloc ?_ _) | (with_reducible refine Kd.C_drewN ?_ _) | (with_reducible refine Kd.C_drew ?_))); (case side2 => exact HC0_0.out); rintro e w' ⟨rfl, ⟨nd, rfl⟩⟩) | (go_at_call 85; (with_reducible refine (impl_total.calls k _ _ l0_0 t155 _ ?side1 ?side2 A6.out).mono ?_); (case side1 => repeat (first | exact (Kd.C_below HR0_0.out z5_2) | (with_reducible refine Kd.C_alloc ?_ _) | (with_reducible refine Kd.C_drewN ?_ _) | (with_reducible refine Kd.C_drew ?_))); (case side2 => exact HC0_0.out); rintro e w' ⟨rfl, ⟨nd, rfl⟩⟩) | (go_at_call 77; (with_reducible refine (impl_within.calls a0_1 1 99 true _ A8.out).mono ?_); rintro e w' ⟨rfl, ⟨nd, rfl⟩⟩) | (go_at_call 77; (with_reducible refine (impl_within.calls a0_2 0 a0_1 true _ A10.out).mono ?_); rintro e w' ⟨rfl, ⟨nd, rfl⟩⟩) | (go_at_call 77; (with_reducible refine (impl_within.calls a0_3 0 a0_2 t158 _ A12.out).mono ?_); rintro e w' ⟨rfl, ⟨nd, rfl⟩⟩))
      go_ret
      exact ⟨z5_4, z5_2⟩
     ·replace c11 := Bool.eq_false_iff.mpr c11
      subst c11
      have H1 : (some false) = some r := z5_11
      clear H
      have H := H1
      clear H1
      obtain rfl := Option.some.inj H
      go_enter Try.func42, Try.ntmps42
      go_wp2_with (first | ((with_reducible refine gate_dst (N := 1) rfl ?_); refine box_event ?hg (N := 1) ?hd (cs := #[.slice A0_0 l0_0.length c0_0, .int .i64 a0_1, .int .i64 a0_2, .int .i64 a0_3]) (t := 30) ?hr ?_; (case hd => rfl); (case hg => rfl); (case hr => first | (go_simp; done) | (go_simp; rfl)); intro gb152 hg w15 hbox hb; have n0_ := z5_A (below_step z5_1 hb); have n1_ := z5_A (hbox); have n2_ := z5_A ((z5_7 : w.heap.size ≤ gb152)); have n3_ := z5_A ((z5_7 : w.heap.size ≤ gb152)); clear HB; revert n0_ n1_ n2_ n3_; intro HB BK152 GW152 GE152; clear hb hbox hg; have hcz16_0 : w15.cell? ⟨gb152, 0, none⟩ = some (.slice A0_0 l0_0.length c0_0) := bcz BK152.out 0 rfl; have hcz16_1 : w15.cell? ⟨gb152, 1, none⟩ = some (.int .i64 a0_1) := bcz BK152.out 1 rfl; have hcz16_2 : w15.cell? ⟨gb152, 2, none⟩ = some (.int .i64 a0_2) := bcz BK152.out 2 rfl; have hcz16_3 : w15.cell? ⟨gb152, 3, none⟩ = some (.int .i64 a0_3) := bcz BK152.out 3 rfl; obtain ⟨hfz16_0, hfz16_1, hfz16_2, hfz16_3⟩ := F4z (blk_frozen BK152.out)) | ((with_reducible refine gate_callee (f := 77) rfl ?_); refine goesL_ (some 6) rfl rfl Try.func77 z5_5 rfl #[.int .i64 (l0_0.length : Int), .int .i64 1, .int .i64 9] rfl z5_3 ?_; (with_reducible refine (impl_within.calls (l0_0.length : Int) 1 9 true _ A2.out).mono ?_); rintro e w' ⟨rfl, ⟨nd, rfl⟩⟩; refine ⟨_, rfl, ?_⟩) | (go_at_call 84; (with_reducible refine (impl_allWithin.calls k _ _ l0_0 0 4 true _ ?side1 ?side2 A4.out).mono ?_); (case side1 => repeat (first | exact (Kd.C_below HR0_0.out z5_2) | (with_reducible refine Kd.C_alloc ?_ _) | (with_reducible refine Kd.C_drewN ?_ _) | (with_reducible refine Kd.C_drew ?_))); (case side2 => exact HC0_0.out); rintro e w' ⟨rfl, ⟨nd, rfl⟩⟩) | (go_at_call 85; (with_reducible refine (impl_total.calls k _ _ l0_0 t155 _ ?side1 ?side2 A6.out).mono ?_); (case side1 => repeat (first | exact (Kd.C_below HR0_0.out z5_2) | (with_reducible refine Kd.C_alloc ?_ _) | (with_reducible refine Kd.C_drewN ?_ _) | (with_reducible refine Kd.C_drew ?_))); (case side2 => exact HC0_0.out); rintro e w' ⟨rfl, ⟨nd, rfl⟩⟩) | (go_at_call 77; (with_reducible refine (impl_within.calls a0_1 1 99 true _ A8.out).mono ?_); rintro e w' ⟨rfl, ⟨nd, rfl⟩⟩) | (go_at_call 77; (with_reducible refine (impl_within.calls a0_2 0 a0_1 false _ A10.out).mono ?_); rintro e w' ⟨rfl, ⟨nd, rfl⟩⟩))
      go_ret
      exact ⟨z5_4, z5_2⟩
    ·replace c9 := Bool.eq_false_iff.mpr c9
     subst c9
     have H1 : (some false) = some r := z5_11
     clear H
     have H := H1
     clear H1
     obtain rfl := Option.some.inj H
     go_enter Try.func42, Try.ntmps42
     go_wp2_with (first | ((with_reducible refine gate_dst (N := 1) rfl ?_); refine box_event ?hg (N := 1) ?hd (cs := #[.slice A0_0 l0_0.length c0_0, .int .i64 a0_1, .int .i64 a0_2, .int .i64 a0_3]) (t := 30) ?hr ?_; (case hd => rfl); (case hg => rfl); (case hr => first | (go_simp; done) | (go_simp; rfl)); intro gb152 hg w17 hbox hb; have n0_ := z5_A (below_step z5_1 hb); have n1_ := z5_A (hbox); have n2_ := z5_A ((z5_7 : w.heap.size ≤ gb152)); have n3_ := z5_A ((z5_7 : w.heap.size ≤ gb152)); clear HB; revert n0_ n1_ n2_ n3_; intro HB BK152 GW152 GE152; clear hb hbox hg; have hcz18_0 : w17.cell? ⟨gb152, 0, none⟩ = some (.slice A0_0 l0_0.length c0_0) := bcz BK152.out 0 rfl; have hcz18_1 : w17.cell? ⟨gb152, 1, none⟩ = some (.int .i64 a0_1) := bcz BK152.out 1 rfl; have hcz18_2 : w17.cell? ⟨gb152, 2, none⟩ = some (.int .i64 a0_2) := bcz BK152.out 2 rfl; have hcz18_3 : w17.cell? ⟨gb152, 3, none⟩ = some (.int .i64 a0_3) := bcz BK152.out 3 rfl; obtain ⟨hfz18_0, hfz18_1, hfz18_2, hfz18_3⟩ := F4z (blk_frozen BK152.out)) | ((with_reducible refine gate_callee (f := 77) rfl ?_); refine goesL_ (some 6) rfl rfl Try.func77 z5_5 rfl #[.int .i64 (l0_0.length : Int), .int .i64 1, .int .i64 9] rfl z5_3 ?_; (with_reducible refine (impl_within.calls (l0_0.length : Int) 1 9 true _ A2.out).mono ?_); rintro e w' ⟨rfl, ⟨nd, rfl⟩⟩; refine ⟨_, rfl, ?_⟩) | (go_at_call 84; (with_reducible refine (impl_allWithin.calls k _ _ l0_0 0 4 true _ ?side1 ?side2 A4.out).mono ?_); (case side1 => repeat (first | exact (Kd.C_below HR0_0.out z5_2) | (with_reducible refine Kd.C_alloc ?_ _) | (with_reducible refine Kd.C_drewN ?_ _) | (with_reducible refine Kd.C_drew ?_))); (case side2 => exact HC0_0.out); rintro e w' ⟨rfl, ⟨nd, rfl⟩⟩) | (go_at_call 85; (with_reducible refine (impl_total.calls k _ _ l0_0 t155 _ ?side1 ?side2 A6.out).mono ?_); (case side1 => repeat (first | exact (Kd.C_below HR0_0.out z5_2) | (with_reducible refine Kd.C_alloc ?_ _) | (with_reducible refine Kd.C_drewN ?_ _) | (with_reducible refine Kd.C_drew ?_))); (case side2 => exact HC0_0.out); rintro e w' ⟨rfl, ⟨nd, rfl⟩⟩) | (go_at_call 77; (with_reducible refine (impl_within.calls a0_1 1 99 false _ A8.out).mono ?_); rintro e w' ⟨rfl, ⟨nd, rfl⟩⟩))
     go_ret
     exact ⟨z5_4, z5_2⟩
   ·rw [if_neg c7] at H
    have c7b0 : decide (0 < t155) = false := decide_eq_false c7
    clear c7
    obtain rfl := Option.some.inj H
    go_enter Try.func42, Try.ntmps42
    go_wp2_with (first | ((with_reducible refine gate_dst (N := 1) rfl ?_); refine box_event ?hg (N := 1) ?hd (cs := #[.slice A0_0 l0_0.length c0_0, .int .i64 a0_1, .int .i64 a0_2, .int .i64 a0_3]) (t := 30) ?hr ?_; (case hd => rfl); (case hg => rfl); (case hr => first | (go_simp; done) | (go_simp; rfl)); intro gb152 hg w19 hbox hb; have n0_ := z5_A (below_step z5_1 hb); have n1_ := z5_A (hbox); have n2_ := z5_A ((z5_7 : w.heap.size ≤ gb152)); have n3_ := z5_A ((z5_7 : w.heap.size ≤ gb152)); clear HB; revert n0_ n1_ n2_ n3_; intro HB BK152 GW152 GE152; clear hb hbox hg; have hcz20_0 : w19.cell? ⟨gb152, 0, none⟩ = some (.slice A0_0 l0_0.length c0_0) := bcz BK152.out 0 rfl; have hcz20_1 : w19.cell? ⟨gb152, 1, none⟩ = some (.int .i64 a0_1) := bcz BK152.out 1 rfl; have hcz20_2 : w19.cell? ⟨gb152, 2, none⟩ = some (.int .i64 a0_2) := bcz BK152.out 2 rfl; have hcz20_3 : w19.cell? ⟨gb152, 3, none⟩ = some (.int .i64 a0_3) := bcz BK152.out 3 rfl; obtain ⟨hfz20_0, hfz20_1, hfz20_2, hfz20_3⟩ := F4z (blk_frozen BK152.out)) | ((with_reducible refine gate_callee (f := 77) rfl ?_); refine goesL_ (some 6) rfl rfl Try.func77 z5_5 rfl #[.int .i64 (l0_0.length : Int), .int .i64 1, .int .i64 9] rfl z5_3 ?_; (with_reducible refine (impl_within.calls (l0_0.length : Int) 1 9 true _ A2.out).mono ?_); rintro e w' ⟨rfl, ⟨nd, rfl⟩⟩; refine ⟨_, rfl, ?_⟩) | (go_at_call 84; (with_reducible refine (impl_allWithin.calls k _ _ l0_0 0 4 true _ ?side1 ?side2 A4.out).mono ?_); (case side1 => repeat (first | exact (Kd.C_below HR0_0.out z5_2) | (with_reducible refine Kd.C_alloc ?_ _) | (with_reducible refine Kd.C_drewN ?_ _) | (with_reducible refine Kd.C_drew ?_))); (case side2 => exact HC0_0.out); rintro e w' ⟨rfl, ⟨nd, rfl⟩⟩) | (go_at_call 85; (with_reducible refine (impl_total.calls k _ _ l0_0 t155 _ ?side1 ?side2 A6.out).mono ?_); (case side1 => repeat (first | exact (Kd.C_below HR0_0.out z5_2) | (with_reducible refine Kd.C_alloc ?_ _) | (with_reducible refine Kd.C_drewN ?_ _) | (with_reducible refine Kd.C_drew ?_))); (case side2 => exact HC0_0.out); rintro e w' ⟨rfl, ⟨nd, rfl⟩⟩))
    go_ret
    exact ⟨z5_4, z5_2⟩
  ·replace c5 := Bool.eq_false_iff.mpr c5
   subst c5
   have H1 : (some false) = some r := z5_11
   clear H
   have H := H1
   clear H1
   obtain rfl := Option.some.inj H
   go_enter Try.func42, Try.ntmps42
   go_wp2_with (first | ((with_reducible refine gate_dst (N := 1) rfl ?_); refine box_event ?hg (N := 1) ?hd (cs := #[.slice A0_0 l0_0.length c0_0, .int .i64 a0_1, .int .i64 a0_2, .int .i64 a0_3]) (t := 30) ?hr ?_; (case hd => rfl); (case hg => rfl); (case hr => first | (go_simp; done) | (go_simp; rfl)); intro gb152 hg w21 hbox hb; have n0_ := z5_A (below_step z5_1 hb); have n1_ := z5_A (hbox); have n2_ := z5_A ((z5_7 : w.heap.size ≤ gb152)); have n3_ := z5_A ((z5_7 : w.heap.size ≤ gb152)); clear HB; revert n0_ n1_ n2_ n3_; intro HB BK152 GW152 GE152; clear hb hbox hg; have hcz22_0 : w21.cell? ⟨gb152, 0, none⟩ = some (.slice A0_0 l0_0.length c0_0) := bcz BK152.out 0 rfl; have hcz22_1 : w21.cell? ⟨gb152, 1, none⟩ = some (.int .i64 a0_1) := bcz BK152.out 1 rfl; have hcz22_2 : w21.cell? ⟨gb152, 2, none⟩ = some (.int .i64 a0_2) := bcz BK152.out 2 rfl; have hcz22_3 : w21.cell? ⟨gb152, 3, none⟩ = some (.int .i64 a0_3) := bcz BK152.out 3 rfl; obtain ⟨hfz22_0, hfz22_1, hfz22_2, hfz22_3⟩ := F4z (blk_frozen BK152.out)) | ((with_reducible refine gate_callee (f := 77) rfl ?_); refine goesL_ (some 6) rfl rfl Try.func77 z5_5 rfl #[.int .i64 (l0_0.length : Int), .int .i64 1, .int .i64 9] rfl z5_3 ?_; (with_reducible refine (impl_within.calls (l0_0.length : Int) 1 9 true _ A2.out).mono ?_); rintro e w' ⟨rfl, ⟨nd, rfl⟩⟩; refine ⟨_, rfl, ?_⟩) | (go_at_call 84; (with_reducible refine (impl_allWithin.calls k _ _ l0_0 0 4 false _ ?side1 ?side2 A4.out).mono ?_); (case side1 => repeat (first | exact (Kd.C_below HR0_0.out z5_2) | (with_reducible refine Kd.C_alloc ?_ _) | (with_reducible refine Kd.C_drewN ?_ _) | (with_reducible refine Kd.C_drew ?_))); (case side2 => exact HC0_0.out); rintro e w' ⟨rfl, ⟨nd, rfl⟩⟩))
   go_ret
   exact ⟨z5_4, z5_2⟩
 ·replace c3 := Bool.eq_false_iff.mpr c3
  subst c3
  have H1 : (some false) = some r := z5_11
  clear H
  have H := H1
  clear H1
  obtain rfl := Option.some.inj H
  go_enter Try.func42, Try.ntmps42
  go_wp2_with (first | ((with_reducible refine gate_dst (N := 1) rfl ?_); refine box_event ?hg (N := 1) ?hd (cs := #[.slice A0_0 l0_0.length c0_0, .int .i64 a0_1, .int .i64 a0_2, .int .i64 a0_3]) (t := 30) ?hr ?_; (case hd => rfl); (case hg => rfl); (case hr => first | (go_simp; done) | (go_simp; rfl)); intro gb152 hg w23 hbox hb; have n0_ := z5_A (below_step z5_1 hb); have n1_ := z5_A (hbox); have n2_ := z5_A ((z5_7 : w.heap.size ≤ gb152)); have n3_ := z5_A ((z5_7 : w.heap.size ≤ gb152)); clear HB; revert n0_ n1_ n2_ n3_; intro HB BK152 GW152 GE152; clear hb hbox hg; have hcz24_0 : w23.cell? ⟨gb152, 0, none⟩ = some (.slice A0_0 l0_0.length c0_0) := bcz BK152.out 0 rfl; have hcz24_1 : w23.cell? ⟨gb152, 1, none⟩ = some (.int .i64 a0_1) := bcz BK152.out 1 rfl; have hcz24_2 : w23.cell? ⟨gb152, 2, none⟩ = some (.int .i64 a0_2) := bcz BK152.out 2 rfl; have hcz24_3 : w23.cell? ⟨gb152, 3, none⟩ = some (.int .i64 a0_3) := bcz BK152.out 3 rfl; obtain ⟨hfz24_0, hfz24_1, hfz24_2, hfz24_3⟩ := F4z (blk_frozen BK152.out)) | ((with_reducible refine gate_callee (f := 77) rfl ?_); refine goesL_ (some 6) rfl rfl Try.func77 z5_5 rfl #[.int .i64 (l0_0.length : Int), .int .i64 1, .int .i64 9] rfl z5_3 ?_; (with_reducible refine (impl_within.calls (l0_0.length : Int) 1 9 false _ A2.out).mono ?_); rintro e w' ⟨rfl, ⟨nd, rfl⟩⟩; refine ⟨_, rfl, ?_⟩))
  go_ret
  exact ⟨z5_4, z5_2⟩


/-! ### impl_Market_sales: function 97 (by hand) -/
def impl_Market_sales.l0 : Nat → Int → Int → List Int → Int → Int → Option (Int)
 | 0, _, _, _, _, _ => none
 | k + 1, q, x5, x8, x9, x10 => if x10 < x9 then (if 0 ≤ x10 then (if x10 < (x8.length : Int) then (impl_Market_sales.l0 k q (wrap64 (x5 + (wrap64 ((rd x8 x10) * (mn q x10))))) x8 x9 (wrap64 (x10 + 1))) else (none)) else (none)) else (some x5)
def impl_Market_sales.f (k : Nat) (l0_0 : List Int) (a0_1 : Int) (a0_2 : Int) (a0_3 : Int) (a1 : Int) : Option (Int) := impl_Market_sales.l0 k a1 0 l0_0 (l0_0.length : Int) 0
set_option maxHeartbeats 8000000 in
set_option maxRecDepth 100000 in
theorem impl_weighted_sales (k : Nat) (A0 : Option Addr) (c0 : Nat) (l0 : List Int) (q r : Int) (g : Nat) (w : World) (hr0 : Kd.C (Kd.int .i64) w A0 l0.length l0) (hc0 : l0.length ≤ c0) (hg : w.heap[g]? = some (.cells #[.int .i64 q] 3 (0, 0))) (h : impl_Market_sales.l0 k q 0 l0 (l0.length : Int) 0 = some r) :
  Calls Try.prog 110 #[.slice A0 l0.length c0, .func (.func 111) #[] #[.pointer (some ⟨g, 0, none⟩)]] w fun e w' => e = .returned (.int .i64 r) ∧ Drawn0 w w' := by
 have HR0 := z5_A hr0
 have HC0 := z5_A hc0
 clear hr0 hc0
 have hgc : w.cell? ⟨g, 0, none⟩ = some (.int .i64 q) := bcz hg 0 rfl
 clear hg
 have H' := z5_A h
 clear h
 go_enter Try.func110, Try.ntmps110
 go_wp2
 go_loopg [5, 10] k (fun kq v5 v10 w' => ∃ (x5_1 : Int) (x10_1 : Int), v5 = .int .i64 x5_1 ∧ v10 = .int .i64 x10_1 ∧ Aside0 (impl_Market_sales.l0 kq q x5_1 l0 (l0.length : Int) x10_1 = some r) ∧ Aside0 (kq ≤ k) ∧ Drawn0 w w')
 case atStart => exact ⟨(0), (0), z5_15, z5_15, H', ⟨Nat.le_refl _⟩, z5_12⟩
 case round =>
  clear H'
  obtain ⟨x3_1, x8_1, rfl, rfl, HA, HK1, ⟨m1, rfl⟩⟩ := hrel
  cases gk with
  | zero => exact absurd HA.out (by simp [impl_Market_sales.l0])
  | succ k1 =>
   have H := HA.out
   clear HA
   simp only [impl_Market_sales.l0] at H
   by_cases c2 : x8_1 < (l0.length : Int)
   ·rw [if_pos c2] at H
    have c2b0 : decide (x8_1 < (l0.length : Int)) = true := decide_eq_true c2
    clear c2
    by_cases c3 : 0 ≤ x8_1
    ·rw [if_pos c3] at H
     have c3b0 : decide (0 ≤ x8_1) = true := decide_eq_true c3
     clear c3
     by_cases c4 : x8_1 < (l0.length : Int)
     ·rw [if_pos c4] at H
      have c4b0 : decide (x8_1 < (l0.length : Int)) = true := decide_eq_true c4
      clear c4
      have H' := z5_A H
      clear H
      have p128 : 0 ≤ (x8_1 : Int) := of_decide_eq_true (by first | (with_reducible assumption) | assumption)
      have q128 : x8_1 < (l0.length : Int) := of_decide_eq_true (by first | (with_reducible assumption) | assumption)
      obtain ⟨ad128, e128, hx128_0⟩ := Kd.at_int HR0.out x8_1 p128 q128
      cases e128
      replace p128 := eq_true p128
      replace q128 := eq_true q128
      go_wp2_with (first | go_in)
      all_goals
       go_roundg k1
       case measure => have := HK1.out; omega
       case rel =>
        have em : mn q x8_1 = (if x8_1 < q then x8_1 else q) := rfl
        rw [em] at H'
        by_cases hq_ : x8_1 < q
        ·rw [if_pos hq_] at H'
         first | exact ⟨_, _, rfl, rfl, H', ⟨by have := HK1.out; omega⟩, z5_12⟩ | (exfalso; omega)
        ·rw [if_neg hq_] at H'
         first | exact ⟨_, _, rfl, rfl, H', ⟨by have := HK1.out; omega⟩, z5_12⟩ | (exfalso; omega)
     ·rw [if_neg c4] at H
      exact absurd H (by simp)
    ·rw [if_neg c3] at H
     exact absurd H (by simp)
   ·rw [if_neg c2] at H
    have c2b0 : decide (x8_1 < (l0.length : Int)) = false := decide_eq_false c2
    clear c2
    obtain rfl := Option.some.inj H
    go_wp2
    go_ret
    exact ⟨z5_15, z5_12⟩
theorem impl_Market_sales.mono_l : ∀ k, (∀ y0 y1 y2 y3 y4, LeO (impl_Market_sales.l0 k y0 y1 y2 y3 y4) (impl_Market_sales.l0 (k + 1) y0 y1 y2 y3 y4))
 | 0 => fun _ _ _ _ _ r h => by simp [impl_Market_sales.l0] at h
 | k + 1 => by
  have ih0 := impl_Market_sales.mono_l k
  intro y0 y1 y2 y3 y4
  unfold impl_Market_sales.l0
  repeat' first
   | (with_reducible exact ih0 _ _ _ _ _)
   | (with_reducible exact LeO.refl _)
   | (with_reducible exact LeO.none _)
   | (with_reducible refine LeO.ite ?_ ?_)
theorem impl_Market_sales.mono : ∀ a0 a1 a2 a3 a4 k, LeO (impl_Market_sales.f k a0 a1 a2 a3 a4) (impl_Market_sales.f (k + 1) a0 a1 a2 a3 a4) := by
 intro a0 a1 a2 a3 a4 k
 exact impl_Market_sales.mono_l k _ _ _ _ _
set_option maxHeartbeats 8000000 in
set_option maxRecDepth 100000 in
theorem impl_Market_sales.calls (k : Nat) (A0_0 : Option Addr) (c0_0 : Nat) (l0_0 : List Int) (a0_1 : Int) (a0_2 : Int) (a0_3 : Int) (a1 : Int) (r : Int) (w : World) (hr0_0 : Kd.C (Kd.int .i64) w A0_0 l0_0.length l0_0) (hc0_0 : l0_0.length ≤ c0_0) (h : impl_Market_sales.f k l0_0 a0_1 a0_2 a0_3 a1 = some r) :
  Calls Try.prog 97 #[.agg #[.slice A0_0 l0_0.length c0_0, .int .i64 a0_1, .int .i64 a0_2, .int .i64 a0_3], .int .i64 a1] w fun e w' => e = .returned (.int .i64 r) ∧ Below w.heap.size w w' := by
 have hmf : ∀ (fn : Fn) (first cap : Array Value) (w : World), (Instr.makeFunc fn first cap).run Try.prog w = .ok (.func fn first cap) w := fun _ _ _ _ => rfl
 have HR0_0 := z5_A hr0_0
 have HC0_0 := z5_A hc0_0
 have H := z5_A h
 clear hr0_0 hc0_0 h
 go_enter Try.func97, Try.ntmps97
 go_wp2_with fail
 refine (impl_weighted_sales k A0_0 c0_0 l0_0 a1 r _ _ (by have zh := HR0_0.out; exact z5_C) HC0_0.out ?hgb H.out).mono ?_
 case hgb => simpa using heap_alloc_new (w.alloc _) _
 rintro e w' ⟨rfl, ⟨nd, rfl⟩⟩
 go_wp2
 go_ret
 exact ⟨by first | rfl | (simp; done), by repeat (first | (with_reducible first | exact Below.refl _ _ | apply below_alloc | apply pw_below_drewN | apply below_drew1) | exact Below.refl _ _)⟩

/-! ### impl_Market_rest: function 107 -/
def impl_Market_rest.f (k : Nat) (l0_0 : List Int) (a0_1 : Int) (a0_2 : Int) (a0_3 : Int) (a1 : Int) : Option (Int) := (impl_total.f k l0_0).bind fun t160 => ((impl_Market_sales.f k l0_0 a0_1 a0_2 a0_3 a1).bind fun t161 => (some (wrap64 ((wrap64 (t160 * a1)) - t161))))
theorem impl_Market_rest.mono : ∀ a0 a1 a2 a3 a4 k, LeO (impl_Market_rest.f k a0 a1 a2 a3 a4) (impl_Market_rest.f (k + 1) a0 a1 a2 a3 a4) := by
 intro a0 a1 a2 a3 a4 k
 unfold impl_Market_rest.f
 repeat' first
   | (with_reducible exact impl_Market_sales.mono _ _ _ _ _ _)
   | (with_reducible exact impl_total.mono _ _)
   | (with_reducible exact LeO.refl _)
   | (with_reducible exact LeO.none _)
   | (with_reducible refine LeO.ite ?_ ?_)
   | (with_reducible refine LeO.bind ?_ (fun _ => ?_))
   | exact impl_Market_sales.mono _ _ _ _ _ _
   | exact impl_total.mono _ _
   | exact LeO.none _
   | refine LeO.ite ?_ ?_
   | refine LeO.bind ?_ (fun _ => ?_)
def impl_Market_rest.T1 : Bool × List (List Nat × List Nat) := (true, [([], []), ([0], [0]), ([1], [1]), ([], []), ([2, 3], [2, 3]), ([], []), ([], []), ([5, 6, 2], [5, 6]), ([4, 7], [4, 7]), ([8, 7, 0, 1, 2, 3, 4, 5, 6, 7, 8], [8])])
def impl_Market_rest.B1 : List Nat := [0, 1, 3, 0, 15, 0, 0, 103, 255, 511]
theorem impl_Market_rest.tab1 : rtab .any (opsOf Try.f107 1) = impl_Market_rest.T1 := z5_5
theorem impl_Market_rest.bits1 : waitsOk impl_Market_rest.T1.2 impl_Market_rest.B1 = true := z5_5
set_option maxHeartbeats 8000000 in
set_option maxRecDepth 100000 in
theorem impl_Market_rest.calls (k : Nat) (A0_0 : Option Addr) (c0_0 : Nat) (l0_0 : List Int) (a0_1 : Int) (a0_2 : Int) (a0_3 : Int) (a1 : Int) (r : Int) (w : World) (hr0_0 : Kd.C (Kd.int .i64) w A0_0 l0_0.length l0_0) (hc0_0 : l0_0.length ≤ c0_0) (h : impl_Market_rest.f k l0_0 a0_1 a0_2 a0_3 a1 = some r) :
  Calls Try.prog 107 #[.agg #[.slice A0_0 l0_0.length c0_0, .int .i64 a0_1, .int .i64 a0_2, .int .i64 a0_3], .int .i64 a1] w fun e w' => e = .returned (.int .i64 r) ∧ Below w.heap.size w w' := by
 have hu30 := Try.underlying30
 have HR0_0 := z5_A hr0_0
 have HC0_0 := z5_A hc0_0
 clear hr0_0 hc0_0
 have HB := z5_A (Below.refl w.heap.size w)
 have H : ((impl_total.f k l0_0).bind fun t160 => ((impl_Market_sales.f k l0_0 a0_1 a0_2 a0_3 a1).bind fun t161 => (some (wrap64 ((wrap64 (t160 * a1)) - t161))))) = some r := h
 clear h
 replace H := Option.bind_eq_some_iff.mp H
 obtain ⟨t160, A30, H⟩ := H
 (try dsimp only at H)
 have A3 := z5_A A30
 clear A30
 replace H := Option.bind_eq_some_iff.mp H
 obtain ⟨t161, A40, H⟩ := H
 (try dsimp only at H)
 have A4 := z5_A A40
 clear A40
 obtain rfl := Option.some.inj H
 go_enter Try.func107, Try.ntmps107
 try go_wp2_with (first | ((with_reducible refine gate_dst (N := 2) rfl ?_); refine box_event ?hg (N := 2) ?hd (cs := #[.slice A0_0 l0_0.length c0_0, .int .i64 a0_1, .int .i64 a0_2, .int .i64 a0_3]) (t := 30) ?hr ?_; (case hd => rfl); (case hg => rfl); (case hr => first | (go_simp; done) | (go_simp; rfl)); intro gb159 hg w5 hbox hb; have n0_ := z5_A (below_step z5_1 hb); have n1_ := z5_A (hbox); have n2_ := z5_A ((z5_7 : w.heap.size ≤ gb159)); have n3_ := z5_A ((z5_7 : w.heap.size ≤ gb159)); clear HB; revert n0_ n1_ n2_ n3_; intro HB BK159 GW159 GE159; clear hb hbox hg))
 have n0_ := z5_A (blk_drew BK159.out)
 have n1_ := z5_A (below_drew1 HB.out)
 clear BK159
 clear HB
 have BK159 := n0_
 have HB := n1_
 clear n0_ n1_
 refine start_ (n := 10) (S := fun w' => w'.cell? ⟨gb159, 0, none⟩ = some (.slice A0_0 l0_0.length c0_0) ∧ w'.cell? ⟨gb159, 1, none⟩ = some (.int .i64 a0_1) ∧ w'.cell? ⟨gb159, 2, none⟩ = some (.int .i64 a0_2) ∧ w'.cell? ⟨gb159, 3, none⟩ = some (.int .i64 a0_3)) (ds := []) #[false, false, false, false, false, false, false, false, false, false] z5_5 rfl rfl ⟨bcz BK159.out 0 rfl, bcz BK159.out 1 rfl, bcz BK159.out 2 rfl, bcz BK159.out 3 rfl⟩ (fun hHeld => ?_); refine with_tabW impl_Market_rest.tab1 impl_Market_rest.bits1 (fun HT_ HW_ => ?_)
 generalize w5.drew = w6 at BK159 HB hHeld ⊢
 refine pure_ (i := 0) (N := some 5) (v := ?_) (a' := ?_) #[true, false, false, false, false, false, false, false, false, false] rfl rfl (any_of HT_.out z5_5) (fun _ _ _ h => h) (Or.inl ⟨z5_13, ?_⟩) ?_ ?_
 rotate_left
 ·intro w'
  go_simp
  with_reducible rfl
 rotate_left
 ·simp only [Act.put, List.setIfInBounds_toArray, List.set_cons_zero, List.set_cons_succ, i64_w, i32_w]
  rfl
 refine pure_ (i := 3) (N := some 8) (v := ?_) (a' := ?_) #[true, false, false, true, false, false, false, false, false, false] rfl rfl (any_of HT_.out z5_5) (fun _ _ _ h => h) (Or.inl ⟨z5_13, ?_⟩) ?_ ?_
 rotate_left
 ·intro w'
  go_simp
  with_reducible rfl
 rotate_left
 ·simp only [Act.put, List.setIfInBounds_toArray, List.set_cons_zero, List.set_cons_succ, i64_w, i32_w]
  rfl
 refine pure_ (i := 6) (N := some 11) (v := ?_) (a' := ?_) #[true, false, false, true, false, false, true, false, false, false] rfl rfl (any_of HT_.out z5_5) (fun _ _ _ h => h) (Or.inl ⟨z5_13, ?_⟩) ?_ ?_
 rotate_left
 ·intro w'
  go_simp
  with_reducible rfl
 rotate_left
 ·simp only [Act.put, List.setIfInBounds_toArray, List.set_cons_zero, List.set_cons_succ, i64_w, i32_w]
  rfl
 refine take_ (i := 1) (N := some 6) (v := ?_) (a' := ?_) #[true, true, false, true, false, false, true, false, false, false] rfl rfl (take_ofW HT_.out HW_.out z5_5) (fun _ _ _ h => h) (Or.inl ⟨z5_13, ?_⟩) hHeld ?_ ?_
 rotate_left
 ·rintro w' ⟨s0, s1, s2, s3⟩
  go_simp
  with_reducible rfl
 rotate_left
 ·simp only [Act.put, List.setIfInBounds_toArray, List.set_cons_zero, List.set_cons_succ, i64_w, i32_w]
  rfl
 refine take_ (i := 5) (N := some 10) (v := ?_) (a' := ?_) #[true, true, false, true, false, true, true, false, false, false] rfl rfl (take_ofW HT_.out HW_.out z5_5) (fun _ _ _ h => h) (Or.inl ⟨z5_13, ?_⟩) hHeld ?_ ?_
 rotate_left
 ·rintro w' ⟨s0, s1, s2, s3⟩
  go_simp
  with_reducible rfl
 rotate_left
 ·simp only [Act.put, List.setIfInBounds_toArray, List.set_cons_zero, List.set_cons_succ, i64_w, i32_w]
  rfl
 refine one_ (i := 2) (N := some 7) #[true, true, true, true, false, true, true, false, false, false] rfl rfl (one_of HT_.out z5_5) (by decide) (fun K hK => ?_)
 refine goes_ Try.func85 z5_5 rfl #[.slice A0_0 l0_0.length c0_0] z5_13 rfl rfl z5_3 ?_
 with_reducible refine (impl_total.calls k _ _ l0_0 t160 _ ?side1 ?side2 A3.out).mono ?_
 (case side1 => have zh := (Kd.C_below HR0_0.out HB.out); exact z5_C)
 (case side2 => exact HC0_0.out)
 rintro e w' ⟨rfl, ⟨nd, rfl⟩⟩
 refine ⟨_, rfl, ?_⟩
 refine hK.out _ _ ⟨bcz BK159.out 0 rfl, bcz BK159.out 1 rfl, bcz BK159.out 2 rfl, bcz BK159.out 3 rfl⟩ (fun hHeld => ?_)
 clear hK K
 refine norm_ (a' := ?_) ?_ ?_
 rotate_left
 ·show Act.put _ (some 7) _ = _
  simp only [Act.put, List.setIfInBounds_toArray, List.set_cons_zero, List.set_cons_succ, i64_w, i32_w]
  rfl
 refine pure_ (i := 4) (N := some 9) (v := ?_) (a' := ?_) #[true, true, true, true, true, true, true, false, false, false] rfl rfl (any_of HT_.out z5_5) (fun _ _ _ h => h) (Or.inl ⟨z5_13, ?_⟩) ?_ ?_
 rotate_left
 ·intro w'
  go_simp
  with_reducible rfl
 rotate_left
 ·simp only [Act.put, List.setIfInBounds_toArray, List.set_cons_zero, List.set_cons_succ, i64_w, i32_w]
  rfl
 refine one_ (i := 7) (N := some 12) #[true, true, true, true, true, true, true, true, false, false] rfl rfl (one_of HT_.out z5_5) (by decide) (fun K hK => ?_)
 refine goes_ Try.func97 z5_5 rfl #[.agg #[.slice A0_0 l0_0.length c0_0, .int .i64 a0_1, .int .i64 a0_2, .int .i64 a0_3], .int .i64 a1] z5_13 rfl rfl z5_3 ?_
 with_reducible refine (impl_Market_sales.calls k _ _ l0_0 a0_1 a0_2 a0_3 a1 t161 _ ?side1 ?side2 A4.out).mono ?_
 (case side1 => repeat (first | exact (Kd.C_below HR0_0.out z5_10) | (with_reducible refine Kd.C_alloc ?_ _) | (with_reducible refine Kd.C_drewN ?_ _) | (with_reducible refine Kd.C_drew ?_)))
 (case side2 => exact HC0_0.out)
 rintro e w7 ⟨rfl, hb⟩
 refine ⟨_, rfl, ?_⟩
 have n0_ := z5_A (blk_below (g := gb159) (o := .cells #[.slice A0_0 l0_0.length c0_0, .int .i64 a0_1, .int .i64 a0_2, .int .i64 a0_3] 30 (0, 0)) (by (with_reducible repeat (first | refine blk_drewN ?_ _ | refine blk_drew ?_ | refine blk_alloc ?_ _)); exact BK159.out) hb)
 have n1_ := z5_A (below_step z5_10 hb)
 clear BK159
 clear HB
 have BK159 := n0_
 have HB := n1_
 clear n0_ n1_
 (try clear hb)
 (try clear hb2)
 (try clear hk)
 (try clear hi)
 refine hK.out _ _ ⟨bcz BK159.out 0 rfl, bcz BK159.out 1 rfl, bcz BK159.out 2 rfl, bcz BK159.out 3 rfl⟩ (fun hHeld => ?_)
 clear hK K
 refine norm_ (a' := ?_) ?_ ?_
 rotate_left
 ·show Act.put _ (some 12) _ = _
  simp only [Act.put, List.setIfInBounds_toArray, List.set_cons_zero, List.set_cons_succ, i64_w, i32_w]
  rfl
 refine pure_ (i := 8) (N := some 13) (v := ?_) (a' := ?_) #[true, true, true, true, true, true, true, true, true, false] rfl rfl (any_of HT_.out z5_5) (fun _ _ _ h => h) (Or.inl ⟨z5_13, ?_⟩) ?_ ?_
 rotate_left
 ·intro w'
  go_simp
  with_reducible rfl
 rotate_left
 ·simp only [Act.put, List.setIfInBounds_toArray, List.set_cons_zero, List.set_cons_succ, i64_w, i32_w]
  rfl
 refine pure_ (i := 9) (N := some 4) (v := ?_) (a' := ?_) #[true, true, true, true, true, true, true, true, true, true] rfl rfl (any_of HT_.out z5_5) (fun _ _ _ h => h) (Or.inl ⟨z5_13, ?_⟩) ?_ ?_
 rotate_left
 ·intro w'
  go_simp
  with_reducible rfl
 rotate_left
 ·simp only [Act.put, List.setIfInBounds_toArray, List.set_cons_zero, List.set_cons_succ, i64_w, i32_w]
  rfl
 refine done_ (done_of HT_.out z5_5) ?_
 try go_wp2
 go_ret
 exact ⟨z5_4, z5_10⟩

/-! ### impl_Market_seller: function 89 -/
def impl_Market_seller.f (k : Nat) (l0_0 : List Int) (a0_1 : Int) (a0_2 : Int) (a0_3 : Int) (a1_0 : Int) (a1_1 : Int) (a1_2 : Int) (a2 : Int) : Option (Int) := (impl_Market_sales.f k l0_0 a0_1 a0_2 a0_3 a2).bind fun t164 => ((impl_Market_rest.f k l0_0 a0_1 a0_2 a0_3 a2).bind fun t165 => ((impl_total.f k l0_0).bind fun t166 => (some (wrap64 ((wrap64 ((wrap64 (a1_2 * a0_1)) * t164)) + (wrap64 (100 * (wrap64 ((wrap64 ((wrap64 (a0_3 + a1_1)) * t165)) - (wrap64 ((wrap64 (a1_0 * t166)) * a2)))))))))))
theorem impl_Market_seller.mono : ∀ a0 a1 a2 a3 a4 a5 a6 a7 k, LeO (impl_Market_seller.f k a0 a1 a2 a3 a4 a5 a6 a7) (impl_Market_seller.f (k + 1) a0 a1 a2 a3 a4 a5 a6 a7) := by
 intro a0 a1 a2 a3 a4 a5 a6 a7 k
 unfold impl_Market_seller.f
 repeat' first
   | (with_reducible exact impl_Market_rest.mono _ _ _ _ _ _)
   | (with_reducible exact impl_Market_sales.mono _ _ _ _ _ _)
   | (with_reducible exact impl_total.mono _ _)
   | (with_reducible exact LeO.refl _)
   | (with_reducible exact LeO.none _)
   | (with_reducible refine LeO.ite ?_ ?_)
   | (with_reducible refine LeO.bind ?_ (fun _ => ?_))
   | exact impl_Market_rest.mono _ _ _ _ _ _
   | exact impl_Market_sales.mono _ _ _ _ _ _
   | exact impl_total.mono _ _
   | exact LeO.none _
   | refine LeO.ite ?_ ?_
   | refine LeO.bind ?_ (fun _ => ?_)
def impl_Market_seller.T1 : Bool × List (List Nat × List Nat) := (true, [([], []), ([0], [0]), ([], []), ([2], [2]), ([1, 3], [1, 3]), ([], []), ([], []), ([5, 6], [5, 6]), ([4, 7], [4, 7]), ([], []), ([9], [9]), ([], []), ([11], [11]), ([10, 12], [10, 12]), ([], []), ([], []), ([14, 15, 7], [14, 15]), ([13, 16], [13, 16]), ([], []), ([18], [18]), ([], []), ([20], [20]), ([21, 16], [21]), ([19, 22], [19, 22]), ([], []), ([23, 24], [23, 24]), ([17, 25], [17, 25]), ([26], [26]), ([8, 27], [8, 27]), ([28, 22, 0, 1, 2, 3, 4, 5, 6, 7, 8, 9, 10, 11, 12, 13, 14, 15, 16, 17, 18, 19, 20, 21, 22, 23, 24, 25, 26, 27, 28], [28])])
def impl_Market_seller.B1 : List Nat := [0, 1, 0, 4, 15, 0, 0, 96, 255, 0, 512, 0, 2048, 7680, 0, 0, 49376, 130784, 0, 262144, 0, 1048576, 3260640, 8241376, 0, 33407200, 67108576, 134217440, 268435455, 536870911]
theorem impl_Market_seller.tab1 : rtab .any (opsOf Try.f89 1) = impl_Market_seller.T1 := z5_5
theorem impl_Market_seller.bits1 : waitsOk impl_Market_seller.T1.2 impl_Market_seller.B1 = true := z5_5
set_option maxHeartbeats 8000000 in
set_option maxRecDepth 100000 in
theorem impl_Market_seller.calls (k : Nat) (A0_0 : Option Addr) (c0_0 : Nat) (l0_0 : List Int) (a0_1 : Int) (a0_2 : Int) (a0_3 : Int) (a1_0 : Int) (a1_1 : Int) (a1_2 : Int) (a2 : Int) (r : Int) (w : World) (hr0_0 : Kd.C (Kd.int .i64) w A0_0 l0_0.length l0_0) (hc0_0 : l0_0.length ≤ c0_0) (h : impl_Market_seller.f k l0_0 a0_1 a0_2 a0_3 a1_0 a1_1 a1_2 a2 = some r) :
  Calls Try.prog 89 #[.agg #[.slice A0_0 l0_0.length c0_0, .int .i64 a0_1, .int .i64 a0_2, .int .i64 a0_3], .agg #[.int .i64 a1_0, .int .i64 a1_1, .int .i64 a1_2], .int .i64 a2] w fun e w' => e = .returned (.int .i64 r) ∧ Below w.heap.size w w' := by
 have hu30 := Try.underlying30
 have hu32 := Try.underlying32
 have HR0_0 := z5_A hr0_0
 have HC0_0 := z5_A hc0_0
 clear hr0_0 hc0_0
 have HB := z5_A (Below.refl w.heap.size w)
 have H : ((impl_Market_sales.f k l0_0 a0_1 a0_2 a0_3 a2).bind fun t164 => ((impl_Market_rest.f k l0_0 a0_1 a0_2 a0_3 a2).bind fun t165 => ((impl_total.f k l0_0).bind fun t166 => (some (wrap64 ((wrap64 ((wrap64 (a1_2 * a0_1)) * t164)) + (wrap64 (100 * (wrap64 ((wrap64 ((wrap64 (a0_3 + a1_1)) * t165)) - (wrap64 ((wrap64 (a1_0 * t166)) * a2)))))))))))) = some r := h
 clear h
 replace H := Option.bind_eq_some_iff.mp H
 obtain ⟨t164, A40, H⟩ := H
 (try dsimp only at H)
 have A4 := z5_A A40
 clear A40
 replace H := Option.bind_eq_some_iff.mp H
 obtain ⟨t165, A50, H⟩ := H
 (try dsimp only at H)
 have A5 := z5_A A50
 clear A50
 replace H := Option.bind_eq_some_iff.mp H
 obtain ⟨t166, A60, H⟩ := H
 (try dsimp only at H)
 have A6 := z5_A A60
 clear A60
 obtain rfl := Option.some.inj H
 go_enter Try.func89, Try.ntmps89
 try go_wp2_with (first | ((with_reducible refine gate_dst (N := 3) rfl ?_); refine box_event ?hg (N := 3) ?hd (cs := #[.slice A0_0 l0_0.length c0_0, .int .i64 a0_1, .int .i64 a0_2, .int .i64 a0_3]) (t := 30) ?hr ?_; (case hd => rfl); (case hg => rfl); (case hr => first | (go_simp; done) | (go_simp; rfl)); intro gb162 hg w7 hbox hb; have n0_ := z5_A (below_step z5_1 hb); have n1_ := z5_A (hbox); have n2_ := z5_A ((z5_7 : w.heap.size ≤ gb162)); have n3_ := z5_A ((z5_7 : w.heap.size ≤ gb162)); clear HB; revert n0_ n1_ n2_ n3_; intro HB BK162 GW162 GE162; clear hb hbox hg) | ((with_reducible refine gate_dst (N := 4) rfl ?_); refine box_event ?hg (N := 4) ?hd (cs := #[.int .i64 a1_0, .int .i64 a1_1, .int .i64 a1_2]) (t := 32) ?hr ?_; (case hd => rfl); (case hg => rfl); (case hr => first | (go_simp; done) | (go_simp; rfl)); intro gb163 hg w8 hbox hb; have n0_ := z5_A (blk_below (g := gb162) (o := .cells #[.slice A0_0 l0_0.length c0_0, .int .i64 a0_1, .int .i64 a0_2, .int .i64 a0_3] 30 (0, 0)) z5_6 hb); have n1_ := z5_A (below_step z5_9 hb); have n2_ := z5_A (hbox); have n3_ := z5_A ((by rw [hg]; exact (below_size z5_9) : w.heap.size ≤ gb163)); have n4_ := z5_A ((by rw [hg]; exact (below_size z5_9) : w.heap.size ≤ gb163)); have n5_ := z5_A ((by rw [hg]; exact Nat.ne_of_lt (blk_lt (g := gb162) (o := .cells #[.slice A0_0 l0_0.length c0_0, .int .i64 a0_1, .int .i64 a0_2, .int .i64 a0_3] 30 (0, 0)) z5_6) : gb162 ≠ gb163)); have n6_ := z5_A ((by rw [hg]; exact Nat.ne_of_gt (blk_lt (g := gb162) (o := .cells #[.slice A0_0 l0_0.length c0_0, .int .i64 a0_1, .int .i64 a0_2, .int .i64 a0_3] 30 (0, 0)) z5_6) : gb163 ≠ gb162)); clear BK162 HB; revert n0_ n1_ n2_ n3_ n4_ n5_ n6_; intro BK162 HB BK163 GW163 GE163 NB162_163 NB163_162; clear hb hbox hg))
 have n0_ := z5_A (blk_drew BK162.out)
 have n1_ := z5_A (blk_drew BK163.out)
 have n2_ := z5_A (below_drew1 HB.out)
 clear BK162
 clear BK163
 clear HB
 have BK162 := n0_
 have BK163 := n1_
 have HB := n2_
 clear n0_ n1_ n2_
 refine start_ (n := 30) (S := fun w' => w'.cell? ⟨gb163, 0, none⟩ = some (.int .i64 a1_0) ∧ w'.cell? ⟨gb163, 1, none⟩ = some (.int .i64 a1_1) ∧ w'.cell? ⟨gb163, 2, none⟩ = some (.int .i64 a1_2) ∧ w'.cell? ⟨gb162, 0, none⟩ = some (.slice A0_0 l0_0.length c0_0) ∧ w'.cell? ⟨gb162, 1, none⟩ = some (.int .i64 a0_1) ∧ w'.cell? ⟨gb162, 2, none⟩ = some (.int .i64 a0_2) ∧ w'.cell? ⟨gb162, 3, none⟩ = some (.int .i64 a0_3)) (ds := []) #[false, false, false, false, false, false, false, false, false, false, false, false, false, false, false, false, false, false, false, false, false, false, false, false, false, false, false, false, false, false] z5_5 rfl rfl ⟨bcz BK163.out 0 rfl, bcz BK163.out 1 rfl, bcz BK163.out 2 rfl, bcz BK162.out 0 rfl, bcz BK162.out 1 rfl, bcz BK162.out 2 rfl, bcz BK162.out 3 rfl⟩ (fun hHeld => ?_); refine with_tabW impl_Market_seller.tab1 impl_Market_seller.bits1 (fun HT_ HW_ => ?_)
 generalize w8.drew = w9 at BK162 BK163 HB hHeld ⊢
 refine pure_ (i := 0) (N := some 7) (v := ?_) (a' := ?_) #[true, false, false, false, false, false, false, false, false, false, false, false, false, false, false, false, false, false, false, false, false, false, false, false, false, false, false, false, false, false] rfl rfl (any_of HT_.out z5_5) (fun _ _ _ h => h) (Or.inl ⟨z5_13, ?_⟩) ?_ ?_
 rotate_left
 ·intro w'
  go_simp
  with_reducible rfl
 rotate_left
 ·simp only [Act.put, List.setIfInBounds_toArray, List.set_cons_zero, List.set_cons_succ, i64_w, i32_w]
  rfl
 refine pure_ (i := 2) (N := some 9) (v := ?_) (a' := ?_) #[true, false, true, false, false, false, false, false, false, false, false, false, false, false, false, false, false, false, false, false, false, false, false, false, false, false, false, false, false, false] rfl rfl (any_of HT_.out z5_5) (fun _ _ _ h => h) (Or.inl ⟨z5_13, ?_⟩) ?_ ?_
 rotate_left
 ·intro w'
  go_simp
  with_reducible rfl
 rotate_left
 ·simp only [Act.put, List.setIfInBounds_toArray, List.set_cons_zero, List.set_cons_succ, i64_w, i32_w]
  rfl
 refine pure_ (i := 6) (N := some 13) (v := ?_) (a' := ?_) #[true, false, true, false, false, false, true, false, false, false, false, false, false, false, false, false, false, false, false, false, false, false, false, false, false, false, false, false, false, false] rfl rfl (any_of HT_.out z5_5) (fun _ _ _ h => h) (Or.inl ⟨z5_13, ?_⟩) ?_ ?_
 rotate_left
 ·intro w'
  go_simp
  with_reducible rfl
 rotate_left
 ·simp only [Act.put, List.setIfInBounds_toArray, List.set_cons_zero, List.set_cons_succ, i64_w, i32_w]
  rfl
 refine pure_ (i := 9) (N := some 16) (v := ?_) (a' := ?_) #[true, false, true, false, false, false, true, false, false, true, false, false, false, false, false, false, false, false, false, false, false, false, false, false, false, false, false, false, false, false] rfl rfl (any_of HT_.out z5_5) (fun _ _ _ h => h) (Or.inl ⟨z5_13, ?_⟩) ?_ ?_
 rotate_left
 ·intro w'
  go_simp
  with_reducible rfl
 rotate_left
 ·simp only [Act.put, List.setIfInBounds_toArray, List.set_cons_zero, List.set_cons_succ, i64_w, i32_w]
  rfl
 refine pure_ (i := 11) (N := some 18) (v := ?_) (a' := ?_) #[true, false, true, false, false, false, true, false, false, true, false, true, false, false, false, false, false, false, false, false, false, false, false, false, false, false, false, false, false, false] rfl rfl (any_of HT_.out z5_5) (fun _ _ _ h => h) (Or.inl ⟨z5_13, ?_⟩) ?_ ?_
 rotate_left
 ·intro w'
  go_simp
  with_reducible rfl
 rotate_left
 ·simp only [Act.put, List.setIfInBounds_toArray, List.set_cons_zero, List.set_cons_succ, i64_w, i32_w]
  rfl
 refine pure_ (i := 15) (N := some 22) (v := ?_) (a' := ?_) #[true, false, true, false, false, false, true, false, false, true, false, true, false, false, false, true, false, false, false, false, false, false, false, false, false, false, false, false, false, false] rfl rfl (any_of HT_.out z5_5) (fun _ _ _ h => h) (Or.inl ⟨z5_13, ?_⟩) ?_ ?_
 rotate_left
 ·intro w'
  go_simp
  with_reducible rfl
 rotate_left
 ·simp only [Act.put, List.setIfInBounds_toArray, List.set_cons_zero, List.set_cons_succ, i64_w, i32_w]
  rfl
 refine pure_ (i := 18) (N := some 25) (v := ?_) (a' := ?_) #[true, false, true, false, false, false, true, false, false, true, false, true, false, false, false, true, false, false, true, false, false, false, false, false, false, false, false, false, false, false] rfl rfl (any_of HT_.out z5_5) (fun _ _ _ h => h) (Or.inl ⟨z5_13, ?_⟩) ?_ ?_
 rotate_left
 ·intro w'
  go_simp
  with_reducible rfl
 rotate_left
 ·simp only [Act.put, List.setIfInBounds_toArray, List.set_cons_zero, List.set_cons_succ, i64_w, i32_w]
  rfl
 refine pure_ (i := 20) (N := some 27) (v := ?_) (a' := ?_) #[true, false, true, false, false, false, true, false, false, true, false, true, false, false, false, true, false, false, true, false, true, false, false, false, false, false, false, false, false, false] rfl rfl (any_of HT_.out z5_5) (fun _ _ _ h => h) (Or.inl ⟨z5_13, ?_⟩) ?_ ?_
 rotate_left
 ·intro w'
  go_simp
  with_reducible rfl
 rotate_left
 ·simp only [Act.put, List.setIfInBounds_toArray, List.set_cons_zero, List.set_cons_succ, i64_w, i32_w]
  rfl
 refine pure_ (i := 24) (N := some 31) (v := ?_) (a' := ?_) #[true, false, true, false, false, false, true, false, false, true, false, true, false, false, false, true, false, false, true, false, true, false, false, false, true, false, false, false, false, false] rfl rfl (any_of HT_.out z5_5) (fun _ _ _ h => h) (Or.inl ⟨z5_13, ?_⟩) ?_ ?_
 rotate_left
 ·intro w'
  go_simp
  with_reducible rfl
 rotate_left
 ·simp only [Act.put, List.setIfInBounds_toArray, List.set_cons_zero, List.set_cons_succ, i64_w, i32_w]
  rfl
 refine take_ (i := 1) (N := some 8) (v := ?_) (a' := ?_) #[true, true, true, false, false, false, true, false, false, true, false, true, false, false, false, true, false, false, true, false, true, false, false, false, true, false, false, false, false, false] rfl rfl (take_ofW HT_.out HW_.out z5_5) (fun _ _ _ h => h) (Or.inl ⟨z5_13, ?_⟩) hHeld ?_ ?_
 rotate_left
 ·rintro w' ⟨s0, s1, s2, s3, s4, s5, s6⟩
  go_simp
  with_reducible rfl
 rotate_left
 ·simp only [Act.put, List.setIfInBounds_toArray, List.set_cons_zero, List.set_cons_succ, i64_w, i32_w]
  rfl
 refine take_ (i := 3) (N := some 10) (v := ?_) (a' := ?_) #[true, true, true, true, false, false, true, false, false, true, false, true, false, false, false, true, false, false, true, false, true, false, false, false, true, false, false, false, false, false] rfl rfl (take_ofW HT_.out HW_.out z5_5) (fun _ _ _ h => h) (Or.inl ⟨z5_13, ?_⟩) hHeld ?_ ?_
 rotate_left
 ·rintro w' ⟨s0, s1, s2, s3, s4, s5, s6⟩
  go_simp
  with_reducible rfl
 rotate_left
 ·simp only [Act.put, List.setIfInBounds_toArray, List.set_cons_zero, List.set_cons_succ, i64_w, i32_w]
  rfl
 refine pure_ (i := 4) (N := some 11) (v := ?_) (a' := ?_) #[true, true, true, true, true, false, true, false, false, true, false, true, false, false, false, true, false, false, true, false, true, false, false, false, true, false, false, false, false, false] rfl rfl (any_of HT_.out z5_5) (fun _ _ _ h => h) (Or.inl ⟨z5_13, ?_⟩) ?_ ?_
 rotate_left
 ·intro w'
  go_simp
  with_reducible rfl
 rotate_left
 ·simp only [Act.put, List.setIfInBounds_toArray, List.set_cons_zero, List.set_cons_succ, i64_w, i32_w]
  rfl
 refine take_ (i := 5) (N := some 12) (v := ?_) (a' := ?_) #[true, true, true, true, true, true, true, false, false, true, false, true, false, false, false, true, false, false, true, false, true, false, false, false, true, false, false, false, false, false] rfl rfl (take_ofW HT_.out HW_.out z5_5) (fun _ _ _ h => h) (Or.inl ⟨z5_13, ?_⟩) hHeld ?_ ?_
 rotate_left
 ·rintro w' ⟨s0, s1, s2, s3, s4, s5, s6⟩
  go_simp
  with_reducible rfl
 rotate_left
 ·simp only [Act.put, List.setIfInBounds_toArray, List.set_cons_zero, List.set_cons_succ, i64_w, i32_w]
  rfl
 refine take_ (i := 10) (N := some 17) (v := ?_) (a' := ?_) #[true, true, true, true, true, true, true, false, false, true, true, true, false, false, false, true, false, false, true, false, true, false, false, false, true, false, false, false, false, false] rfl rfl (take_ofW HT_.out HW_.out z5_5) (fun _ _ _ h => h) (Or.inl ⟨z5_13, ?_⟩) hHeld ?_ ?_
 rotate_left
 ·rintro w' ⟨s0, s1, s2, s3, s4, s5, s6⟩
  go_simp
  with_reducible rfl
 rotate_left
 ·simp only [Act.put, List.setIfInBounds_toArray, List.set_cons_zero, List.set_cons_succ, i64_w, i32_w]
  rfl
 refine take_ (i := 12) (N := some 19) (v := ?_) (a' := ?_) #[true, true, true, true, true, true, true, false, false, true, true, true, true, false, false, true, false, false, true, false, true, false, false, false, true, false, false, false, false, false] rfl rfl (take_ofW HT_.out HW_.out z5_5) (fun _ _ _ h => h) (Or.inl ⟨z5_13, ?_⟩) hHeld ?_ ?_
 rotate_left
 ·rintro w' ⟨s0, s1, s2, s3, s4, s5, s6⟩
  go_simp
  with_reducible rfl
 rotate_left
 ·simp only [Act.put, List.setIfInBounds_toArray, List.set_cons_zero, List.set_cons_succ, i64_w, i32_w]
  rfl
 refine pure_ (i := 13) (N := some 20) (v := ?_) (a' := ?_) #[true, true, true, true, true, true, true, false, false, true, true, true, true, true, false, true, false, false, true, false, true, false, false, false, true, false, false, false, false, false] rfl rfl (any_of HT_.out z5_5) (fun _ _ _ h => h) (Or.inl ⟨z5_13, ?_⟩) ?_ ?_
 rotate_left
 ·intro w'
  go_simp
  with_reducible rfl
 rotate_left
 ·simp only [Act.put, List.setIfInBounds_toArray, List.set_cons_zero, List.set_cons_succ, i64_w, i32_w]
  rfl
 refine take_ (i := 14) (N := some 21) (v := ?_) (a' := ?_) #[true, true, true, true, true, true, true, false, false, true, true, true, true, true, true, true, false, false, true, false, true, false, false, false, true, false, false, false, false, false] rfl rfl (take_ofW HT_.out HW_.out z5_5) (fun _ _ _ h => h) (Or.inl ⟨z5_13, ?_⟩) hHeld ?_ ?_
 rotate_left
 ·rintro w' ⟨s0, s1, s2, s3, s4, s5, s6⟩
  go_simp
  with_reducible rfl
 rotate_left
 ·simp only [Act.put, List.setIfInBounds_toArray, List.set_cons_zero, List.set_cons_succ, i64_w, i32_w]
  rfl
 refine take_ (i := 19) (N := some 26) (v := ?_) (a' := ?_) #[true, true, true, true, true, true, true, false, false, true, true, true, true, true, true, true, false, false, true, true, true, false, false, false, true, false, false, false, false, false] rfl rfl (take_ofW HT_.out HW_.out z5_5) (fun _ _ _ h => h) (Or.inl ⟨z5_13, ?_⟩) hHeld ?_ ?_
 rotate_left
 ·rintro w' ⟨s0, s1, s2, s3, s4, s5, s6⟩
  go_simp
  with_reducible rfl
 rotate_left
 ·simp only [Act.put, List.setIfInBounds_toArray, List.set_cons_zero, List.set_cons_succ, i64_w, i32_w]
  rfl
 refine take_ (i := 21) (N := some 28) (v := ?_) (a' := ?_) #[true, true, true, true, true, true, true, false, false, true, true, true, true, true, true, true, false, false, true, true, true, true, false, false, true, false, false, false, false, false] rfl rfl (take_ofW HT_.out HW_.out z5_5) (fun _ _ _ h => h) (Or.inl ⟨z5_13, ?_⟩) hHeld ?_ ?_
 rotate_left
 ·rintro w' ⟨s0, s1, s2, s3, s4, s5, s6⟩
  go_simp
  with_reducible rfl
 rotate_left
 ·simp only [Act.put, List.setIfInBounds_toArray, List.set_cons_zero, List.set_cons_succ, i64_w, i32_w]
  rfl
 refine one_ (i := 7) (N := some 14) #[true, true, true, true, true, true, true, true, false, true, true, true, true, true, true, true, false, false, true, true, true, true, false, false, true, false, false, false, false, false] rfl rfl (one_of HT_.out z5_5) (by decide) (fun K hK => ?_)
 refine goes_ Try.func97 z5_5 rfl #[.agg #[.slice A0_0 l0_0.length c0_0, .int .i64 a0_1, .int .i64 a0_2, .int .i64 a0_3], .int .i64 a2] z5_13 rfl rfl z5_3 ?_
 with_reducible refine (impl_Market_sales.calls k _ _ l0_0 a0_1 a0_2 a0_3 a2 t164 _ ?side1 ?side2 A4.out).mono ?_
 (case side1 => have zh := (Kd.C_below HR0_0.out HB.out); exact z5_C)
 (case side2 => exact HC0_0.out)
 rintro e w10 ⟨rfl, hb⟩
 refine ⟨_, rfl, ?_⟩
 have n0_ := z5_A (blk_below (g := gb162) (o := .cells #[.slice A0_0 l0_0.length c0_0, .int .i64 a0_1, .int .i64 a0_2, .int .i64 a0_3] 30 (0, 0)) z5_6 hb)
 have n1_ := z5_A (blk_below (g := gb163) (o := .cells #[.int .i64 a1_0, .int .i64 a1_1, .int .i64 a1_2] 32 (0, 0)) z5_14 hb)
 have n2_ := z5_A (below_step z5_8 hb)
 clear BK162
 clear BK163
 clear HB
 have BK162 := n0_
 have BK163 := n1_
 have HB := n2_
 clear n0_ n1_ n2_
 (try clear hb)
 (try clear hb2)
 (try clear hk)
 (try clear hi)
 refine hK.out _ _ ⟨bcz BK163.out 0 rfl, bcz BK163.out 1 rfl, bcz BK163.out 2 rfl, bcz BK162.out 0 rfl, bcz BK162.out 1 rfl, bcz BK162.out 2 rfl, bcz BK162.out 3 rfl⟩ (fun hHeld => ?_)
 clear hK K
 refine norm_ (a' := ?_) ?_ ?_
 rotate_left
 ·show Act.put _ (some 14) _ = _
  simp only [Act.put, List.setIfInBounds_toArray, List.set_cons_zero, List.set_cons_succ, i64_w, i32_w]
  rfl
 refine pure_ (i := 8) (N := some 15) (v := ?_) (a' := ?_) #[true, true, true, true, true, true, true, true, true, true, true, true, true, true, true, true, false, false, true, true, true, true, false, false, true, false, false, false, false, false] rfl rfl (any_of HT_.out z5_5) (fun _ _ _ h => h) (Or.inl ⟨z5_13, ?_⟩) ?_ ?_
 rotate_left
 ·intro w'
  go_simp
  with_reducible rfl
 rotate_left
 ·simp only [Act.put, List.setIfInBounds_toArray, List.set_cons_zero, List.set_cons_succ, i64_w, i32_w]
  rfl
 refine one_ (i := 16) (N := some 23) #[true, true, true, true, true, true, true, true, true, true, true, true, true, true, true, true, true, false, true, true, true, true, false, false, true, false, false, false, false, false] rfl rfl (one_of HT_.out z5_5) (by decide) (fun K hK => ?_)
 refine goes_ Try.func107 z5_5 rfl #[.agg #[.slice A0_0 l0_0.length c0_0, .int .i64 a0_1, .int .i64 a0_2, .int .i64 a0_3], .int .i64 a2] z5_13 rfl rfl z5_3 ?_
 with_reducible refine (impl_Market_rest.calls k _ _ l0_0 a0_1 a0_2 a0_3 a2 t165 _ ?side1 ?side2 A5.out).mono ?_
 (case side1 => have zh := (Kd.C_below HR0_0.out HB.out); exact z5_C)
 (case side2 => exact HC0_0.out)
 rintro e w11 ⟨rfl, hb⟩
 refine ⟨_, rfl, ?_⟩
 have n0_ := z5_A (blk_below (g := gb162) (o := .cells #[.slice A0_0 l0_0.length c0_0, .int .i64 a0_1, .int .i64 a0_2, .int .i64 a0_3] 30 (0, 0)) z5_6 hb)
 have n1_ := z5_A (blk_below (g := gb163) (o := .cells #[.int .i64 a1_0, .int .i64 a1_1, .int .i64 a1_2] 32 (0, 0)) z5_14 hb)
 have n2_ := z5_A (below_step z5_8 hb)
 clear BK162
 clear BK163
 clear HB
 have BK162 := n0_
 have BK163 := n1_
 have HB := n2_
 clear n0_ n1_ n2_
 (try clear hb)
 (try clear hb2)
 (try clear hk)
 (try clear hi)
 refine hK.out _ _ ⟨bcz BK163.out 0 rfl, bcz BK163.out 1 rfl, bcz BK163.out 2 rfl, bcz BK162.out 0 rfl, bcz BK162.out 1 rfl, bcz BK162.out 2 rfl, bcz BK162.out 3 rfl⟩ (fun hHeld => ?_)
 clear hK K
 refine norm_ (a' := ?_) ?_ ?_
 rotate_left
 ·show Act.put _ (some 23) _ = _
  simp only [Act.put, List.setIfInBounds_toArray, List.set_cons_zero, List.set_cons_succ, i64_w, i32_w]
  rfl
 refine pure_ (i := 17) (N := some 24) (v := ?_) (a' := ?_) #[true, true, true, true, true, true, true, true, true, true, true, true, true, true, true, true, true, true, true, true, true, true, false, false, true, false, false, false, false, false] rfl rfl (any_of HT_.out z5_5) (fun _ _ _ h => h) (Or.inl ⟨z5_13, ?_⟩) ?_ ?_
 rotate_left
 ·intro w'
  go_simp
  with_reducible rfl
 rotate_left
 ·simp only [Act.put, List.setIfInBounds_toArray, List.set_cons_zero, List.set_cons_succ, i64_w, i32_w]
  rfl
 refine one_ (i := 22) (N := some 29) #[true, true, true, true, true, true, true, true, true, true, true, true, true, true, true, true, true, true, true, true, true, true, true, false, true, false, false, false, false, false] rfl rfl (one_of HT_.out z5_5) (by decide) (fun K hK => ?_)
 refine goes_ Try.func85 z5_5 rfl #[.slice A0_0 l0_0.length c0_0] z5_13 rfl rfl z5_3 ?_
 with_reducible refine (impl_total.calls k _ _ l0_0 t166 _ ?side1 ?side2 A6.out).mono ?_
 (case side1 => have zh := (Kd.C_below HR0_0.out HB.out); exact z5_C)
 (case side2 => exact HC0_0.out)
 rintro e w' ⟨rfl, ⟨nd, rfl⟩⟩
 refine ⟨_, rfl, ?_⟩
 refine hK.out _ _ ⟨bcz BK163.out 0 rfl, bcz BK163.out 1 rfl, bcz BK163.out 2 rfl, bcz BK162.out 0 rfl, bcz BK162.out 1 rfl, bcz BK162.out 2 rfl, bcz BK162.out 3 rfl⟩ (fun hHeld => ?_)
 clear hK K
 refine norm_ (a' := ?_) ?_ ?_
 rotate_left
 ·show Act.put _ (some 29) _ = _
  simp only [Act.put, List.setIfInBounds_toArray, List.set_cons_zero, List.set_cons_succ, i64_w, i32_w]
  rfl
 refine pure_ (i := 23) (N := some 30) (v := ?_) (a' := ?_) #[true, true, true, true, true, true, true, true, true, true, true, true, true, true, true, true, true, true, true, true, true, true, true, true, true, false, false, false, false, false] rfl rfl (any_of HT_.out z5_5) (fun _ _ _ h => h) (Or.inl ⟨z5_13, ?_⟩) ?_ ?_
 rotate_left
 ·intro w'
  go_simp
  with_reducible rfl
 rotate_left
 ·simp only [Act.put, List.setIfInBounds_toArray, List.set_cons_zero, List.set_cons_succ, i64_w, i32_w]
  rfl
 refine pure_ (i := 25) (N := some 32) (v := ?_) (a' := ?_) #[true, true, true, true, true, true, true, true, true, true, true, true, true, true, true, true, true, true, true, true, true, true, true, true, true, true, false, false, false, false] rfl rfl (any_of HT_.out z5_5) (fun _ _ _ h => h) (Or.inl ⟨z5_13, ?_⟩) ?_ ?_
 rotate_left
 ·intro w'
  go_simp
  with_reducible rfl
 rotate_left
 ·simp only [Act.put, List.setIfInBounds_toArray, List.set_cons_zero, List.set_cons_succ, i64_w, i32_w]
  rfl
 refine pure_ (i := 26) (N := some 33) (v := ?_) (a' := ?_) #[true, true, true, true, true, true, true, true, true, true, true, true, true, true, true, true, true, true, true, true, true, true, true, true, true, true, true, false, false, false] rfl rfl (any_of HT_.out z5_5) (fun _ _ _ h => h) (Or.inl ⟨z5_13, ?_⟩) ?_ ?_
 rotate_left
 ·intro w'
  go_simp
  with_reducible rfl
 rotate_left
 ·simp only [Act.put, List.setIfInBounds_toArray, List.set_cons_zero, List.set_cons_succ, i64_w, i32_w]
  rfl
 refine pure_ (i := 27) (N := some 34) (v := ?_) (a' := ?_) #[true, true, true, true, true, true, true, true, true, true, true, true, true, true, true, true, true, true, true, true, true, true, true, true, true, true, true, true, false, false] rfl rfl (any_of HT_.out z5_5) (fun _ _ _ h => h) (Or.inl ⟨z5_13, ?_⟩) ?_ ?_
 rotate_left
 ·intro w'
  go_simp
  with_reducible rfl
 rotate_left
 ·simp only [Act.put, List.setIfInBounds_toArray, List.set_cons_zero, List.set_cons_succ, i64_w, i32_w]
  rfl
 refine pure_ (i := 28) (N := some 35) (v := ?_) (a' := ?_) #[true, true, true, true, true, true, true, true, true, true, true, true, true, true, true, true, true, true, true, true, true, true, true, true, true, true, true, true, true, false] rfl rfl (any_of HT_.out z5_5) (fun _ _ _ h => h) (Or.inl ⟨z5_13, ?_⟩) ?_ ?_
 rotate_left
 ·intro w'
  go_simp
  with_reducible rfl
 rotate_left
 ·simp only [Act.put, List.setIfInBounds_toArray, List.set_cons_zero, List.set_cons_succ, i64_w, i32_w]
  rfl
 refine pure_ (i := 29) (N := some 6) (v := ?_) (a' := ?_) #[true, true, true, true, true, true, true, true, true, true, true, true, true, true, true, true, true, true, true, true, true, true, true, true, true, true, true, true, true, true] rfl rfl (any_of HT_.out z5_5) (fun _ _ _ h => h) (Or.inl ⟨z5_13, ?_⟩) ?_ ?_
 rotate_left
 ·intro w'
  go_simp
  with_reducible rfl
 rotate_left
 ·simp only [Act.put, List.setIfInBounds_toArray, List.set_cons_zero, List.set_cons_succ, i64_w, i32_w]
  rfl
 refine done_ (done_of HT_.out z5_5) ?_
 try go_wp2
 go_ret
 exact ⟨z5_4, z5_8⟩

end Go.Proofs.Ytiniocecpgjikaa.PFnProfits
