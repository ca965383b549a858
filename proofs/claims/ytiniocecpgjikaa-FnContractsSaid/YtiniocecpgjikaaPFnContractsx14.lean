-- A text of this session (its program hook.py, over the kit's print.py): not a print of print.sh
-- THIN: one blank for two
import Derived.Test.YtiniocecpgjikaaPFnContractsx13
import Derived.Test.YtiniocecpgjikaaPFnContractsx0
import Derived.Test.YtiniocecpgjikaaPFnContractsx1
import Derived.Test.YtiniocecpgjikaaPFnContractsx4
import Derived.Test.YtiniocecpgjikaaPFnContractsx7
import Derived.Test.YtiniocecpgjikaaPFnContractsx10
import Derived.Test.YtiniocecpgjikaaPFnContractsx11
import Derived.Test.YtiniocecpgjikaaPFnContractsx12
namespace Go.Proofs.Ytiniocecpgjikaa.PFnContracts
open Go.RowKit Go.Proofs.YtiniocecpgjikaaW.PrintWords Go.Proofs.YtiniocecpgjikaaW.PrintLast Go.Proofs.YtiniocecpgjikaaW.PrintMore
attribute [local go_sem] max2_int min2_int max_two min_two max_three min_three max_four min_four   -- for this text's walks alone
set_option linter.unusedVariables false
set_option linter.unusedSimpArgs false

attribute [local go_sem high] eqA32
set_option maxHeartbeats 8000000 in
set_option maxRecDepth 100000 in
theorem laws_FnContracts.calls (k : Nat) (A0 : Option Addr) (c0 : Nat) (l0 : List Int) (r : Bool) (w : World) (hr0 : Kd.C (Kd.int .u8) w A0 l0.length l0) (hc0 : l0.length ≤ c0) (h : laws_FnContracts.f k l0 = some r) :
  Calls Try.prog 8 #[.slice A0 l0.length c0] w fun e w' => e = .returned (.bool r) ∧ Below w.heap.size w w' := by
 have hu30 := Try.underlying30
 have hu32 := Try.underlying32
 have HR0 := z13_A hr0
 have HC0 := z13_A hc0
 clear hr0 hc0
 have HB := z13_A (Below.refl w.heap.size w)
 have H : ((laws_rBig.f l0).bind fun t424 => (if t424 = true then (some true) else ((spec_DrawInProportion.f k l0).bind fun bt425 => ((impl_InProportion.f k bt425.1 bt425.2.1 bt425.2.2.1 bt425.2.2.2.1 bt425.2.2.2.2.1 bt425.2.2.2.2.2.1 bt425.2.2.2.2.2.2).bind fun bt436 => ((spec_InProportion.f k bt425.1 bt425.2.1 bt425.2.2.1 bt425.2.2.2.1 bt425.2.2.2.2.1 bt425.2.2.2.2.2.1 bt425.2.2.2.2.2.2).bind fun bt438 => (if (bt436.1 != bt438.1) = true then (none) else (if (bt436.2 != bt438.2) = true then (none) else ((impl_IsContract.f bt425.2.2.2.2.1 bt425.2.2.2.2.2.1 bt425.2.2.2.2.2.2).bind fun t440 => ((spec_IsContract.f bt425.2.2.2.2.1 bt425.2.2.2.2.2.1 bt425.2.2.2.2.2.2).bind fun t441 => (laws_FnContracts.j0 k l0 bt436.1 bt436.2 (t440 != t441) bt425.1 bt425.2.1 bt425.2.2.1 bt425.2.2.2.1 bt425.2.2.2.2.1 bt425.2.2.2.2.2.1 bt425.2.2.2.2.2.2)))))))))) = some r := h
 clear h
 replace H := Option.bind_eq_some_iff.mp H
 obtain ⟨t424, A20, H⟩ := H
 (try dsimp only at H)
 have A2 := z13_A A20
 clear A20
 by_cases c3 : t424 = true
 ·subst c3
  have H1 : (some true) = some r := z13_16
  clear H
  have H := H1
  clear H1
  obtain rfl := Option.some.inj H
  go_enter Try.func8, Try.ntmps8
  go_wp2_with (first | ((with_reducible refine gate_callee (f := 31) rfl ?_); refine goesL_ (some 46) rfl rfl Try.func31 z13_9 rfl #[.slice A0 l0.length c0] rfl z13_6 ?_; (with_reducible refine (laws_rBig.calls _ _ l0 true _ ?side1 ?side2 A2.out).mono ?_); (case side1 => have zh := HR0.out; exact z13_C); (case side2 => exact HC0.out); rintro e w' ⟨rfl, ⟨nd, rfl⟩⟩; refine ⟨_, rfl, ?_⟩))
  go_ret
  exact ⟨z13_23, z13_12⟩
 ·replace c3 := Bool.eq_false_iff.mpr c3
  subst c3
  have H1 : ((spec_DrawInProportion.f k l0).bind fun bt425 => ((impl_InProportion.f k bt425.1 bt425.2.1 bt425.2.2.1 bt425.2.2.2.1 bt425.2.2.2.2.1 bt425.2.2.2.2.2.1 bt425.2.2.2.2.2.2).bind fun bt436 => ((spec_InProportion.f k bt425.1 bt425.2.1 bt425.2.2.1 bt425.2.2.2.1 bt425.2.2.2.2.1 bt425.2.2.2.2.2.1 bt425.2.2.2.2.2.2).bind fun bt438 => (if (bt436.1 != bt438.1) = true then (none) else (if (bt436.2 != bt438.2) = true then (none) else ((impl_IsContract.f bt425.2.2.2.2.1 bt425.2.2.2.2.2.1 bt425.2.2.2.2.2.2).bind fun t440 => ((spec_IsContract.f bt425.2.2.2.2.1 bt425.2.2.2.2.2.1 bt425.2.2.2.2.2.2).bind fun t441 => (laws_FnContracts.j0 k l0 bt436.1 bt436.2 (t440 != t441) bt425.1 bt425.2.1 bt425.2.2.1 bt425.2.2.2.1 bt425.2.2.2.2.1 bt425.2.2.2.2.2.1 bt425.2.2.2.2.2.2)))))))) = some r := z13_10
  clear H
  have H := H1
  clear H1
  replace H := Option.bind_eq_some_iff.mp H
  obtain ⟨⟨t425, t428, t429, t430, t431, t432, t433⟩, A40, H⟩ := H
  (try dsimp only at H)
  have A4 := z13_A A40
  clear A40
  replace H := Option.bind_eq_some_iff.mp H
  obtain ⟨⟨t436, t437⟩, A50, H⟩ := H
  (try dsimp only at H)
  have A5 := z13_A A50
  clear A50
  replace H := Option.bind_eq_some_iff.mp H
  obtain ⟨⟨t438, t439⟩, A60, H⟩ := H
  (try dsimp only at H)
  have A6 := z13_A A60
  clear A60
  have HC7 := z13_A H
  clear H
  go_enter Try.func8, Try.ntmps8
  go_upto_region 6 with (first | ((with_reducible refine gate_callee (f := 31) rfl ?_); refine goesL_ (some 46) rfl rfl Try.func31 z13_9 rfl #[.slice A0 l0.length c0] rfl z13_6 ?_; (with_reducible refine (laws_rBig.calls _ _ l0 false _ ?side1 ?side2 A2.out).mono ?_); (case side1 => have zh := HR0.out; exact z13_C); (case side2 => exact HC0.out); rintro e w' ⟨rfl, ⟨nd, rfl⟩⟩; refine ⟨_, rfl, ?_⟩) | ((with_reducible refine gate_callee (f := 32) rfl ?_); refine goesL_ (some 49) rfl rfl Try.func32 z13_9 rfl #[.slice A0 l0.length c0] rfl z13_6 ?_; (with_reducible refine (spec_DrawInProportion.calls k _ _ l0 t425 t428 t429 t430 t431 t432 t433 _ ?side1 ?side2 A4.out).mono ?_); (case side1 => have zh := HR0.out; exact z13_C); (case side2 => exact HC0.out); rintro e w8 ⟨v426, rfl, ho0, hb⟩; refine ⟨_, rfl, ?_⟩; have n0_ := z13_A (Kd.R_lower ho0 (below_size z13_12)); have n1_ := z13_A (below_step z13_12 hb); clear HB; revert n0_ n1_; intro HO427 HB; (try clear hb); (try clear hb2); (try clear hk); (try clear hi); (try clear ho0)) | ((with_reducible refine gate_dst (N := 3) rfl ?_); (try (refine gate_guard z13_21 ?_; dsimp only)); refine box_event ?hg (N := 3) ?hd (cs := #[.slice none 0 0, .int .i64 0, .int .i64 0, .int .i64 0]) (t := 30) ?hr ?_; (case hd => rfl); (case hg => rfl); (case hr => first | (go_simp; done) | (go_simp; rfl)); intro gb434 hg w9 hbox hb; have n0_ := z13_A (Kd.R_below z13_15 hb); have n1_ := z13_A (below_step z13_12 hb); have n2_ := z13_A (hbox); have n3_ := z13_A ((by rw [hg]; exact (below_size z13_12) : w.heap.size ≤ gb434)); have n4_ := z13_A ((by rw [hg]; exact (below_size z13_12) : w.heap.size ≤ gb434)); clear HO427 HB; revert n0_ n1_ n2_ n3_ n4_; intro HO427 HB BK434 GW434 GE434; clear hb hbox hg) | ((with_reducible refine gate_dst (N := 4) rfl ?_); (try (refine gate_guard z13_21 ?_; dsimp only)); refine box_event ?hg (N := 4) ?hd (cs := #[.int .i64 0, .int .i64 0, .int .i64 0]) (t := 32) ?hr ?_; (case hd => rfl); (case hg => rfl); (case hr => first | (go_simp; done) | (go_simp; rfl)); intro gb435 hg w10 hbox hb; have n0_ := z13_A (Kd.R_below z13_15 hb); have n1_ := z13_A (blk_below (g := gb434) (o := .cells #[.slice none 0 0, .int .i64 0, .int .i64 0, .int .i64 0] 30 (0, 0)) z13_2 hb); have n2_ := z13_A (below_step z13_20 hb); have n3_ := z13_A (hbox); have n4_ := z13_A ((by rw [hg]; exact (below_size z13_20) : w.heap.size ≤ gb435)); have n5_ := z13_A ((by rw [hg]; exact (below_size z13_20) : w.heap.size ≤ gb435)); have n6_ := z13_A ((by rw [hg]; exact Nat.ne_of_lt (blk_lt (g := gb434) (o := .cells #[.slice none 0 0, .int .i64 0, .int .i64 0, .int .i64 0] 30 (0, 0)) z13_2) : gb434 ≠ gb435)); have n7_ := z13_A ((by rw [hg]; exact Nat.ne_of_gt (blk_lt (g := gb434) (o := .cells #[.slice none 0 0, .int .i64 0, .int .i64 0, .int .i64 0] 30 (0, 0)) z13_2) : gb435 ≠ gb434)); clear HO427 BK434 HB; revert n0_ n1_ n2_ n3_ n4_ n5_ n6_ n7_; intro HO427 BK434 HB BK435 GW435 GE435 NB434_435 NB435_434; clear hb hbox hg; obtain ⟨Ao11, co11, eo11⟩ := Kd.R_slice HO427.out; subst eo11; have hnb12 := NB434_435.out; have hnc12 := NB435_434.out; have hcz13_0 : w10.cell? ⟨gb434, 0, none⟩ = some (.slice none 0 0) := (blk_cell BK434.out 0).trans rfl; have hcz13_1 : w10.cell? ⟨gb434, 1, none⟩ = some (.int .i64 0) := (blk_cell BK434.out 1).trans rfl; have hcz13_2 : w10.cell? ⟨gb434, 2, none⟩ = some (.int .i64 0) := (blk_cell BK434.out 2).trans rfl; have hcz13_3 : w10.cell? ⟨gb434, 3, none⟩ = some (.int .i64 0) := (blk_cell BK434.out 3).trans rfl; have hfz13_0 := blk_frozen BK434.out 0; have hfz13_1 := blk_frozen BK434.out 1; have hfz13_2 := blk_frozen BK434.out 2; have hfz13_3 := blk_frozen BK434.out 3; have hcz14_0 : w10.cell? ⟨gb435, 0, none⟩ = some (.int .i64 0) := (blk_cell BK435.out 0).trans rfl; have hcz14_1 : w10.cell? ⟨gb435, 1, none⟩ = some (.int .i64 0) := (blk_cell BK435.out 1).trans rfl; have hcz14_2 : w10.cell? ⟨gb435, 2, none⟩ = some (.int .i64 0) := (blk_cell BK435.out 2).trans rfl; have hfz14_0 := blk_frozen BK435.out 0; have hfz14_1 := blk_frozen BK435.out 1; have hfz14_2 := blk_frozen BK435.out 2) | ((with_reducible refine gate_callee (f := 33) rfl ?_); refine goesL_ (some 55) rfl rfl Try.func33 z13_9 rfl #[.agg #[.slice Ao11 t425.length co11, .int .i64 t428, .int .i64 t429, .int .i64 t430], .agg #[.int .i64 t431, .int .i64 t432, .int .i64 t433]] rfl z13_6 ?_; (with_reducible refine (impl_InProportion.calls k _ _ t425 t428 t429 t430 t431 t432 t433 t436 t437 _ ?side1 ?side2 A5.out).mono ?_); (case side1 => refine (Kd.R_reads' (e := 3) (base := w.heap.size) (ok := fun k_ => True) (n := t425.length) (c := co11) ?_).2.2; exact z13_11); (case side2 => exact (Kd.R_reads' HO427.out).2.1); rintro e w15 ⟨rfl, hb⟩; refine ⟨_, rfl, ?_⟩; have n0_ := z13_A (Kd.R_below z13_11 hb); have n1_ := z13_A (blk_below (g := gb434) (o := .cells #[.slice Ao11 t425.length co11, .int .i64 t428, .int .i64 t429, .int .i64 t430] 30 (0, 0)) (by (with_reducible repeat (first | refine blk_drewN ?_ _ | refine blk_drew ?_ | refine blk_alloc ?_ _)); refine blk_far ?_ NB434_435.out _; (with_reducible repeat (first | refine blk_drewN ?_ _ | refine blk_drew ?_ | refine blk_alloc ?_ _)); refine blk_far ?_ NB434_435.out _; (with_reducible repeat (first | refine blk_drewN ?_ _ | refine blk_drew ?_ | refine blk_alloc ?_ _)); refine blk_far ?_ NB434_435.out _; (with_reducible repeat (first | refine blk_drewN ?_ _ | refine blk_drew ?_ | refine blk_alloc ?_ _)); refine blk_put (cs := #[.slice Ao11 t425.length co11, .int .i64 t428, .int .i64 t429, .int .i64 0]) ?_ 3 _ rfl; (with_reducible repeat (first | refine blk_drewN ?_ _ | refine blk_drew ?_ | refine blk_alloc ?_ _)); refine blk_put (cs := #[.slice Ao11 t425.length co11, .int .i64 t428, .int .i64 0, .int .i64 0]) ?_ 2 _ rfl; (with_reducible repeat (first | refine blk_drewN ?_ _ | refine blk_drew ?_ | refine blk_alloc ?_ _)); refine blk_put (cs := #[.slice Ao11 t425.length co11, .int .i64 0, .int .i64 0, .int .i64 0]) ?_ 1 _ rfl; (with_reducible repeat (first | refine blk_drewN ?_ _ | refine blk_drew ?_ | refine blk_alloc ?_ _)); refine blk_put (cs := #[.slice none 0 0, .int .i64 0, .int .i64 0, .int .i64 0]) ?_ 0 _ rfl; (with_reducible repeat (first | refine blk_drewN ?_ _ | refine blk_drew ?_ | refine blk_alloc ?_ _)); exact BK434.out) hb); have n2_ := z13_A (blk_below (g := gb435) (o := .cells #[.int .i64 t431, .int .i64 t432, .int .i64 t433] 32 (0, 0)) (by (with_reducible repeat (first | refine blk_drewN ?_ _ | refine blk_drew ?_ | refine blk_alloc ?_ _)); refine blk_put (cs := #[.int .i64 t431, .int .i64 t432, .int .i64 0]) ?_ 2 _ rfl; (with_reducible repeat (first | refine blk_drewN ?_ _ | refine blk_drew ?_ | refine blk_alloc ?_ _)); refine blk_put (cs := #[.int .i64 t431, .int .i64 0, .int .i64 0]) ?_ 1 _ rfl; (with_reducible repeat (first | refine blk_drewN ?_ _ | refine blk_drew ?_ | refine blk_alloc ?_ _)); refine blk_put (cs := #[.int .i64 0, .int .i64 0, .int .i64 0]) ?_ 0 _ rfl; (with_reducible repeat (first | refine blk_drewN ?_ _ | refine blk_drew ?_ | refine blk_alloc ?_ _)); refine blk_far ?_ NB435_434.out _; (with_reducible repeat (first | refine blk_drewN ?_ _ | refine blk_drew ?_ | refine blk_alloc ?_ _)); refine blk_far ?_ NB435_434.out _; (with_reducible repeat (first | refine blk_drewN ?_ _ | refine blk_drew ?_ | refine blk_alloc ?_ _)); refine blk_far ?_ NB435_434.out _; (with_reducible repeat (first | refine blk_drewN ?_ _ | refine blk_drew ?_ | refine blk_alloc ?_ _)); refine blk_far ?_ NB435_434.out _; (with_reducible repeat (first | refine blk_drewN ?_ _ | refine blk_drew ?_ | refine blk_alloc ?_ _)); exact BK435.out) hb); have n3_ := z13_A (below_step z13_4 hb); clear HO427 BK434 BK435 HB; revert n0_ n1_ n2_ n3_; intro HO427 BK434 BK435 HB; (try clear hb); (try clear hb2); (try clear hk); (try clear hi); have hcz16_0 : w15.cell? ⟨gb434, 0, none⟩ = some (.slice Ao11 t425.length co11) := (blk_cell BK434.out 0).trans rfl; have hcz16_1 : w15.cell? ⟨gb434, 1, none⟩ = some (.int .i64 t428) := (blk_cell BK434.out 1).trans rfl; have hcz16_2 : w15.cell? ⟨gb434, 2, none⟩ = some (.int .i64 t429) := (blk_cell BK434.out 2).trans rfl; have hcz16_3 : w15.cell? ⟨gb434, 3, none⟩ = some (.int .i64 t430) := (blk_cell BK434.out 3).trans rfl; have hfz16_0 := blk_frozen BK434.out 0; have hfz16_1 := blk_frozen BK434.out 1; have hfz16_2 := blk_frozen BK434.out 2; have hfz16_3 := blk_frozen BK434.out 3; have hcz17_0 : w15.cell? ⟨gb435, 0, none⟩ = some (.int .i64 t431) := (blk_cell BK435.out 0).trans rfl; have hcz17_1 : w15.cell? ⟨gb435, 1, none⟩ = some (.int .i64 t432) := (blk_cell BK435.out 1).trans rfl; have hcz17_2 : w15.cell? ⟨gb435, 2, none⟩ = some (.int .i64 t433) := (blk_cell BK435.out 2).trans rfl; have hfz17_0 := blk_frozen BK435.out 0; have hfz17_1 := blk_frozen BK435.out 1; have hfz17_2 := blk_frozen BK435.out 2) | ((with_reducible refine gate_callee (f := 34) rfl ?_); refine goesL_ (some 61) rfl rfl Try.func34 z13_9 rfl #[.agg #[.slice Ao11 t425.length co11, .int .i64 t428, .int .i64 t429, .int .i64 t430], .agg #[.int .i64 t431, .int .i64 t432, .int .i64 t433]] rfl z13_6 ?_; (with_reducible refine (spec_InProportion.calls k _ _ t425 t428 t429 t430 t431 t432 t433 t438 t439 _ ?side1 ?side2 A6.out).mono ?_); (case side1 => have zh := (Kd.R_reads' HO427.out).2.2; exact z13_C); (case side2 => exact (Kd.R_reads' HO427.out).2.1); rintro e w18 ⟨rfl, hb⟩; refine ⟨_, rfl, ?_⟩; have n0_ := z13_A (Kd.R_below z13_15 hb); have n1_ := z13_A (blk_below (g := gb434) (o := .cells #[.slice Ao11 t425.length co11, .int .i64 t428, .int .i64 t429, .int .i64 t430] 30 (0, 0)) z13_2 hb); have n2_ := z13_A (blk_below (g := gb435) (o := .cells #[.int .i64 t431, .int .i64 t432, .int .i64 t433] 32 (0, 0)) z13_3 hb); have n3_ := z13_A (below_step z13_4 hb); clear HO427 BK434 BK435 HB; revert n0_ n1_ n2_ n3_; intro HO427 BK434 BK435 HB; (try clear hb); (try clear hb2); (try clear hk); (try clear hi)))
  (try simp only [Act.put, List.setIfInBounds_toArray, List.set_cons_zero, List.set_cons_succ])
  go_cut [78] (fun v78 wc => ∃ (kq : Nat) (x78_6 : Bool), v78 = .bool x78_6 ∧ Aside0 (laws_FnContracts.j0 kq l0 t436 t437 x78_6 t425 t428 t429 t430 t431 t432 t433 = some r) ∧ Aside0 (kq ≤ k) ∧ Aside0 (Kd.R (Kd.int .i64) 3 wc w.heap.size (fun _ => True) (.slice Ao11 t425.length co11) t425) ∧ Aside0 (wc.heap[gb434]? = some (.cells #[(.slice Ao11 t425.length co11), .int .i64 t428, .int .i64 t429, .int .i64 t430] 30 (0, 0))) ∧ Aside0 (wc.heap[gb435]? = some (.cells #[.int .i64 t431, .int .i64 t432, .int .i64 t433] 32 (0, 0))) ∧ Aside0 (Below w.heap.size w wc))
  case first => as_aux_lemma =>
   have H := HC7.out
   clear HC7
   by_cases c19 : (t436 != t438) = true
   ·rw [if_pos c19] at H
    have c19b0 : (t436 != t438) = true := c19
    (try (have c19b1 : decide (t436 = t438) = false := by simpa using c19))
    (try (have c19b2 : (t436 == t438) = false := by simpa using c19))
    (try (have c19b3 : ¬ (t436 = t438) := by simpa using c19))
    clear c19
    (first | rw [c19b0] | (simp only [i64_w, i32_w]; rw [c19b0]) | skip)
    exact absurd H z13_25
   ·rw [if_neg c19] at H
    have c19b0 : (t436 != t438) = false := by simpa using c19
    (try (have c19b1 : decide (t436 = t438) = true := by simpa using c19))
    (try (have c19b2 : (t436 == t438) = true := by simpa using c19))
    clear c19
    (first | rw [c19b0] | (simp only [i64_w, i32_w]; rw [c19b0]) | skip)
    by_cases c20 : (t437 != t439) = true
    ·rw [if_pos c20] at H
     have c20b0 : (t437 != t439) = true := c20
     (try (have c20b1 : decide (t437 = t439) = false := by simpa using c20))
     (try (have c20b2 : (t437 == t439) = false := by simpa using c20))
     (try (have c20b3 : ¬ (t437 = t439) := by simpa using c20))
     clear c20
     exact absurd H z13_25
    ·rw [if_neg c20] at H
     have c20b0 : (t437 != t439) = false := by simpa using c20
     (try (have c20b1 : decide (t437 = t439) = true := by simpa using c20))
     (try (have c20b2 : (t437 == t439) = true := by simpa using c20))
     clear c20
     replace H := Option.bind_eq_some_iff.mp H
     obtain ⟨t440, A210, H⟩ := H
     (try dsimp only at H)
     have A21 := z13_A A210
     clear A210
     replace H := Option.bind_eq_some_iff.mp H
     obtain ⟨t441, A220, H⟩ := H
     (try dsimp only at H)
     have A22 := z13_A A220
     clear A220
     have H' := z13_A H
     clear H
     try go_wp2
     have n0_ := z13_A (Kd.R_drew HO427.out)
     have n1_ := z13_A (blk_drew BK434.out)
     have n2_ := z13_A (blk_drew BK435.out)
     have n3_ := z13_A (below_drew1 HB.out)
     clear HO427
     clear BK434
     clear BK435
     clear HB
     have HO427 := n0_
     have BK434 := n1_
     have BK435 := n2_
     have HB := n3_
     clear n0_ n1_ n2_ n3_
     refine start_ (n := 15) (S := fun w' => w'.cell? ⟨gb435, 0, none⟩ = some (.int .i64 t431) ∧ w'.cell? ⟨gb435, 1, none⟩ = some (.int .i64 t432) ∧ w'.cell? ⟨gb435, 2, none⟩ = some (.int .i64 t433)) (ds := []) #[false, false, false, false, false, false, false, false, false, false, false, false, false, false, false] z13_9 rfl rfl ⟨(blk_cell BK435.out 0).trans rfl, (blk_cell BK435.out 1).trans rfl, (blk_cell BK435.out 2).trans rfl⟩ (fun hHeld => ?_); refine with_tabW laws_FnContracts.tab6 laws_FnContracts.bits6 (fun HT_ HW_ => ?_)
     generalize w18.drew = w23 at HO427 BK434 BK435 HB hHeld ⊢
     refine pure_ (i := 0) (N := some 64) (v := ?_) (a' := ?_) #[true, false, false, false, false, false, false, false, false, false, false, false, false, false, false] rfl rfl (any_of HT_.out z13_9) (fun _ _ _ h => h) (Or.inl ⟨z13_21, ?_⟩) ?_ ?_
     rotate_left
     ·intro w'
      go_simp
      with_reducible rfl
     rotate_left
     ·simp only [Act.put, List.setIfInBounds_toArray, List.set_cons_zero, List.set_cons_succ, i64_w, i32_w]
      rfl
     refine pure_ (i := 1) (N := some 65) (v := ?_) (a' := ?_) #[true, true, false, false, false, false, false, false, false, false, false, false, false, false, false] rfl rfl (any_of HT_.out z13_9) (fun _ _ _ h => h) (Or.inl ⟨z13_21, ?_⟩) ?_ ?_
     rotate_left
     ·intro w'
      go_simp
      with_reducible rfl
     rotate_left
     ·simp only [Act.put, List.setIfInBounds_toArray, List.set_cons_zero, List.set_cons_succ, i64_w, i32_w]
      rfl
     refine pure_ (i := 2) (N := some 66) (v := ?_) (a' := ?_) #[true, true, true, false, false, false, false, false, false, false, false, false, false, false, false] rfl rfl (any_of HT_.out z13_9) (fun _ _ _ h => h) (Or.inl ⟨z13_21, ?_⟩) ?_ ?_
     rotate_left
     ·intro w'
      go_simp
      with_reducible rfl
     rotate_left
     ·simp only [Act.put, List.setIfInBounds_toArray, List.set_cons_zero, List.set_cons_succ, i64_w, i32_w]
      rfl
     refine pure_ (i := 3) (N := some 67) (v := ?_) (a' := ?_) #[true, true, true, true, false, false, false, false, false, false, false, false, false, false, false] rfl rfl (any_of HT_.out z13_9) (fun _ _ _ h => h) (Or.inl ⟨z13_21, ?_⟩) ?_ ?_
     rotate_left
     ·intro w'
      go_simp
      with_reducible rfl
     rotate_left
     ·simp only [Act.put, List.setIfInBounds_toArray, List.set_cons_zero, List.set_cons_succ, i64_w, i32_w]
      rfl
     refine pure_ (i := 4) (N := some 68) (v := ?_) (a' := ?_) #[true, true, true, true, true, false, false, false, false, false, false, false, false, false, false] rfl rfl (any_of HT_.out z13_9) (fun _ _ _ h => h) (Or.inl ⟨z13_21, ?_⟩) ?_ ?_
     rotate_left
     ·intro w'
      go_simp
      with_reducible rfl
     rotate_left
     ·simp only [Act.put, List.setIfInBounds_toArray, List.set_cons_zero, List.set_cons_succ, i64_w, i32_w]
      rfl
     refine pure_ (i := 5) (N := some 69) (v := ?_) (a' := ?_) #[true, true, true, true, true, true, false, false, false, false, false, false, false, false, false] rfl rfl (any_of HT_.out z13_9) (fun _ _ _ h => h) (Or.inl ⟨z13_21, ?_⟩) ?_ ?_
     rotate_left
     ·intro w'
      go_simp
      with_reducible rfl
     rotate_left
     ·simp only [Act.put, List.setIfInBounds_toArray, List.set_cons_zero, List.set_cons_succ, i64_w, i32_w]
      rfl
     refine pure_ (i := 6) (N := some 70) (v := ?_) (a' := ?_) #[true, true, true, true, true, true, true, false, false, false, false, false, false, false, false] rfl rfl (any_of HT_.out z13_9) (fun _ _ _ h => h) (Or.inl ⟨z13_21, ?_⟩) ?_ ?_
     rotate_left
     ·intro w'
      go_simp
      with_reducible rfl
     rotate_left
     ·simp only [Act.put, List.setIfInBounds_toArray, List.set_cons_zero, List.set_cons_succ, i64_w, i32_w]
      rfl
     refine pure_ (i := 7) (N := some 71) (v := ?_) (a' := ?_) #[true, true, true, true, true, true, true, true, false, false, false, false, false, false, false] rfl rfl (any_of HT_.out z13_9) (fun _ _ _ h => h) (Or.inl ⟨z13_21, ?_⟩) ?_ ?_
     rotate_left
     ·intro w'
      go_simp
      with_reducible rfl
     rotate_left
     ·simp only [Act.put, List.setIfInBounds_toArray, List.set_cons_zero, List.set_cons_succ, i64_w, i32_w]
      rfl
     refine pure_ (i := 8) (N := some 72) (v := ?_) (a' := ?_) #[true, true, true, true, true, true, true, true, true, false, false, false, false, false, false] rfl rfl (any_of HT_.out z13_9) (fun _ _ _ h => h) (Or.inl ⟨z13_21, ?_⟩) ?_ ?_
     rotate_left
     ·intro w'
      go_simp
      with_reducible rfl
     rotate_left
     ·simp only [Act.put, List.setIfInBounds_toArray, List.set_cons_zero, List.set_cons_succ, i64_w, i32_w]
      rfl
     refine take_ (i := 9) (N := some 73) (v := ?_) (a' := ?_) #[true, true, true, true, true, true, true, true, true, true, false, false, false, false, false] rfl rfl (take_ofW HT_.out HW_.out z13_9) (fun _ _ _ h => h) (Or.inl ⟨z13_21, ?_⟩) hHeld ?_ ?_
     rotate_left
     ·rintro w' ⟨s0, s1, s2⟩
      go_simp
      with_reducible rfl
     rotate_left
     ·simp only [Act.put, List.setIfInBounds_toArray, List.set_cons_zero, List.set_cons_succ, i64_w, i32_w]
      rfl
     refine take_ (i := 11) (N := some 75) (v := ?_) (a' := ?_) #[true, true, true, true, true, true, true, true, true, true, false, true, false, false, false] rfl rfl (take_ofW HT_.out HW_.out z13_9) (fun _ _ _ h => h) (Or.inl ⟨z13_21, ?_⟩) hHeld ?_ ?_
     rotate_left
     ·rintro w' ⟨s0, s1, s2⟩
      go_simp
      with_reducible rfl
     rotate_left
     ·simp only [Act.put, List.setIfInBounds_toArray, List.set_cons_zero, List.set_cons_succ, i64_w, i32_w]
      rfl
     refine one_ (i := 10) (N := some 74) #[true, true, true, true, true, true, true, true, true, true, true, true, false, false, false] rfl rfl (one_of HT_.out z13_9) (by decide) (fun K hK => ?_)
     refine goes_ Try.func35 z13_9 rfl #[.agg #[.int .i64 t431, .int .i64 t432, .int .i64 t433]] z13_21 rfl rfl z13_6 ?_
     with_reducible refine (impl_IsContract.calls t431 t432 t433 t440 _ A21.out).mono ?_
     rintro e w24 ⟨rfl, hb⟩
     refine ⟨_, rfl, ?_⟩
     have n0_ := z13_A (Kd.R_below z13_15 hb)
     have n1_ := z13_A (blk_below (g := gb434) (o := .cells #[.slice Ao11 t425.length co11, .int .i64 t428, .int .i64 t429, .int .i64 t430] 30 (0, 0)) z13_2 hb)
     have n2_ := z13_A (blk_below (g := gb435) (o := .cells #[.int .i64 t431, .int .i64 t432, .int .i64 t433] 32 (0, 0)) z13_3 hb)
     have n3_ := z13_A (below_step z13_4 hb)
     clear HO427
     clear BK434
     clear BK435
     clear HB
     have HO427 := n0_
     have BK434 := n1_
     have BK435 := n2_
     have HB := n3_
     clear n0_ n1_ n2_ n3_
     (try clear hb)
     (try clear hb2)
     (try clear hk)
     (try clear hi)
     refine hK.out _ _ ⟨(blk_cell BK435.out 0).trans rfl, (blk_cell BK435.out 1).trans rfl, (blk_cell BK435.out 2).trans rfl⟩ (fun hHeld => ?_)
     clear hK K
     refine norm_ (a' := ?_) ?_ ?_
     rotate_left
     ·show Act.put _ (some 74) _ = _
      simp only [Act.put, List.setIfInBounds_toArray, List.set_cons_zero, List.set_cons_succ, i64_w, i32_w]
      rfl
     refine one_ (i := 12) (N := some 76) #[true, true, true, true, true, true, true, true, true, true, true, true, true, false, false] rfl rfl (one_of HT_.out z13_9) (by decide) (fun K hK => ?_)
     refine goes_ Try.func36 z13_9 rfl #[.agg #[.int .i64 t431, .int .i64 t432, .int .i64 t433]] z13_21 rfl rfl z13_6 ?_
     with_reducible refine (spec_IsContract.calls t431 t432 t433 t441 _ A22.out).mono ?_
     rintro e w25 ⟨rfl, hb⟩
     refine ⟨_, rfl, ?_⟩
     have n0_ := z13_A (Kd.R_below z13_15 hb)
     have n1_ := z13_A (blk_below (g := gb434) (o := .cells #[.slice Ao11 t425.length co11, .int .i64 t428, .int .i64 t429, .int .i64 t430] 30 (0, 0)) z13_2 hb)
     have n2_ := z13_A (blk_below (g := gb435) (o := .cells #[.int .i64 t431, .int .i64 t432, .int .i64 t433] 32 (0, 0)) z13_3 hb)
     have n3_ := z13_A (below_step z13_4 hb)
     clear HO427
     clear BK434
     clear BK435
     clear HB
     have HO427 := n0_
     have BK434 := n1_
     have BK435 := n2_
     have HB := n3_
     clear n0_ n1_ n2_ n3_
     (try clear hb)
     (try clear hb2)
     (try clear hk)
     (try clear hi)
     refine hK.out _ _ ⟨(blk_cell BK435.out 0).trans rfl, (blk_cell BK435.out 1).trans rfl, (blk_cell BK435.out 2).trans rfl⟩ (fun hHeld => ?_)
     clear hK K
     refine norm_ (a' := ?_) ?_ ?_
     rotate_left
     ·show Act.put _ (some 76) _ = _
      simp only [Act.put, List.setIfInBounds_toArray, List.set_cons_zero, List.set_cons_succ, i64_w, i32_w]
      rfl
     refine pure_ (i := 13) (N := some 77) (v := ?_) (a' := ?_) #[true, true, true, true, true, true, true, true, true, true, true, true, true, true, false] rfl rfl (any_of HT_.out z13_9) (fun _ _ _ h => h) (Or.inl ⟨z13_21, ?_⟩) ?_ ?_
     rotate_left
     ·intro w'
      go_simp
      with_reducible rfl
     rotate_left
     ·simp only [Act.put, List.setIfInBounds_toArray, List.set_cons_zero, List.set_cons_succ, i64_w, i32_w]
      rfl
     refine pure_ (i := 14) (N := some 78) (v := ?_) (a' := ?_) #[true, true, true, true, true, true, true, true, true, true, true, true, true, true, true] rfl rfl (any_of HT_.out z13_9) (fun _ _ _ h => h) (Or.inl ⟨z13_21, ?_⟩) ?_ ?_
     rotate_left
     ·intro w'
      go_simp
      with_reducible rfl
     rotate_left
     ·simp only [Act.put, List.setIfInBounds_toArray, List.set_cons_zero, List.set_cons_succ, i64_w, i32_w]
      rfl
     refine done_ (done_of HT_.out z13_9) ?_
     try go_wp2
     go_meet
     case rel => exact ⟨_, ((t440 != t441)), z13_13, H', ⟨by first | omega | exact Nat.le_refl _⟩, ⟨z13_15⟩, ⟨z13_2⟩, ⟨z13_3⟩, ⟨z13_4⟩⟩
  case rest => as_aux_lemma =>
   clear HC7
   (try clear c3); (try clear hcz13_0); (try clear hcz13_1); (try clear hcz13_2); (try clear hcz13_3); (try clear hcz14_0); (try clear hcz14_1); (try clear hcz14_2); (try clear hcz16_0); (try clear hcz16_1); (try clear hcz16_2); (try clear hcz16_3); (try clear hcz17_0); (try clear hcz17_1); (try clear hcz17_2); (try clear hfz13_0); (try clear hfz13_1); (try clear hfz13_2); (try clear hfz13_3); (try clear hfz14_0); (try clear hfz14_1); (try clear hfz14_2); (try clear hfz16_0); (try clear hfz16_1); (try clear hfz16_2); (try clear hfz16_3); (try clear hfz17_0); (try clear hfz17_1); (try clear hfz17_2)
   obtain ⟨kq, x78_6, rfl, HA, HJ6, HO_435000, BK434, BK435, HB⟩ := hcut
   cases kq with
   | zero => exact absurd HA.out (by simp [laws_FnContracts.j0])
   | succ kj6 =>
    have H := HA.out
    clear HA
    simp only [laws_FnContracts.j0] at H
    by_cases c26 : x78_6 = true
    ·subst c26
     have H1 : (none) = some r := z13_16
     clear H
     have H := H1
     clear H1
     exact absurd H z13_25
    ·replace c26 := Bool.eq_false_iff.mpr c26
     subst c26
     have H1 : ((impl_SellerOrder.f kj6 t425 t428 t429 t430 t431 t432 t433).bind fun bt442 => ((spec_SellerOrder.f kj6 t425 t428 t429 t430 t431 t432 t433).bind fun bt444 => (if bt442.1 = bt444.1 then (if (bt442.2 != bt444.2) = true then (none) else (laws_FnContracts.j1 kj6 l0 t436 t437 bt442.1 (bt442.2 != t437) t425 t428 t429 t430 t431 t432 t433)) else (none)))) = some r := z13_10
     clear H
     have H := H1
     clear H1
     replace H := Option.bind_eq_some_iff.mp H
     obtain ⟨⟨t442, t443⟩, A270, H⟩ := H
     (try dsimp only at H)
     have A27 := z13_A A270
     clear A270
     replace H := Option.bind_eq_some_iff.mp H
     obtain ⟨⟨t444, t445⟩, A280, H⟩ := H
     (try dsimp only at H)
     have A28 := z13_A A280
     clear A280
     have HC29 := z13_A H
     clear H
     have hnb30 := NB434_435.out
     have hnc30 := NB435_434.out
     have hcz31_0 : wc.cell? ⟨gb434, 0, none⟩ = some (.slice Ao11 t425.length co11) := (blk_cell BK434.out 0).trans rfl
     have hcz31_1 : wc.cell? ⟨gb434, 1, none⟩ = some (.int .i64 t428) := (blk_cell BK434.out 1).trans rfl
     have hcz31_2 : wc.cell? ⟨gb434, 2, none⟩ = some (.int .i64 t429) := (blk_cell BK434.out 2).trans rfl
     have hcz31_3 : wc.cell? ⟨gb434, 3, none⟩ = some (.int .i64 t430) := (blk_cell BK434.out 3).trans rfl
     have hfz31_0 := blk_frozen BK434.out 0
     have hfz31_1 := blk_frozen BK434.out 1
     have hfz31_2 := blk_frozen BK434.out 2
     have hfz31_3 := blk_frozen BK434.out 3
     have hcz32_0 : wc.cell? ⟨gb435, 0, none⟩ = some (.int .i64 t431) := (blk_cell BK435.out 0).trans rfl
     have hcz32_1 : wc.cell? ⟨gb435, 1, none⟩ = some (.int .i64 t432) := (blk_cell BK435.out 1).trans rfl
     have hcz32_2 : wc.cell? ⟨gb435, 2, none⟩ = some (.int .i64 t433) := (blk_cell BK435.out 2).trans rfl
     have hfz32_0 := blk_frozen BK435.out 0
     have hfz32_1 := blk_frozen BK435.out 1
     have hfz32_2 := blk_frozen BK435.out 2
     go_upto_region 10 with (first | ((with_reducible refine gate_callee (f := 37) rfl ?_); refine goesL_ (some 82) rfl rfl Try.func37 z13_9 rfl #[.agg #[.slice Ao11 t425.length co11, .int .i64 t428, .int .i64 t429, .int .i64 t430], .agg #[.int .i64 t431, .int .i64 t432, .int .i64 t433]] rfl z13_6 ?_; (with_reducible refine (impl_SellerOrder.calls kj6 _ _ t425 t428 t429 t430 t431 t432 t433 t442 t443 _ ?side1 ?side2 A27.out).mono ?_); (case side1 => have zh := (Kd.R_reads' HO_435000.out).2.2; exact z13_C); (case side2 => exact (Kd.R_reads' HO_435000.out).2.1); rintro e w33 ⟨rfl, hb⟩; refine ⟨_, rfl, ?_⟩; have n0_ := z13_A (Kd.R_below z13_5 hb); have n1_ := z13_A (blk_below (g := gb434) (o := .cells #[.slice Ao11 t425.length co11, .int .i64 t428, .int .i64 t429, .int .i64 t430] 30 (0, 0)) z13_2 hb); have n2_ := z13_A (blk_below (g := gb435) (o := .cells #[.int .i64 t431, .int .i64 t432, .int .i64 t433] 32 (0, 0)) z13_3 hb); have n3_ := z13_A (below_step z13_4 hb); clear HO_435000 BK434 BK435 HB; revert n0_ n1_ n2_ n3_; intro HO_435000 BK434 BK435 HB; (try clear hb); (try clear hb2); (try clear hk); (try clear hi); have hcz34_0 : w33.cell? ⟨gb434, 0, none⟩ = some (.slice Ao11 t425.length co11) := (blk_cell BK434.out 0).trans rfl; have hcz34_1 : w33.cell? ⟨gb434, 1, none⟩ = some (.int .i64 t428) := (blk_cell BK434.out 1).trans rfl; have hcz34_2 : w33.cell? ⟨gb434, 2, none⟩ = some (.int .i64 t429) := (blk_cell BK434.out 2).trans rfl; have hcz34_3 : w33.cell? ⟨gb434, 3, none⟩ = some (.int .i64 t430) := (blk_cell BK434.out 3).trans rfl; have hfz34_0 := blk_frozen BK434.out 0; have hfz34_1 := blk_frozen BK434.out 1; have hfz34_2 := blk_frozen BK434.out 2; have hfz34_3 := blk_frozen BK434.out 3; have hcz35_0 : w33.cell? ⟨gb435, 0, none⟩ = some (.int .i64 t431) := (blk_cell BK435.out 0).trans rfl; have hcz35_1 : w33.cell? ⟨gb435, 1, none⟩ = some (.int .i64 t432) := (blk_cell BK435.out 1).trans rfl; have hcz35_2 : w33.cell? ⟨gb435, 2, none⟩ = some (.int .i64 t433) := (blk_cell BK435.out 2).trans rfl; have hfz35_0 := blk_frozen BK435.out 0; have hfz35_1 := blk_frozen BK435.out 1; have hfz35_2 := blk_frozen BK435.out 2) | ((with_reducible refine gate_callee (f := 38) rfl ?_); refine goesL_ (some 88) rfl rfl Try.func38 z13_9 rfl #[.agg #[.slice Ao11 t425.length co11, .int .i64 t428, .int .i64 t429, .int .i64 t430], .agg #[.int .i64 t431, .int .i64 t432, .int .i64 t433]] rfl z13_6 ?_; (with_reducible refine (spec_SellerOrder.calls kj6 _ _ t425 t428 t429 t430 t431 t432 t433 t444 t445 _ ?side1 ?side2 A28.out).mono ?_); (case side1 => have zh := (Kd.R_reads' HO_435000.out).2.2; exact z13_C); (case side2 => exact (Kd.R_reads' HO_435000.out).2.1); rintro e w36 ⟨rfl, hb⟩; refine ⟨_, rfl, ?_⟩; have n0_ := z13_A (Kd.R_below z13_5 hb); have n1_ := z13_A (blk_below (g := gb434) (o := .cells #[.slice Ao11 t425.length co11, .int .i64 t428, .int .i64 t429, .int .i64 t430] 30 (0, 0)) z13_2 hb); have n2_ := z13_A (blk_below (g := gb435) (o := .cells #[.int .i64 t431, .int .i64 t432, .int .i64 t433] 32 (0, 0)) z13_3 hb); have n3_ := z13_A (below_step z13_4 hb); clear HO_435000 BK434 BK435 HB; revert n0_ n1_ n2_ n3_; intro HO_435000 BK434 BK435 HB; (try clear hb); (try clear hb2); (try clear hk); (try clear hi)))
     (try simp only [Act.put, List.setIfInBounds_toArray, List.set_cons_zero, List.set_cons_succ])
     go_cut [103] (fun v103 wc => ∃ (kq : Nat) (x103_28 : Bool), v103 = .bool x103_28 ∧ Aside0 (laws_FnContracts.j1 kq l0 t436 t437 t442 x103_28 t425 t428 t429 t430 t431 t432 t433 = some r) ∧ Aside0 (kq ≤ kj6) ∧ Aside0 (Kd.R (Kd.int .i64) 3 wc w.heap.size (fun _ => True) (.slice Ao11 t425.length co11) t425) ∧ Aside0 (wc.heap[gb434]? = some (.cells #[(.slice Ao11 t425.length co11), .int .i64 t428, .int .i64 t429, .int .i64 t430] 30 (0, 0))) ∧ Aside0 (wc.heap[gb435]? = some (.cells #[.int .i64 t431, .int .i64 t432, .int .i64 t433] 32 (0, 0))) ∧ Aside0 (Below w.heap.size w wc))
     case first => as_aux_lemma =>
      have H := HC29.out
      clear HC29
      by_cases c37 : t442 = t444
      ·rw [if_pos c37] at H
       have c37b0 : (t442 == t444) = true := beq_iff_eq.mpr c37
       have c37b1 : (t442 != t444) = false := bne_eq_false_iff_eq.mpr c37
       clear c37
       (first | rw [c37b0] | (simp only [i64_w, i32_w]; rw [c37b0]) | skip)
       by_cases c38 : (t443 != t445) = true
       ·rw [if_pos c38] at H
        exact absurd H z13_25
       ·rw [if_neg c38] at H
        have c38b0 : (t443 != t445) = false := by simpa using c38
        (try (have c38b1 : decide (t443 = t445) = true := by simpa using c38))
        (try (have c38b2 : (t443 == t445) = true := by simpa using c38))
        clear c38
        have H' := z13_A H
        clear H
        go_wp2
        go_meet
        case rel => exact ⟨_, ((t443 != t437)), z13_13, H', ⟨by have := HJ6.out; first | omega | exact Nat.le_refl _⟩, ⟨z13_5⟩, ⟨z13_2⟩, ⟨z13_3⟩, ⟨z13_4⟩⟩
      ·rw [if_neg c37] at H
       exact absurd H z13_25
     case rest => as_aux_lemma =>
      clear HC29
      (try clear c26); (try clear c30); (try clear c31); (try clear c32); (try clear c33); (try clear c34); (try clear c35); (try clear c36); (try clear c37); (try clear c37b0); (try clear c37b1); (try clear c38); (try clear c38b0); (try clear c38b1); (try clear c38b2); (try clear hcz31_0); (try clear hcz31_1); (try clear hcz31_2); (try clear hcz31_3); (try clear hcz32_0); (try clear hcz32_1); (try clear hcz32_2); (try clear hcz34_0); (try clear hcz34_1); (try clear hcz34_2); (try clear hcz34_3); (try clear hcz35_0); (try clear hcz35_1); (try clear hcz35_2); (try clear hfz31_0); (try clear hfz31_1); (try clear hfz31_2); (try clear hfz31_3); (try clear hfz32_0); (try clear hfz32_1); (try clear hfz32_2); (try clear hfz34_0); (try clear hfz34_1); (try clear hfz34_2); (try clear hfz34_3); (try clear hfz35_0); (try clear hfz35_1); (try clear hfz35_2)
      obtain ⟨kq, x103_28, rfl, HA, HJ28, HO_435000, BK434, BK435, HB⟩ := hcut
      cases kq with
      | zero => exact absurd HA.out (by simp [laws_FnContracts.j1])
      | succ kj28 =>
       have H := HA.out
       clear HA
       simp only [laws_FnContracts.j1] at H
       by_cases c39 : x103_28 = true
       ·subst c39
        have H1 : (none) = some r := z13_16
        clear H
        have H := H1
        clear H1
        exact absurd H z13_25
       ·replace c39 := Bool.eq_false_iff.mpr c39
        subst c39
        have H1 : ((impl_ProfitLoss.f kj28 t425 t428 t429 t430 t431 t432 t433).bind fun bt446 => ((spec_ProfitLoss.f kj28 t425 t428 t429 t430 t431 t432 t433).bind fun bt448 => (if bt446.1 = bt448.1 then (if (bt446.2 != bt448.2) = true then (none) else (if (bt446.2 != t437) = true then (none) else (laws_FnContracts.j2 kj28 l0 t436 t437 t442 bt446.1 (decide (bt446.1 < 0)) t425 t428 t429 t430 t431 t432 t433))) else (none)))) = some r := z13_10
        clear H
        have H := H1
        clear H1
        replace H := Option.bind_eq_some_iff.mp H
        obtain ⟨⟨t446, t447⟩, A400, H⟩ := H
        (try dsimp only at H)
        have A40 := z13_A A400
        clear A400
        replace H := Option.bind_eq_some_iff.mp H
        obtain ⟨⟨t448, t449⟩, A410, H⟩ := H
        (try dsimp only at H)
        have A41 := z13_A A410
        clear A410
        have HC42 := z13_A H
        clear H
        have hnb43 := NB434_435.out
        have hnc43 := NB435_434.out
        have hcz44_0 : wc.cell? ⟨gb434, 0, none⟩ = some (.slice Ao11 t425.length co11) := (blk_cell BK434.out 0).trans rfl
        have hcz44_1 : wc.cell? ⟨gb434, 1, none⟩ = some (.int .i64 t428) := (blk_cell BK434.out 1).trans rfl
        have hcz44_2 : wc.cell? ⟨gb434, 2, none⟩ = some (.int .i64 t429) := (blk_cell BK434.out 2).trans rfl
        have hcz44_3 : wc.cell? ⟨gb434, 3, none⟩ = some (.int .i64 t430) := (blk_cell BK434.out 3).trans rfl
        have hfz44_0 := blk_frozen BK434.out 0
        have hfz44_1 := blk_frozen BK434.out 1
        have hfz44_2 := blk_frozen BK434.out 2
        have hfz44_3 := blk_frozen BK434.out 3
        have hcz45_0 : wc.cell? ⟨gb435, 0, none⟩ = some (.int .i64 t431) := (blk_cell BK435.out 0).trans rfl
        have hcz45_1 : wc.cell? ⟨gb435, 1, none⟩ = some (.int .i64 t432) := (blk_cell BK435.out 1).trans rfl
        have hcz45_2 : wc.cell? ⟨gb435, 2, none⟩ = some (.int .i64 t433) := (blk_cell BK435.out 2).trans rfl
        have hfz45_0 := blk_frozen BK435.out 0
        have hfz45_1 := blk_frozen BK435.out 1
        have hfz45_2 := blk_frozen BK435.out 2
        go_upto_region 14 with (first | ((with_reducible refine gate_callee (f := 17) rfl ?_); refine goesL_ (some 107) rfl rfl Try.func17 z13_9 rfl #[.agg #[.slice Ao11 t425.length co11, .int .i64 t428, .int .i64 t429, .int .i64 t430], .agg #[.int .i64 t431, .int .i64 t432, .int .i64 t433]] rfl z13_6 ?_; (with_reducible refine (impl_ProfitLoss.calls kj28 _ _ t425 t428 t429 t430 t431 t432 t433 t446 t447 _ ?side1 ?side2 A40.out).mono ?_); (case side1 => have zh := (Kd.R_reads' HO_435000.out).2.2; exact z13_C); (case side2 => exact (Kd.R_reads' HO_435000.out).2.1); rintro e w46 ⟨rfl, hb⟩; refine ⟨_, rfl, ?_⟩; have n0_ := z13_A (Kd.R_below z13_5 hb); have n1_ := z13_A (blk_below (g := gb434) (o := .cells #[.slice Ao11 t425.length co11, .int .i64 t428, .int .i64 t429, .int .i64 t430] 30 (0, 0)) z13_2 hb); have n2_ := z13_A (blk_below (g := gb435) (o := .cells #[.int .i64 t431, .int .i64 t432, .int .i64 t433] 32 (0, 0)) z13_3 hb); have n3_ := z13_A (below_step z13_4 hb); clear HO_435000 BK434 BK435 HB; revert n0_ n1_ n2_ n3_; intro HO_435000 BK434 BK435 HB; (try clear hb); (try clear hb2); (try clear hk); (try clear hi); have hcz47_0 : w46.cell? ⟨gb434, 0, none⟩ = some (.slice Ao11 t425.length co11) := (blk_cell BK434.out 0).trans rfl; have hcz47_1 : w46.cell? ⟨gb434, 1, none⟩ = some (.int .i64 t428) := (blk_cell BK434.out 1).trans rfl; have hcz47_2 : w46.cell? ⟨gb434, 2, none⟩ = some (.int .i64 t429) := (blk_cell BK434.out 2).trans rfl; have hcz47_3 : w46.cell? ⟨gb434, 3, none⟩ = some (.int .i64 t430) := (blk_cell BK434.out 3).trans rfl; have hfz47_0 := blk_frozen BK434.out 0; have hfz47_1 := blk_frozen BK434.out 1; have hfz47_2 := blk_frozen BK434.out 2; have hfz47_3 := blk_frozen BK434.out 3; have hcz48_0 : w46.cell? ⟨gb435, 0, none⟩ = some (.int .i64 t431) := (blk_cell BK435.out 0).trans rfl; have hcz48_1 : w46.cell? ⟨gb435, 1, none⟩ = some (.int .i64 t432) := (blk_cell BK435.out 1).trans rfl; have hcz48_2 : w46.cell? ⟨gb435, 2, none⟩ = some (.int .i64 t433) := (blk_cell BK435.out 2).trans rfl; have hfz48_0 := blk_frozen BK435.out 0; have hfz48_1 := blk_frozen BK435.out 1; have hfz48_2 := blk_frozen BK435.out 2) | ((with_reducible refine gate_callee (f := 16) rfl ?_); refine goesL_ (some 113) rfl rfl Try.func16 z13_9 rfl #[.agg #[.slice Ao11 t425.length co11, .int .i64 t428, .int .i64 t429, .int .i64 t430], .agg #[.int .i64 t431, .int .i64 t432, .int .i64 t433]] rfl z13_6 ?_; (with_reducible refine (spec_ProfitLoss.calls kj28 _ _ t425 t428 t429 t430 t431 t432 t433 t448 t449 _ ?side1 ?side2 A41.out).mono ?_); (case side1 => have zh := (Kd.R_reads' HO_435000.out).2.2; exact z13_C); (case side2 => exact (Kd.R_reads' HO_435000.out).2.1); rintro e w49 ⟨rfl, hb⟩; refine ⟨_, rfl, ?_⟩; have n0_ := z13_A (Kd.R_below z13_5 hb); have n1_ := z13_A (blk_below (g := gb434) (o := .cells #[.slice Ao11 t425.length co11, .int .i64 t428, .int .i64 t429, .int .i64 t430] 30 (0, 0)) z13_2 hb); have n2_ := z13_A (blk_below (g := gb435) (o := .cells #[.int .i64 t431, .int .i64 t432, .int .i64 t433] 32 (0, 0)) z13_3 hb); have n3_ := z13_A (below_step z13_4 hb); clear HO_435000 BK434 BK435 HB; revert n0_ n1_ n2_ n3_; intro HO_435000 BK434 BK435 HB; (try clear hb); (try clear hb2); (try clear hk); (try clear hi)))
        (try simp only [Act.put, List.setIfInBounds_toArray, List.set_cons_zero, List.set_cons_succ])
        go_cut [132] (fun v132 wc => ∃ (kq : Nat) (x132_41 : Bool), v132 = .bool x132_41 ∧ Aside0 (laws_FnContracts.j2 kq l0 t436 t437 t442 t446 x132_41 t425 t428 t429 t430 t431 t432 t433 = some r) ∧ Aside0 (kq ≤ kj28) ∧ Aside0 (Kd.R (Kd.int .i64) 3 wc w.heap.size (fun _ => True) (.slice Ao11 t425.length co11) t425) ∧ Aside0 (wc.heap[gb434]? = some (.cells #[(.slice Ao11 t425.length co11), .int .i64 t428, .int .i64 t429, .int .i64 t430] 30 (0, 0))) ∧ Aside0 (wc.heap[gb435]? = some (.cells #[.int .i64 t431, .int .i64 t432, .int .i64 t433] 32 (0, 0))) ∧ Aside0 (Below w.heap.size w wc))
        case first => as_aux_lemma =>
         have H := HC42.out
         clear HC42
         by_cases c50 : t446 = t448
         ·rw [if_pos c50] at H
          have c50b0 : (t446 == t448) = true := beq_iff_eq.mpr c50
          have c50b1 : (t446 != t448) = false := bne_eq_false_iff_eq.mpr c50
          clear c50
          (first | rw [c50b0] | (simp only [i64_w, i32_w]; rw [c50b0]) | skip)
          by_cases c51 : (t447 != t449) = true
          ·rw [if_pos c51] at H
           exact absurd H z13_25
          ·rw [if_neg c51] at H
           have c51b0 : (t447 != t449) = false := by simpa using c51
           (try (have c51b1 : decide (t447 = t449) = true := by simpa using c51))
           (try (have c51b2 : (t447 == t449) = true := by simpa using c51))
           clear c51
           by_cases c52 : (t447 != t437) = true
           ·rw [if_pos c52] at H
            exact absurd H z13_25
           ·rw [if_neg c52] at H
            have c52b0 : (t447 != t437) = false := by simpa using c52
            (try (have c52b1 : decide (t447 = t437) = true := by simpa using c52))
            (try (have c52b2 : (t447 == t437) = true := by simpa using c52))
            clear c52
            have H' := z13_A H
            clear H
            go_wp2
            go_meet
            case rel => exact ⟨_, (decide (t446 < 0)), z13_13, H', ⟨by have := HJ6.out; have := HJ28.out; first | omega | exact Nat.le_refl _⟩, ⟨z13_5⟩, ⟨z13_2⟩, ⟨z13_3⟩, ⟨z13_4⟩⟩
         ·rw [if_neg c50] at H
          exact absurd H z13_25
        case rest => as_aux_lemma =>
         clear HC42
         (try clear c4); (try clear c5); (try clear c16); (try clear c17); (try clear c39); (try clear c43); (try clear c50); (try clear c50b0); (try clear c50b1); (try clear c51); (try clear c51b0); (try clear c51b1); (try clear c51b2); (try clear c52); (try clear c52b0); (try clear c52b1); (try clear c52b2); (try clear hcz44_0); (try clear hcz44_1); (try clear hcz44_2); (try clear hcz44_3); (try clear hcz45_0); (try clear hcz45_1); (try clear hcz45_2); (try clear hcz47_0); (try clear hcz47_1); (try clear hcz47_2); (try clear hcz47_3); (try clear hcz48_0); (try clear hcz48_1); (try clear hcz48_2); (try clear hfz44_0); (try clear hfz44_1); (try clear hfz44_2); (try clear hfz44_3); (try clear hfz45_0); (try clear hfz45_1); (try clear hfz45_2); (try clear hfz47_0); (try clear hfz47_1); (try clear hfz47_2); (try clear hfz47_3); (try clear hfz48_0); (try clear hfz48_1); (try clear hfz48_2)
         obtain ⟨kq, x132_41, rfl, HA, HJ41, HO_435000, BK434, BK435, HB⟩ := hcut
         cases kq with
         | zero => exact absurd HA.out (by simp [laws_FnContracts.j2])
         | succ kj41 =>
          have H := HA.out
          clear HA
          simp only [laws_FnContracts.j2] at H
          by_cases c53 : x132_41 = true
          ·subst c53
           have H1 : (none) = some r := z13_16
           clear H
           have H := H1
           clear H1
           exact absurd H z13_25
          ·replace c53 := Bool.eq_false_iff.mpr c53
           subst c53
           have H1 : ((impl_IsCoordinated.f kj41 t425 t428 t429 t430 t431 t432 t433).bind fun bt450 => ((spec_IsCoordinated.f kj41 t425 t428 t429 t430 t431 t432 t433).bind fun bt452 => (if (bt450.1 != bt452.1) = true then (none) else (if (bt450.2 != bt452.2) = true then (none) else (if (bt450.2 != t437) = true then (none) else (if t437 = true then (laws_FnContracts.j3 kj41 l0 t436 t442 t446 (bt450.1 != (t446 == 0)) t425 t428 t429 t430 t431 t432 t433) else (laws_FnContracts.j3 kj41 l0 t436 t442 t446 false t425 t428 t429 t430 t431 t432 t433))))))) = some r := z13_10
           clear H
           have H := H1
           clear H1
           replace H := Option.bind_eq_some_iff.mp H
           obtain ⟨⟨t450, t451⟩, A540, H⟩ := H
           (try dsimp only at H)
           have A54 := z13_A A540
           clear A540
           replace H := Option.bind_eq_some_iff.mp H
           obtain ⟨⟨t452, t453⟩, A550, H⟩ := H
           (try dsimp only at H)
           have A55 := z13_A A550
           clear A550
           have HC56 := z13_A H
           clear H
           have hnb57 := NB434_435.out
           have hnc57 := NB435_434.out
           have hcz58_0 : wc.cell? ⟨gb434, 0, none⟩ = some (.slice Ao11 t425.length co11) := (blk_cell BK434.out 0).trans rfl
           have hcz58_1 : wc.cell? ⟨gb434, 1, none⟩ = some (.int .i64 t428) := (blk_cell BK434.out 1).trans rfl
           have hcz58_2 : wc.cell? ⟨gb434, 2, none⟩ = some (.int .i64 t429) := (blk_cell BK434.out 2).trans rfl
           have hcz58_3 : wc.cell? ⟨gb434, 3, none⟩ = some (.int .i64 t430) := (blk_cell BK434.out 3).trans rfl
           have hfz58_0 := blk_frozen BK434.out 0
           have hfz58_1 := blk_frozen BK434.out 1
           have hfz58_2 := blk_frozen BK434.out 2
           have hfz58_3 := blk_frozen BK434.out 3
           have hcz59_0 : wc.cell? ⟨gb435, 0, none⟩ = some (.int .i64 t431) := (blk_cell BK435.out 0).trans rfl
           have hcz59_1 : wc.cell? ⟨gb435, 1, none⟩ = some (.int .i64 t432) := (blk_cell BK435.out 1).trans rfl
           have hcz59_2 : wc.cell? ⟨gb435, 2, none⟩ = some (.int .i64 t433) := (blk_cell BK435.out 2).trans rfl
           have hfz59_0 := blk_frozen BK435.out 0
           have hfz59_1 := blk_frozen BK435.out 1
           have hfz59_2 := blk_frozen BK435.out 2
           go_upto_region 18 with (first | ((with_reducible refine gate_callee (f := 14) rfl ?_); refine goesL_ (some 136) rfl rfl Try.func14 z13_9 rfl #[.agg #[.slice Ao11 t425.length co11, .int .i64 t428, .int .i64 t429, .int .i64 t430], .agg #[.int .i64 t431, .int .i64 t432, .int .i64 t433]] rfl z13_6 ?_; (with_reducible refine (impl_IsCoordinated.calls kj41 _ _ t425 t428 t429 t430 t431 t432 t433 t450 t451 _ ?side1 ?side2 A54.out).mono ?_); (case side1 => have zh := (Kd.R_reads' HO_435000.out).2.2; exact z13_C); (case side2 => exact (Kd.R_reads' HO_435000.out).2.1); rintro e w60 ⟨rfl, hb⟩; refine ⟨_, rfl, ?_⟩; have n0_ := z13_A (Kd.R_below z13_5 hb); have n1_ := z13_A (blk_below (g := gb434) (o := .cells #[.slice Ao11 t425.length co11, .int .i64 t428, .int .i64 t429, .int .i64 t430] 30 (0, 0)) z13_2 hb); have n2_ := z13_A (blk_below (g := gb435) (o := .cells #[.int .i64 t431, .int .i64 t432, .int .i64 t433] 32 (0, 0)) z13_3 hb); have n3_ := z13_A (below_step z13_4 hb); clear HO_435000 BK434 BK435 HB; revert n0_ n1_ n2_ n3_; intro HO_435000 BK434 BK435 HB; (try clear hb); (try clear hb2); (try clear hk); (try clear hi); have hcz61_0 : w60.cell? ⟨gb434, 0, none⟩ = some (.slice Ao11 t425.length co11) := (blk_cell BK434.out 0).trans rfl; have hcz61_1 : w60.cell? ⟨gb434, 1, none⟩ = some (.int .i64 t428) := (blk_cell BK434.out 1).trans rfl; have hcz61_2 : w60.cell? ⟨gb434, 2, none⟩ = some (.int .i64 t429) := (blk_cell BK434.out 2).trans rfl; have hcz61_3 : w60.cell? ⟨gb434, 3, none⟩ = some (.int .i64 t430) := (blk_cell BK434.out 3).trans rfl; have hfz61_0 := blk_frozen BK434.out 0; have hfz61_1 := blk_frozen BK434.out 1; have hfz61_2 := blk_frozen BK434.out 2; have hfz61_3 := blk_frozen BK434.out 3; have hcz62_0 : w60.cell? ⟨gb435, 0, none⟩ = some (.int .i64 t431) := (blk_cell BK435.out 0).trans rfl; have hcz62_1 : w60.cell? ⟨gb435, 1, none⟩ = some (.int .i64 t432) := (blk_cell BK435.out 1).trans rfl; have hcz62_2 : w60.cell? ⟨gb435, 2, none⟩ = some (.int .i64 t433) := (blk_cell BK435.out 2).trans rfl; have hfz62_0 := blk_frozen BK435.out 0; have hfz62_1 := blk_frozen BK435.out 1; have hfz62_2 := blk_frozen BK435.out 2) | ((with_reducible refine gate_callee (f := 11) rfl ?_); refine goesL_ (some 142) rfl rfl Try.func11 z13_9 rfl #[.agg #[.slice Ao11 t425.length co11, .int .i64 t428, .int .i64 t429, .int .i64 t430], .agg #[.int .i64 t431, .int .i64 t432, .int .i64 t433]] rfl z13_6 ?_; (with_reducible refine (spec_IsCoordinated.calls kj41 _ _ t425 t428 t429 t430 t431 t432 t433 t452 t453 _ ?side1 ?side2 A55.out).mono ?_); (case side1 => have zh := (Kd.R_reads' HO_435000.out).2.2; exact z13_C); (case side2 => exact (Kd.R_reads' HO_435000.out).2.1); rintro e w63 ⟨rfl, hb⟩; refine ⟨_, rfl, ?_⟩; have n0_ := z13_A (Kd.R_below z13_5 hb); have n1_ := z13_A (blk_below (g := gb434) (o := .cells #[.slice Ao11 t425.length co11, .int .i64 t428, .int .i64 t429, .int .i64 t430] 30 (0, 0)) z13_2 hb); have n2_ := z13_A (blk_below (g := gb435) (o := .cells #[.int .i64 t431, .int .i64 t432, .int .i64 t433] 32 (0, 0)) z13_3 hb); have n3_ := z13_A (below_step z13_4 hb); clear HO_435000 BK434 BK435 HB; revert n0_ n1_ n2_ n3_; intro HO_435000 BK434 BK435 HB; (try clear hb); (try clear hb2); (try clear hk); (try clear hi)))
           (try simp only [Act.put, List.setIfInBounds_toArray, List.set_cons_zero, List.set_cons_succ])
           go_cut [166] (fun v166 wc => ∃ (kq : Nat) (x166_55 : Bool), v166 = .bool x166_55 ∧ Aside0 (laws_FnContracts.j3 kq l0 t436 t442 t446 x166_55 t425 t428 t429 t430 t431 t432 t433 = some r) ∧ Aside0 (kq ≤ kj41) ∧ Aside0 (Kd.R (Kd.int .i64) 3 wc w.heap.size (fun _ => True) (.slice Ao11 t425.length co11) t425) ∧ Aside0 (wc.heap[gb434]? = some (.cells #[(.slice Ao11 t425.length co11), .int .i64 t428, .int .i64 t429, .int .i64 t430] 30 (0, 0))) ∧ Aside0 (wc.heap[gb435]? = some (.cells #[.int .i64 t431, .int .i64 t432, .int .i64 t433] 32 (0, 0))) ∧ Aside0 (Below w.heap.size w wc))
           case first => as_aux_lemma =>
            have H := HC56.out
            clear HC56
            by_cases c64 : (t450 != t452) = true
            ·rw [if_pos c64] at H
             exact absurd H z13_25
            ·rw [if_neg c64] at H
             have c64b0 : (t450 != t452) = false := by simpa using c64
             (try (have c64b1 : decide (t450 = t452) = true := by simpa using c64))
             (try (have c64b2 : (t450 == t452) = true := by simpa using c64))
             clear c64
             (first | rw [c64b0] | (simp only [i64_w, i32_w]; rw [c64b0]) | skip)
             by_cases c65 : (t451 != t453) = true
             ·rw [if_pos c65] at H
              exact absurd H z13_25
             ·rw [if_neg c65] at H
              have c65b0 : (t451 != t453) = false := by simpa using c65
              (try (have c65b1 : decide (t451 = t453) = true := by simpa using c65))
              (try (have c65b2 : (t451 == t453) = true := by simpa using c65))
              clear c65
              by_cases c66 : (t451 != t437) = true
              ·rw [if_pos c66] at H
               exact absurd H z13_25
              ·rw [if_neg c66] at H
               have c66b0 : (t451 != t437) = false := by simpa using c66
               (try (have c66b1 : decide (t451 = t437) = true := by simpa using c66))
               (try (have c66b2 : (t451 == t437) = true := by simpa using c66))
               clear c66
               by_cases c67 : t437 = true
               ·subst c67
                have H1 : (laws_FnContracts.j3 kj41 l0 t436 t442 t446 (t450 != (t446 == 0)) t425 t428 t429 t430 t431 t432 t433) = some r := z13_16
                clear H
                have H := H1
                clear H1
                have H' := z13_A H
                clear H
                go_wp2
                go_meet
                case rel => exact ⟨_, ((t450 != (t446 == 0))), z13_13, H', ⟨by have := HJ6.out; have := HJ28.out; have := HJ41.out; first | omega | exact Nat.le_refl _⟩, ⟨z13_5⟩, ⟨z13_2⟩, ⟨z13_3⟩, ⟨z13_4⟩⟩
               ·replace c67 := Bool.eq_false_iff.mpr c67
                subst c67
                have H1 : (laws_FnContracts.j3 kj41 l0 t436 t442 t446 false t425 t428 t429 t430 t431 t432 t433) = some r := z13_10
                clear H
                have H := H1
                clear H1
                have H' := z13_A H
                clear H
                go_wp2
                go_meet
                case rel => exact ⟨_, (false), z13_13, H', ⟨by have := HJ6.out; have := HJ28.out; have := HJ41.out; first | omega | exact Nat.le_refl _⟩, ⟨z13_5⟩, ⟨z13_2⟩, ⟨z13_3⟩, ⟨z13_4⟩⟩
           case rest => as_aux_lemma =>
            clear HC56
            (try clear c6); (try clear c11); (try clear c14); (try clear c53); (try clear c57); (try clear c64); (try clear c64b0); (try clear c64b1); (try clear c64b2); (try clear c65); (try clear c65b0); (try clear c65b1); (try clear c65b2); (try clear c66); (try clear c66b0); (try clear c66b1); (try clear c66b2); (try clear c67); (try clear hcz58_0); (try clear hcz58_1); (try clear hcz58_2); (try clear hcz58_3); (try clear hcz59_0); (try clear hcz59_1); (try clear hcz59_2); (try clear hcz61_0); (try clear hcz61_1); (try clear hcz61_2); (try clear hcz61_3); (try clear hcz62_0); (try clear hcz62_1); (try clear hcz62_2); (try clear hfz58_0); (try clear hfz58_1); (try clear hfz58_2); (try clear hfz58_3); (try clear hfz59_0); (try clear hfz59_1); (try clear hfz59_2); (try clear hfz61_0); (try clear hfz61_1); (try clear hfz61_2); (try clear hfz61_3); (try clear hfz62_0); (try clear hfz62_1); (try clear hfz62_2)
            obtain ⟨kq, x166_55, rfl, HA, HJ55, HO_435000, BK434, BK435, HB⟩ := hcut
            cases kq with
            | zero => exact absurd HA.out (by simp [laws_FnContracts.j3])
            | succ kj55 =>
             have H := HA.out
             clear HA
             simp only [laws_FnContracts.j3] at H
             by_cases c68 : x166_55 = true
             ·subst c68
              have H1 : (none) = some r := z13_16
              clear H
              have H := H1
              clear H1
              exact absurd H z13_25
             ·replace c68 := Bool.eq_false_iff.mpr c68
              subst c68
              have H1 : ((spec_DrawPayFor.f kj55 l0).bind fun bt454 => ((impl_PayFor.f kj55 bt454.1 bt454.2.1 bt454.2.2.1 bt454.2.2.2.1 bt454.2.2.2.2.1 bt454.2.2.2.2.2).bind fun bt463 => ((spec_PayFor.f kj55 bt454.1 bt454.2.1 bt454.2.2.1 bt454.2.2.2.1 bt454.2.2.2.2.1 bt454.2.2.2.2.2).bind fun bt465 => (if bt463.1 = bt465.1 then (laws_FnContracts.j4 kj55 t436 t442 t446 bt454.2.2.2.2.1 bt454.2.2.2.2.2 bt463.1 bt463.2 (bt463.2 != bt465.2) t425 t428 t429 t430 t431 t432 t433 bt454.1 bt454.2.1 bt454.2.2.1 bt454.2.2.2.1) else (none))))) = some r := z13_10
              clear H
              have H := H1
              clear H1
              replace H := Option.bind_eq_some_iff.mp H
              obtain ⟨⟨t454, t457, t458, t459, t460, t461⟩, A690, H⟩ := H
              (try dsimp only at H)
              have A69 := z13_A A690
              clear A690
              replace H := Option.bind_eq_some_iff.mp H
              obtain ⟨⟨t463, t464⟩, A700, H⟩ := H
              (try dsimp only at H)
              have A70 := z13_A A700
              clear A700
              replace H := Option.bind_eq_some_iff.mp H
              obtain ⟨⟨t465, t466⟩, A710, H⟩ := H
              (try dsimp only at H)
              have A71 := z13_A A710
              clear A710
              have HC72 := z13_A H
              clear H
              go_upto_region 23 with (first | ((with_reducible refine gate_callee (f := 39) rfl ?_); refine goesL_ (some 169) rfl rfl Try.func39 z13_9 rfl #[.slice A0 l0.length c0] rfl z13_6 ?_; (with_reducible refine (spec_DrawPayFor.calls kj55 _ _ l0 t454 t457 t458 t459 t460 t461 _ ?side1 ?side2 A69.out).mono ?_); (case side1 => have zh := (Kd.C_below HR0.out HB.out); exact z13_C); (case side2 => exact HC0.out); rintro e w73 ⟨v455, rfl, ho0, hb⟩; refine ⟨_, rfl, ?_⟩; have n0_ := z13_A (Kd.R_elder' z13_5 (Kd.R_base ho0) hb); have n1_ := z13_A (Kd.R_lower (Kd.R_new' ho0 (Kd.R_lt z13_5)) (below_size z13_4)); have n2_ := z13_A (blk_below (g := gb434) (o := .cells #[.slice Ao11 t425.length co11, .int .i64 t428, .int .i64 t429, .int .i64 t430] 30 (0, 0)) z13_2 hb); have n3_ := z13_A (blk_below (g := gb435) (o := .cells #[.int .i64 t431, .int .i64 t432, .int .i64 t433] 32 (0, 0)) z13_3 hb); have n4_ := z13_A (below_step z13_4 hb); clear HO_435000 BK434 BK435 HB; revert n0_ n1_ n2_ n3_ n4_; intro HO_435000 HO456 BK434 BK435 HB; (try clear hb); (try clear hb2); (try clear hk); (try clear hi); (try clear ho0)) | ((with_reducible refine gate_dst (N := 21) rfl ?_); (try (refine gate_guard z13_21 ?_; dsimp only)); refine box_event ?hg (N := 21) ?hd (cs := #[.slice none 0 0, .int .i64 0, .int .i64 0, .int .i64 0]) (t := 30) ?hr ?_; (case hd => rfl); (case hg => rfl); (case hr => first | (go_simp; done) | (go_simp; rfl)); intro gb462 hg w74 hbox hb; have n0_ := z13_A (Kd.R_below z13_5 hb); have n1_ := z13_A (Kd.R_below z13_28 hb); have n2_ := z13_A (blk_below (g := gb434) (o := .cells #[.slice Ao11 t425.length co11, .int .i64 t428, .int .i64 t429, .int .i64 t430] 30 (0, 0)) z13_2 hb); have n3_ := z13_A (blk_below (g := gb435) (o := .cells #[.int .i64 t431, .int .i64 t432, .int .i64 t433] 32 (0, 0)) z13_3 hb); have n4_ := z13_A (below_step z13_4 hb); have n5_ := z13_A (hbox); have n6_ := z13_A ((by rw [hg]; exact (below_size z13_4) : w.heap.size ≤ gb462)); have n7_ := z13_A ((by rw [hg]; exact (below_size z13_4) : w.heap.size ≤ gb462)); have n8_ := z13_A ((by rw [hg]; exact Nat.ne_of_lt (blk_lt (g := gb434) (o := .cells #[.slice Ao11 t425.length co11, .int .i64 t428, .int .i64 t429, .int .i64 t430] 30 (0, 0)) z13_2) : gb434 ≠ gb462)); have n9_ := z13_A ((by rw [hg]; exact Nat.ne_of_gt (blk_lt (g := gb434) (o := .cells #[.slice Ao11 t425.length co11, .int .i64 t428, .int .i64 t429, .int .i64 t430] 30 (0, 0)) z13_2) : gb462 ≠ gb434)); have n10_ := z13_A ((by rw [hg]; exact Nat.ne_of_lt (blk_lt (g := gb435) (o := .cells #[.int .i64 t431, .int .i64 t432, .int .i64 t433] 32 (0, 0)) z13_3) : gb435 ≠ gb462)); have n11_ := z13_A ((by rw [hg]; exact Nat.ne_of_gt (blk_lt (g := gb435) (o := .cells #[.int .i64 t431, .int .i64 t432, .int .i64 t433] 32 (0, 0)) z13_3) : gb462 ≠ gb435)); clear HO_435000 HO456 BK434 BK435 HB; revert n0_ n1_ n2_ n3_ n4_ n5_ n6_ n7_ n8_ n9_ n10_ n11_; intro HO_435000 HO456 BK434 BK435 HB BK462 GW462 GE462 NB434_462 NB462_434 NB435_462 NB462_435; clear hb hbox hg; obtain ⟨Ao75, co75, eo75⟩ := Kd.R_slice HO456.out; subst eo75; have hnb76 := NB462_434.out; have hnc76 := NB434_462.out; have hnb77 := NB462_435.out; have hnc77 := NB435_462.out; have hcz78_0 : w74.cell? ⟨gb462, 0, none⟩ = some (.slice none 0 0) := (blk_cell BK462.out 0).trans rfl; have hcz78_1 : w74.cell? ⟨gb462, 1, none⟩ = some (.int .i64 0) := (blk_cell BK462.out 1).trans rfl; have hcz78_2 : w74.cell? ⟨gb462, 2, none⟩ = some (.int .i64 0) := (blk_cell BK462.out 2).trans rfl; have hcz78_3 : w74.cell? ⟨gb462, 3, none⟩ = some (.int .i64 0) := (blk_cell BK462.out 3).trans rfl; have hfz78_0 := blk_frozen BK462.out 0; have hfz78_1 := blk_frozen BK462.out 1; have hfz78_2 := blk_frozen BK462.out 2; have hfz78_3 := blk_frozen BK462.out 3) | ((with_reducible refine gate_callee (f := 40) rfl ?_); refine goesL_ (some 177) rfl rfl Try.func40 z13_9 rfl #[.agg #[.slice Ao75 t454.length co75, .int .i64 t457, .int .i64 t458, .int .i64 t459], .int .i64 t460, .int .i64 t461] rfl z13_6 ?_; (with_reducible refine (impl_PayFor.calls kj55 _ _ t454 t457 t458 t459 t460 t461 t463 t464 _ ?side1 ?side2 A70.out).mono ?_); (case side1 => refine (Kd.R_reads' (e := 3) (base := w.heap.size) (ok := fun k_ => (True ∧ z13_S k_ Ao11 t425.length co11)) (n := t454.length) (c := co75) ?_).2.2; exact z13_17); (case side2 => exact (Kd.R_reads' HO456.out).2.1); rintro e w79 ⟨rfl, hb⟩; refine ⟨_, rfl, ?_⟩; have n0_ := z13_A (Kd.R_below (by (with_reducible repeat (first | apply Kd.R_alloc | apply Kd.R_drewN | apply Kd.R_drew)); exact (Kd.R_mono (Kd.R_far (p := ⟨gb462, 3, none⟩) (Kd.R_far (p := ⟨gb462, 2, none⟩) (Kd.R_far (p := ⟨gb462, 1, none⟩) (Kd.R_far (p := ⟨gb462, 0, none⟩) (Kd.R_types HO_435000.out BK462.out (by decide)) (fun _ hk => hk.2) (.slice Ao75 t454.length co75)) (fun _ hk => hk.2) (.int .i64 t457)) (fun _ hk => hk.2) (.int .i64 t458)) (fun _ hk => hk.2) (.int .i64 t459)) (fun _ h_ => h_.1))) hb); have n1_ := z13_A (Kd.R_below z13_17 hb); have n2_ := z13_A (blk_below (g := gb434) (o := .cells #[.slice Ao11 t425.length co11, .int .i64 t428, .int .i64 t429, .int .i64 t430] 30 (0, 0)) (by (with_reducible repeat (first | refine blk_drewN ?_ _ | refine blk_drew ?_ | refine blk_alloc ?_ _)); refine blk_far ?_ NB434_462.out _; (with_reducible repeat (first | refine blk_drewN ?_ _ | refine blk_drew ?_ | refine blk_alloc ?_ _)); refine blk_far ?_ NB434_462.out _; (with_reducible repeat (first | refine blk_drewN ?_ _ | refine blk_drew ?_ | refine blk_alloc ?_ _)); refine blk_far ?_ NB434_462.out _; (with_reducible repeat (first | refine blk_drewN ?_ _ | refine blk_drew ?_ | refine blk_alloc ?_ _)); refine blk_far ?_ NB434_462.out _; (with_reducible repeat (first | refine blk_drewN ?_ _ | refine blk_drew ?_ | refine blk_alloc ?_ _)); exact BK434.out) hb); have n3_ := z13_A (blk_below (g := gb435) (o := .cells #[.int .i64 t431, .int .i64 t432, .int .i64 t433] 32 (0, 0)) (by (with_reducible repeat (first | refine blk_drewN ?_ _ | refine blk_drew ?_ | refine blk_alloc ?_ _)); refine blk_far ?_ NB435_462.out _; (with_reducible repeat (first | refine blk_drewN ?_ _ | refine blk_drew ?_ | refine blk_alloc ?_ _)); refine blk_far ?_ NB435_462.out _; (with_reducible repeat (first | refine blk_drewN ?_ _ | refine blk_drew ?_ | refine blk_alloc ?_ _)); refine blk_far ?_ NB435_462.out _; (with_reducible repeat (first | refine blk_drewN ?_ _ | refine blk_drew ?_ | refine blk_alloc ?_ _)); refine blk_far ?_ NB435_462.out _; (with_reducible repeat (first | refine blk_drewN ?_ _ | refine blk_drew ?_ | refine blk_alloc ?_ _)); exact BK435.out) hb); have n4_ := z13_A (blk_below (g := gb462) (o := .cells #[.slice Ao75 t454.length co75, .int .i64 t457, .int .i64 t458, .int .i64 t459] 30 (0, 0)) (by (with_reducible repeat (first | refine blk_drewN ?_ _ | refine blk_drew ?_ | refine blk_alloc ?_ _)); refine blk_put (cs := #[.slice Ao75 t454.length co75, .int .i64 t457, .int .i64 t458, .int .i64 0]) ?_ 3 _ rfl; (with_reducible repeat (first | refine blk_drewN ?_ _ | refine blk_drew ?_ | refine blk_alloc ?_ _)); refine blk_put (cs := #[.slice Ao75 t454.length co75, .int .i64 t457, .int .i64 0, .int .i64 0]) ?_ 2 _ rfl; (with_reducible repeat (first | refine blk_drewN ?_ _ | refine blk_drew ?_ | refine blk_alloc ?_ _)); refine blk_put (cs := #[.slice Ao75 t454.length co75, .int .i64 0, .int .i64 0, .int .i64 0]) ?_ 1 _ rfl; (with_reducible repeat (first | refine blk_drewN ?_ _ | refine blk_drew ?_ | refine blk_alloc ?_ _)); refine blk_put (cs := #[.slice none 0 0, .int .i64 0, .int .i64 0, .int .i64 0]) ?_ 0 _ rfl; (with_reducible repeat (first | refine blk_drewN ?_ _ | refine blk_drew ?_ | refine blk_alloc ?_ _)); exact BK462.out) hb); have n5_ := z13_A (below_step z13_1 hb); clear HO_435000 HO456 BK434 BK435 BK462 HB; revert n0_ n1_ n2_ n3_ n4_ n5_; intro HO_435000 HO456 BK434 BK435 BK462 HB; (try clear hb); (try clear hb2); (try clear hk); (try clear hi); have hcz80_0 : w79.cell? ⟨gb462, 0, none⟩ = some (.slice Ao75 t454.length co75) := (blk_cell BK462.out 0).trans rfl; have hcz80_1 : w79.cell? ⟨gb462, 1, none⟩ = some (.int .i64 t457) := (blk_cell BK462.out 1).trans rfl; have hcz80_2 : w79.cell? ⟨gb462, 2, none⟩ = some (.int .i64 t458) := (blk_cell BK462.out 2).trans rfl; have hcz80_3 : w79.cell? ⟨gb462, 3, none⟩ = some (.int .i64 t459) := (blk_cell BK462.out 3).trans rfl; have hfz80_0 := blk_frozen BK462.out 0; have hfz80_1 := blk_frozen BK462.out 1; have hfz80_2 := blk_frozen BK462.out 2; have hfz80_3 := blk_frozen BK462.out 3) | ((with_reducible refine gate_callee (f := 41) rfl ?_); refine goesL_ (some 184) rfl rfl Try.func41 z13_9 rfl #[.agg #[.slice Ao75 t454.length co75, .int .i64 t457, .int .i64 t458, .int .i64 t459], .int .i64 t460, .int .i64 t461] rfl z13_6 ?_; (with_reducible refine (spec_PayFor.calls kj55 _ _ t454 t457 t458 t459 t460 t461 t465 t466 _ ?side1 ?side2 A71.out).mono ?_); (case side1 => have zh := (Kd.R_reads' HO456.out).2.2; exact z13_C); (case side2 => exact (Kd.R_reads' HO456.out).2.1); rintro e w81 ⟨rfl, hb⟩; refine ⟨_, rfl, ?_⟩; have n0_ := z13_A (Kd.R_below z13_5 hb); have n1_ := z13_A (Kd.R_below z13_28 hb); have n2_ := z13_A (blk_below (g := gb434) (o := .cells #[.slice Ao11 t425.length co11, .int .i64 t428, .int .i64 t429, .int .i64 t430] 30 (0, 0)) z13_2 hb); have n3_ := z13_A (blk_below (g := gb435) (o := .cells #[.int .i64 t431, .int .i64 t432, .int .i64 t433] 32 (0, 0)) z13_3 hb); have n4_ := z13_A (blk_below (g := gb462) (o := .cells #[.slice Ao75 t454.length co75, .int .i64 t457, .int .i64 t458, .int .i64 t459] 30 (0, 0)) z13_7 hb); have n5_ := z13_A (below_step z13_1 hb); clear HO_435000 HO456 BK434 BK435 BK462 HB; revert n0_ n1_ n2_ n3_ n4_ n5_; intro HO_435000 HO456 BK434 BK435 BK462 HB; (try clear hb); (try clear hb2); (try clear hk); (try clear hi)))
              (try simp only [Act.put, List.setIfInBounds_toArray, List.set_cons_zero, List.set_cons_succ])
              go_cut [194] (fun v194 wc => ∃ (kq : Nat) (x194_71 : Bool), v194 = .bool x194_71 ∧ Aside0 (laws_FnContracts.j4 kq t436 t442 t446 t460 t461 t463 t464 x194_71 t425 t428 t429 t430 t431 t432 t433 t454 t457 t458 t459 = some r) ∧ Aside0 (kq ≤ kj55) ∧ Aside0 (Kd.R (Kd.int .i64) 3 wc w.heap.size (fun k_ => some k_ ≠ ((.slice Ao75 t454.length co75) : Value).ownBlock) (.slice Ao11 t425.length co11) t425) ∧ Aside0 (Kd.R (Kd.int .i64) 3 wc w.heap.size (fun k_ => some k_ ≠ ((.slice Ao11 t425.length co11) : Value).ownBlock) (.slice Ao75 t454.length co75) t454) ∧ Aside0 (wc.heap[gb434]? = some (.cells #[(.slice Ao11 t425.length co11), .int .i64 t428, .int .i64 t429, .int .i64 t430] 30 (0, 0))) ∧ Aside0 (wc.heap[gb435]? = some (.cells #[.int .i64 t431, .int .i64 t432, .int .i64 t433] 32 (0, 0))) ∧ Aside0 (wc.heap[gb462]? = some (.cells #[(.slice Ao75 t454.length co75), .int .i64 t457, .int .i64 t458, .int .i64 t459] 30 (0, 0))) ∧ Aside0 (Below w.heap.size w wc))
              case first => as_aux_lemma =>
               have H := HC72.out
               clear HC72
               by_cases c82 : t463 = t465
               ·rw [if_pos c82] at H
                have c82b0 : (t463 == t465) = true := beq_iff_eq.mpr c82
                have c82b1 : (t463 != t465) = false := bne_eq_false_iff_eq.mpr c82
                clear c82
                (first | rw [c82b0] | (simp only [i64_w, i32_w]; rw [c82b0]) | skip)
                have H' := z13_A H
                clear H
                go_wp2
                go_meet
                case rel => exact ⟨_, ((t464 != t466)), z13_13, H', ⟨by have := HJ6.out; have := HJ28.out; have := HJ41.out; have := HJ55.out; first | omega | exact Nat.le_refl _⟩, ⟨by (with_reducible repeat (first | apply Kd.R_alloc | apply Kd.R_drewN | apply Kd.R_drew)); exact Kd.R_mono HO_435000.out (fun _ hk => hk.2)⟩, ⟨by (with_reducible repeat (first | apply Kd.R_alloc | apply Kd.R_drewN | apply Kd.R_drew)); exact Kd.R_mono HO456.out (fun _ hk => hk.2)⟩, ⟨z13_2⟩, ⟨z13_3⟩, ⟨z13_7⟩, ⟨z13_1⟩⟩
               ·rw [if_neg c82] at H
                exact absurd H z13_25
              case rest => as_aux_lemma =>
               clear HC72
               (try clear c7); (try clear c40); (try clear c41); (try clear c68); (try clear c76); (try clear c77); (try clear c82); (try clear c82b0); (try clear c82b1); (try clear hcz78_0); (try clear hcz78_1); (try clear hcz78_2); (try clear hcz78_3); (try clear hcz80_0); (try clear hcz80_1); (try clear hcz80_2); (try clear hcz80_3); (try clear hfz78_0); (try clear hfz78_1); (try clear hfz78_2); (try clear hfz78_3); (try clear hfz80_0); (try clear hfz80_1); (try clear hfz80_2); (try clear hfz80_3)
               obtain ⟨kq, x194_71, rfl, HA, HJ71, HO_435000, HO_463000, BK434, BK435, BK462, HB⟩ := hcut
               cases kq with
               | zero => exact absurd HA.out (by simp [laws_FnContracts.j4])
               | succ kj71 =>
                have H := HA.out
                clear HA
                simp only [laws_FnContracts.j4] at H
                by_cases c83 : x194_71 = true
                ·subst c83
                 have H1 : (none) = some r := z13_16
                 clear H
                 have H := H1
                 clear H1
                 exact absurd H z13_25
                ·replace c83 := Bool.eq_false_iff.mpr c83
                 subst c83
                 have H1 : (if t464 = true then ((impl_InProportion.f kj71 t454 t457 t458 t459 t463 t460 t461).bind fun bt467 => (if bt467.2 = true then (if bt467.1 = true then (laws_FnContracts.j5 kj71 t436 t442 t446 t425 t428 t429 t430 t431 t432 t433) else (none)) else (none))) else (laws_FnContracts.j5 kj71 t436 t442 t446 t425 t428 t429 t430 t431 t432 t433)) = some r := z13_10
                 clear H
                 have H := H1
                 clear H1
                 have HC84 := z13_A H
                 clear H
                 go_upto_if 195 with (fail)
                 go_cut [] (fun wc => ∃ (kq : Nat), Aside0 (laws_FnContracts.j5 kq t436 t442 t446 t425 t428 t429 t430 t431 t432 t433 = some r) ∧ Aside0 (kq ≤ kj71) ∧ Aside0 (Kd.R (Kd.int .i64) 3 wc w.heap.size (fun k_ => some k_ ≠ ((.slice Ao75 t454.length co75) : Value).ownBlock) (.slice Ao11 t425.length co11) t425) ∧ Aside0 (Kd.R (Kd.int .i64) 3 wc w.heap.size (fun k_ => some k_ ≠ ((.slice Ao11 t425.length co11) : Value).ownBlock) (.slice Ao75 t454.length co75) t454) ∧ Aside0 (wc.heap[gb434]? = some (.cells #[(.slice Ao11 t425.length co11), .int .i64 t428, .int .i64 t429, .int .i64 t430] 30 (0, 0))) ∧ Aside0 (wc.heap[gb435]? = some (.cells #[.int .i64 t431, .int .i64 t432, .int .i64 t433] 32 (0, 0))) ∧ Aside0 (wc.heap[gb462]? = some (.cells #[(.slice Ao75 t454.length co75), .int .i64 t457, .int .i64 t458, .int .i64 t459] 30 (0, 0))) ∧ Aside0 (Below w.heap.size w wc))
                 case first => as_aux_lemma =>
                  have H := HC84.out
                  clear HC84
                  by_cases c85 : t464 = true
                  ·subst c85
                   have H1 : ((impl_InProportion.f kj71 t454 t457 t458 t459 t463 t460 t461).bind fun bt467 => (if bt467.2 = true then (if bt467.1 = true then (laws_FnContracts.j5 kj71 t436 t442 t446 t425 t428 t429 t430 t431 t432 t433) else (none)) else (none))) = some r := z13_16
                   clear H
                   have H := H1
                   clear H1
                   replace H := Option.bind_eq_some_iff.mp H
                   obtain ⟨⟨t467, t468⟩, A860, H⟩ := H
                   (try dsimp only at H)
                   have A86 := z13_A A860
                   clear A860
                   by_cases c87 : t468 = true
                   ·subst c87
                    have H1 : (if t467 = true then (laws_FnContracts.j5 kj71 t436 t442 t446 t425 t428 t429 t430 t431 t432 t433) else (none)) = some r := z13_16
                    clear H
                    have H := H1
                    clear H1
                    by_cases c88 : t467 = true
                    ·subst c88
                     have H1 : (laws_FnContracts.j5 kj71 t436 t442 t446 t425 t428 t429 t430 t431 t432 t433) = some r := z13_16
                     clear H
                     have H := H1
                     clear H1
                     have H' := z13_A H
                     clear H
                     have hnb89 := NB462_434.out
                     have hnc89 := NB434_462.out
                     have hnb90 := NB462_435.out
                     have hnc90 := NB435_462.out
                     have hcz91_0 : wc.cell? ⟨gb462, 0, none⟩ = some (.slice Ao75 t454.length co75) := (blk_cell BK462.out 0).trans rfl
                     have hcz91_1 : wc.cell? ⟨gb462, 1, none⟩ = some (.int .i64 t457) := (blk_cell BK462.out 1).trans rfl
                     have hcz91_2 : wc.cell? ⟨gb462, 2, none⟩ = some (.int .i64 t458) := (blk_cell BK462.out 2).trans rfl
                     have hcz91_3 : wc.cell? ⟨gb462, 3, none⟩ = some (.int .i64 t459) := (blk_cell BK462.out 3).trans rfl
                     have hfz91_0 := blk_frozen BK462.out 0
                     have hfz91_1 := blk_frozen BK462.out 1
                     have hfz91_2 := blk_frozen BK462.out 2
                     have hfz91_3 := blk_frozen BK462.out 3
                     go_wp2_with (first | ((with_reducible refine gate_callee (f := 33) rfl ?_); refine goesL_ (some 202) rfl rfl Try.func33 z13_9 rfl #[.agg #[.slice Ao75 t454.length co75, .int .i64 t457, .int .i64 t458, .int .i64 t459], .agg #[.int .i64 t463, .int .i64 t460, .int .i64 t461]] rfl z13_6 ?_; (with_reducible refine (impl_InProportion.calls kj71 _ _ t454 t457 t458 t459 t463 t460 t461 true true _ ?side1 ?side2 A86.out).mono ?_); (case side1 => have zh := (Kd.R_reads' HO_463000.out).2.2; exact z13_C); (case side2 => exact (Kd.R_reads' HO_463000.out).2.1); rintro e w92 ⟨rfl, hb⟩; refine ⟨_, rfl, ?_⟩; have n0_ := z13_A (Kd.R_below z13_5 hb); have n1_ := z13_A (Kd.R_below z13_8 hb); have n2_ := z13_A (blk_below (g := gb434) (o := .cells #[.slice Ao11 t425.length co11, .int .i64 t428, .int .i64 t429, .int .i64 t430] 30 (0, 0)) z13_2 hb); have n3_ := z13_A (blk_below (g := gb435) (o := .cells #[.int .i64 t431, .int .i64 t432, .int .i64 t433] 32 (0, 0)) z13_3 hb); have n4_ := z13_A (blk_below (g := gb462) (o := .cells #[.slice Ao75 t454.length co75, .int .i64 t457, .int .i64 t458, .int .i64 t459] 30 (0, 0)) z13_7 hb); have n5_ := z13_A (below_step z13_1 hb); clear HO_435000 HO_463000 BK434 BK435 BK462 HB; revert n0_ n1_ n2_ n3_ n4_ n5_; intro HO_435000 HO_463000 BK434 BK435 BK462 HB; (try clear hb); (try clear hb2); (try clear hk); (try clear hi)))
                     go_meet
                     case rel => exact ⟨_, H', ⟨z13_27⟩, ⟨z13_5⟩, ⟨z13_8⟩, ⟨z13_2⟩, ⟨z13_3⟩, ⟨z13_7⟩, ⟨z13_1⟩⟩
                    ·replace c88 := Bool.eq_false_iff.mpr c88
                     subst c88
                     have H1 : (none) = some r := z13_10
                     clear H
                     have H := H1
                     clear H1
                     exact absurd H z13_25
                   ·replace c87 := Bool.eq_false_iff.mpr c87
                    subst c87
                    have H1 : (none) = some r := z13_10
                    clear H
                    have H := H1
                    clear H1
                    exact absurd H z13_25
                  ·replace c85 := Bool.eq_false_iff.mpr c85
                   subst c85
                   have H1 : (laws_FnContracts.j5 kj71 t436 t442 t446 t425 t428 t429 t430 t431 t432 t433) = some r := z13_10
                   clear H
                   have H := H1
                   clear H1
                   have H' := z13_A H
                   clear H
                   go_wp2
                   go_meet
                   case rel => exact ⟨_, H', ⟨z13_27⟩, ⟨z13_5⟩, ⟨z13_8⟩, ⟨z13_2⟩, ⟨z13_3⟩, ⟨z13_7⟩, ⟨z13_1⟩⟩
                 case rest => as_aux_lemma =>
                  clear HC84
                  (try clear c9); (try clear c83); (try clear c85); (try clear c87); (try clear c88); (try clear c89); (try clear c90); (try clear hcz91_0); (try clear hcz91_1); (try clear hcz91_2); (try clear hcz91_3); (try clear hfz91_0); (try clear hfz91_1); (try clear hfz91_2); (try clear hfz91_3)
                  obtain ⟨kq, HA, HJ83, HO_435000, HO_463000, BK434, BK435, BK462, HB⟩ := hcut
                  cases kq with
                  | zero => exact absurd HA.out (by simp [laws_FnContracts.j5])
                  | succ kj83 =>
                   have H := HA.out
                   clear HA
                   simp only [laws_FnContracts.j5] at H
                   replace H := Option.bind_eq_some_iff.mp H
                   obtain ⟨⟨t469, t472⟩, A930, H⟩ := H
                   (try dsimp only at H)
                   have A93 := z13_A A930
                   clear A930
                   replace H := Option.bind_eq_some_iff.mp H
                   obtain ⟨⟨t473, t476⟩, A940, H⟩ := H
                   (try dsimp only at H)
                   have A94 := z13_A A940
                   clear A940
                   have HC95 := z13_A H
                   clear H
                   have hnb96 := NB434_435.out
                   have hnc96 := NB435_434.out
                   have hnb97 := NB434_462.out
                   have hnc97 := NB462_434.out
                   have hcz98_0 : wc.cell? ⟨gb434, 0, none⟩ = some (.slice Ao11 t425.length co11) := (blk_cell BK434.out 0).trans rfl
                   have hcz98_1 : wc.cell? ⟨gb434, 1, none⟩ = some (.int .i64 t428) := (blk_cell BK434.out 1).trans rfl
                   have hcz98_2 : wc.cell? ⟨gb434, 2, none⟩ = some (.int .i64 t429) := (blk_cell BK434.out 2).trans rfl
                   have hcz98_3 : wc.cell? ⟨gb434, 3, none⟩ = some (.int .i64 t430) := (blk_cell BK434.out 3).trans rfl
                   have hfz98_0 := blk_frozen BK434.out 0
                   have hfz98_1 := blk_frozen BK434.out 1
                   have hfz98_2 := blk_frozen BK434.out 2
                   have hfz98_3 := blk_frozen BK434.out 3
                   go_upto_region 31 with (first | ((with_reducible refine gate_callee (f := 21) rfl ?_); refine goesL_ (some 213) rfl rfl Try.func21 z13_9 rfl #[.agg #[.slice Ao11 t425.length co11, .int .i64 t428, .int .i64 t429, .int .i64 t430]] rfl z13_6 ?_; (with_reducible refine (impl_BackContracts.calls kj83 _ _ t425 t428 t429 t430 t469 t472 _ ?side1 ?side2 A93.out).mono ?_); (case side1 => have zh := (Kd.R_reads' HO_435000.out).2.2; exact z13_C); (case side2 => exact (Kd.R_reads' HO_435000.out).2.1); rintro e w99 ⟨v470, rfl, ho0, hb⟩; refine ⟨_, rfl, ?_⟩; have n0_ := z13_A (Kd.R_below z13_5 hb); have n1_ := z13_A (Kd.R_below z13_8 hb); have n2_ := z13_A (Kd.R_lower (Kd.R_newB ho0 (g := gb435) (o := .cells #[.int .i64 t431, .int .i64 t432, .int .i64 t433] 32 (0, 0)) z13_3) (below_size z13_1)); have n3_ := z13_A (blk_below (g := gb434) (o := .cells #[.slice Ao11 t425.length co11, .int .i64 t428, .int .i64 t429, .int .i64 t430] 30 (0, 0)) z13_2 hb); have n4_ := z13_A (blk_below (g := gb435) (o := .cells #[.int .i64 t431, .int .i64 t432, .int .i64 t433] 32 (0, 0)) z13_3 hb); have n5_ := z13_A (blk_below (g := gb462) (o := .cells #[.slice Ao75 t454.length co75, .int .i64 t457, .int .i64 t458, .int .i64 t459] 30 (0, 0)) z13_7 hb); have n6_ := z13_A (below_step z13_1 hb); clear HO_435000 HO_463000 BK434 BK435 BK462 HB; revert n0_ n1_ n2_ n3_ n4_ n5_ n6_; intro HO_435000 HO_463000 HO471 BK434 BK435 BK462 HB; (try clear hb); (try clear hb2); (try clear hk); (try clear hi); (try clear ho0); have hcz100_0 : w99.cell? ⟨gb434, 0, none⟩ = some (.slice Ao11 t425.length co11) := (blk_cell BK434.out 0).trans rfl; have hcz100_1 : w99.cell? ⟨gb434, 1, none⟩ = some (.int .i64 t428) := (blk_cell BK434.out 1).trans rfl; have hcz100_2 : w99.cell? ⟨gb434, 2, none⟩ = some (.int .i64 t429) := (blk_cell BK434.out 2).trans rfl; have hcz100_3 : w99.cell? ⟨gb434, 3, none⟩ = some (.int .i64 t430) := (blk_cell BK434.out 3).trans rfl; have hfz100_0 := blk_frozen BK434.out 0; have hfz100_1 := blk_frozen BK434.out 1; have hfz100_2 := blk_frozen BK434.out 2; have hfz100_3 := blk_frozen BK434.out 3) | ((with_reducible refine gate_callee (f := 20) rfl ?_); refine goesL_ (some 218) rfl rfl Try.func20 z13_9 rfl #[.agg #[.slice Ao11 t425.length co11, .int .i64 t428, .int .i64 t429, .int .i64 t430]] rfl z13_6 ?_; (with_reducible refine (spec_BackContracts.calls kj83 _ _ t425 t428 t429 t430 t473 t476 _ ?side1 ?side2 A94.out).mono ?_); (case side1 => have zh := (Kd.R_reads' HO_435000.out).2.2; exact z13_C); (case side2 => exact (Kd.R_reads' HO_435000.out).2.1); rintro e w101 ⟨v474, rfl, ho0, hb⟩; refine ⟨_, rfl, ?_⟩; have n0_ := z13_A (Kd.R_below z13_5 hb); have n1_ := z13_A (Kd.R_below z13_8 hb); have n2_ := z13_A (Kd.R_elder' z13_22 (Kd.R_base ho0) hb); have n3_ := z13_A (Kd.R_lower (Kd.R_newB (Kd.R_new' ho0 (Kd.R_lt z13_22)) (g := gb435) (o := .cells #[.int .i64 t431, .int .i64 t432, .int .i64 t433] 32 (0, 0)) z13_3) (below_size z13_1)); have n4_ := z13_A (blk_below (g := gb434) (o := .cells #[.slice Ao11 t425.length co11, .int .i64 t428, .int .i64 t429, .int .i64 t430] 30 (0, 0)) z13_2 hb); have n5_ := z13_A (blk_below (g := gb435) (o := .cells #[.int .i64 t431, .int .i64 t432, .int .i64 t433] 32 (0, 0)) z13_3 hb); have n6_ := z13_A (blk_below (g := gb462) (o := .cells #[.slice Ao75 t454.length co75, .int .i64 t457, .int .i64 t458, .int .i64 t459] 30 (0, 0)) z13_7 hb); have n7_ := z13_A (below_step z13_1 hb); clear HO_435000 HO_463000 HO471 BK434 BK435 BK462 HB; revert n0_ n1_ n2_ n3_ n4_ n5_ n6_ n7_; intro HO_435000 HO_463000 HO471 HO475 BK434 BK435 BK462 HB; (try clear hb); (try clear hb2); (try clear hk); (try clear hi); (try clear ho0)))
                   (try simp only [Act.put, List.setIfInBounds_toArray, List.set_cons_zero, List.set_cons_succ])
                   go_cut [236] (fun v236 wc => ∃ (kq : Nat) (x236_94 : Bool), v236 = .bool x236_94 ∧ Aside0 (laws_FnContracts.j6 kq t436 t442 t446 t469 t473 x236_94 t425 t428 t429 t430 t431 t432 t433 = some r) ∧ Aside0 (kq ≤ kj83) ∧ Aside0 (Kd.R k32 32 wc w.heap.size (fun k_ => z13_V k_ v474 ∧ k_ ≠ gb435) v470 t469) ∧ Aside0 (Kd.R k32 32 wc w.heap.size (fun k_ => z13_V k_ v470 ∧ k_ ≠ gb435) v474 t473) ∧ Aside0 (Kd.R (Kd.int .i64) 3 wc w.heap.size (fun k_ => some k_ ≠ ((.slice Ao75 t454.length co75) : Value).ownBlock) (.slice Ao11 t425.length co11) t425) ∧ Aside0 (Kd.R (Kd.int .i64) 3 wc w.heap.size (fun k_ => some k_ ≠ ((.slice Ao11 t425.length co11) : Value).ownBlock) (.slice Ao75 t454.length co75) t454) ∧ Aside0 (wc.heap[gb434]? = some (.cells #[(.slice Ao11 t425.length co11), .int .i64 t428, .int .i64 t429, .int .i64 t430] 30 (0, 0))) ∧ Aside0 (wc.heap[gb435]? = some (.cells #[.int .i64 t431, .int .i64 t432, .int .i64 t433] 32 (0, 0))) ∧ Aside0 (wc.heap[gb462]? = some (.cells #[(.slice Ao75 t454.length co75), .int .i64 t457, .int .i64 t458, .int .i64 t459] 30 (0, 0))) ∧ Aside0 (Below w.heap.size w wc))
                   case first => as_aux_lemma =>
                    have H := HC95.out
                    clear HC95
                    by_cases c102 : (t472 != t476) = true
                    ·rw [if_pos c102] at H
                     exact absurd H z13_25
                    ·rw [if_neg c102] at H
                     have c102b0 : (t472 != t476) = false := by simpa using c102
                     (try (have c102b1 : decide (t472 = t476) = true := by simpa using c102))
                     (try (have c102b2 : (t472 == t476) = true := by simpa using c102))
                     clear c102
                     (first | rw [c102b0] | (simp only [i64_w, i32_w]; rw [c102b0]) | skip)
                     replace H := Option.bind_eq_some_iff.mp H
                     obtain ⟨t477, A1030, H⟩ := H
                     (try dsimp only at H)
                     have A103 := z13_A A1030
                     clear A1030
                     by_cases c104 : (t472 != t477) = true
                     ·rw [if_pos c104] at H
                      exact absurd H z13_25
                     ·rw [if_neg c104] at H
                      have c104b0 : (t472 != t477) = false := by simpa using c104
                      (try (have c104b1 : decide (t472 = t477) = true := by simpa using c104))
                      (try (have c104b2 : (t472 == t477) = true := by simpa using c104))
                      clear c104
                      have H' := z13_A H
                      clear H
                      have hnb105 := NB434_435.out
                      have hnc105 := NB435_434.out
                      have hnb106 := NB434_462.out
                      have hnc106 := NB462_434.out
                      have hcz107_0 : w101.cell? ⟨gb434, 0, none⟩ = some (.slice Ao11 t425.length co11) := (blk_cell BK434.out 0).trans rfl
                      have hcz107_1 : w101.cell? ⟨gb434, 1, none⟩ = some (.int .i64 t428) := (blk_cell BK434.out 1).trans rfl
                      have hcz107_2 : w101.cell? ⟨gb434, 2, none⟩ = some (.int .i64 t429) := (blk_cell BK434.out 2).trans rfl
                      have hcz107_3 : w101.cell? ⟨gb434, 3, none⟩ = some (.int .i64 t430) := (blk_cell BK434.out 3).trans rfl
                      have hfz107_0 := blk_frozen BK434.out 0
                      have hfz107_1 := blk_frozen BK434.out 1
                      have hfz107_2 := blk_frozen BK434.out 2
                      have hfz107_3 := blk_frozen BK434.out 3
                      go_wp2_with (first | (go_at_call 42; (with_reducible refine (impl_IsMarket.calls kj83 _ _ t425 t428 t429 t430 t477 _ ?side1 ?side2 A103.out).mono ?_); (case side1 => have zh := (Kd.R_reads' HO_435000.out).2.2; exact z13_C); (case side2 => exact (Kd.R_reads' HO_435000.out).2.1); rintro e w108 ⟨rfl, hb⟩; have n0_ := z13_A (Kd.R_below z13_5 hb); have n1_ := z13_A (Kd.R_below z13_8 hb); have n2_ := z13_A (Kd.R_below z13_22 hb); have n3_ := z13_A (Kd.R_below (by (with_reducible repeat (first | apply Kd.R_alloc | apply Kd.R_drewN | apply Kd.R_drew)); exact HO475.out) hb); have n4_ := z13_A (blk_below (g := gb434) (o := .cells #[.slice Ao11 t425.length co11, .int .i64 t428, .int .i64 t429, .int .i64 t430] 30 (0, 0)) z13_2 hb); have n5_ := z13_A (blk_below (g := gb435) (o := .cells #[.int .i64 t431, .int .i64 t432, .int .i64 t433] 32 (0, 0)) z13_3 hb); have n6_ := z13_A (blk_below (g := gb462) (o := .cells #[.slice Ao75 t454.length co75, .int .i64 t457, .int .i64 t458, .int .i64 t459] 30 (0, 0)) z13_7 hb); have n7_ := z13_A (below_step z13_1 hb); clear HO_435000 HO_463000 HO471 HO475 BK434 BK435 BK462 HB; revert n0_ n1_ n2_ n3_ n4_ n5_ n6_ n7_; intro HO_435000 HO_463000 HO471 HO475 BK434 BK435 BK462 HB; (try clear hb); (try clear hb2); (try clear hk); (try clear hi); obtain ⟨Ao109, co109, eo109⟩ := Kd.R_slice HO471.out; subst eo109; obtain ⟨Ao110, co110, eo110⟩ := Kd.R_slice HO475.out; subst eo110))
                      go_meet
                      case rel => exact ⟨_, (((t469.length : Int) != (t473.length : Int))), z13_13, H', ⟨by have := HJ6.out; have := HJ28.out; have := HJ41.out; have := HJ55.out; have := HJ71.out; have := HJ83.out; first | omega | exact Nat.le_refl _⟩, ⟨by (with_reducible repeat (first | apply Kd.R_alloc | apply Kd.R_drewN | apply Kd.R_drew)); exact Kd.R_mono HO471.out (fun _ hk => ⟨hk.2, hk.1.2⟩)⟩, ⟨by (with_reducible repeat (first | apply Kd.R_alloc | apply Kd.R_drewN | apply Kd.R_drew)); exact Kd.R_mono HO475.out (fun _ hk => ⟨hk.1.2, hk.2⟩)⟩, ⟨z13_5⟩, ⟨z13_8⟩, ⟨z13_2⟩, ⟨z13_3⟩, ⟨z13_7⟩, ⟨z13_1⟩⟩
                   case rest => as_aux_lemma =>
                    clear HC95
                    (try clear c10); (try clear c21); (try clear c96); (try clear c97); (try clear c102); (try clear c102b0); (try clear c102b1); (try clear c102b2); (try clear c104); (try clear c104b0); (try clear c104b1); (try clear c104b2); (try clear c105); (try clear c106); (try clear hcz100_0); (try clear hcz100_1); (try clear hcz100_2); (try clear hcz100_3); (try clear hcz107_0); (try clear hcz107_1); (try clear hcz107_2); (try clear hcz107_3); (try clear hcz98_0); (try clear hcz98_1); (try clear hcz98_2); (try clear hcz98_3); (try clear hfz100_0); (try clear hfz100_1); (try clear hfz100_2); (try clear hfz100_3); (try clear hfz107_0); (try clear hfz107_1); (try clear hfz107_2); (try clear hfz107_3); (try clear hfz98_0); (try clear hfz98_1); (try clear hfz98_2); (try clear hfz98_3)
                    obtain ⟨kq, x236_94, rfl, HA, HJ94, HO_30, HO_32, HO_435000, HO_463000, BK434, BK435, BK462, HB⟩ := hcut
                    cases kq with
                    | zero => exact absurd HA.out (by simp [laws_FnContracts.j6])
                    | succ kj94 =>
                     have H := HA.out
                     clear HA
                     simp only [laws_FnContracts.j6] at H
                     by_cases c111 : x236_94 = true
                     ·subst c111
                      have H1 : (none) = some r := z13_16
                      clear H
                      have H := H1
                      clear H1
                      exact absurd H z13_25
                     ·replace c111 := Bool.eq_false_iff.mpr c111
                      subst c111
                      have H1 : (laws_FnContracts.l0 kj94 t436 t442 t446 t469 t473 0 t425 t428 t429 t430 t431 t432 t433) = some r := z13_10
                      clear H
                      have H := H1
                      clear H1
                      have H' := z13_A H
                      clear H
                      go_wp2
                      go_loopg [34] kj94 (fun kq v34 w' => ∃ (x34_8 : Int), v34 = .int .i64 x34_8 ∧ Aside0 (laws_FnContracts.l0 kq t436 t442 t446 t469 t473 x34_8 t425 t428 t429 t430 t431 t432 t433 = some r) ∧ Aside0 (kq ≤ kj94) ∧ Aside0 (Kd.R k32 32 w' w.heap.size (fun k_ => z13_V k_ v474 ∧ k_ ≠ gb435) v470 t469) ∧ Aside0 (Kd.R k32 32 w' w.heap.size (fun k_ => z13_V k_ v470 ∧ k_ ≠ gb435) v474 t473) ∧ Aside0 (Kd.R (Kd.int .i64) 3 w' w.heap.size (fun k_ => some k_ ≠ ((.slice Ao75 t454.length co75) : Value).ownBlock) (.slice Ao11 t425.length co11) t425) ∧ Aside0 (Kd.R (Kd.int .i64) 3 w' w.heap.size (fun k_ => some k_ ≠ ((.slice Ao11 t425.length co11) : Value).ownBlock) (.slice Ao75 t454.length co75) t454) ∧ Aside0 (w'.heap[gb434]? = some (.cells #[(.slice Ao11 t425.length co11), .int .i64 t428, .int .i64 t429, .int .i64 t430] 30 (0, 0))) ∧ Aside0 (w'.heap[gb435]? = some (.cells #[.int .i64 t431, .int .i64 t432, .int .i64 t433] 32 (0, 0))) ∧ Aside0 (w'.heap[gb462]? = some (.cells #[(.slice Ao75 t454.length co75), .int .i64 t457, .int .i64 t458, .int .i64 t459] 30 (0, 0))) ∧ Aside0 (Below w.heap.size w w'))
                      case atStart => as_aux_lemma => exact ⟨(0), z13_13, H', ⟨Nat.le_refl _⟩, ⟨z13_19⟩, ⟨z13_18⟩, ⟨z13_5⟩, ⟨z13_8⟩, ⟨z13_2⟩, ⟨z13_3⟩, ⟨z13_7⟩, ⟨z13_1⟩⟩
                      case round => as_aux_lemma =>
                       clear H'
                       (try clear c111)
                       obtain ⟨x34_8, rfl, HA, HK8, HO_30, HO_32, HO_435000, HO_463000, BK434, BK435, BK462, HB⟩ := hrel
                       cases gk with
                       | zero => exact absurd HA.out (by simp [laws_FnContracts.l0])
                       | succ k8 =>
                        have H := HA.out
                        clear HA
                        simp only [laws_FnContracts.l0] at H
                        by_cases c112 : x34_8 < (t469.length : Int)
                        ·rw [if_pos c112] at H
                         have c112b0 : decide (x34_8 < (t469.length : Int)) = true := decide_eq_true c112
                         clear c112
                         by_cases c113 : 0 ≤ x34_8
                         ·rw [if_pos c113] at H
                          have c113b0 : decide (0 ≤ x34_8) = true := decide_eq_true c113
                          clear c113
                          by_cases c114 : x34_8 < (t473.length : Int)
                          ·rw [if_pos c114] at H
                           have c114b0 : decide (x34_8 < (t473.length : Int)) = true := decide_eq_true c114
                           clear c114
                           by_cases c115 : (!(((rd_T32 t469 x34_8).f0) == ((rd_T32 t473 x34_8).f0)) || (!(((rd_T32 t469 x34_8).f1) == ((rd_T32 t473 x34_8).f1)) || (!(((rd_T32 t469 x34_8).f2) == ((rd_T32 t473 x34_8).f2))))) = true
                           ·rw [if_pos c115] at H
                            exact absurd H z13_25
                           ·rw [if_neg c115] at H
                            have c115b0 : (!(((rd_T32 t469 x34_8).f0) == ((rd_T32 t473 x34_8).f0)) || (!(((rd_T32 t469 x34_8).f1) == ((rd_T32 t473 x34_8).f1)) || (!(((rd_T32 t469 x34_8).f2) == ((rd_T32 t473 x34_8).f2))))) = false := by simpa using c115
                            clear c115
                            replace H := Option.bind_eq_some_iff.mp H
                            obtain ⟨⟨t481, t482⟩, A1160, H⟩ := H
                            (try dsimp only at H)
                            have A116 := z13_A A1160
                            clear A1160
                            by_cases c117 : t482 = true
                            ·subst c117
                             have H1 : (if t428 > t430 then (if t481 = 0 then (laws_FnContracts.l0 k8 t436 t442 t446 t469 t473 (wrap64 (x34_8 + 1)) t425 t428 t429 t430 t431 t432 t433) else (none)) else (laws_FnContracts.l0 k8 t436 t442 t446 t469 t473 (wrap64 (x34_8 + 1)) t425 t428 t429 t430 t431 t432 t433)) = some r := z13_16
                             clear H
                             have H := H1
                             clear H1
                             by_cases c118 : t428 > t430
                             ·rw [if_pos c118] at H
                              have c118b0 : decide (t430 < t428) = true := decide_eq_true c118
                              clear c118
                              by_cases c119 : t481 = 0
                              ·rw [if_pos c119] at H
                               have c119b0 : (t481 == 0) = true := beq_iff_eq.mpr c119
                               have c119b1 : (t481 != 0) = false := bne_eq_false_iff_eq.mpr c119
                               clear c119
                               have H' := z13_A H
                               clear H
                               obtain ⟨Ao120, co120, eo120⟩ := Kd.R_slice HO_30.out
                               subst eo120
                               try go_wp2
                               have n0_ := z13_A (Kd.R_drew HO_30.out)
                               have n1_ := z13_A (Kd.R_drew HO_32.out)
                               have n2_ := z13_A (Kd.R_drew HO_435000.out)
                               have n3_ := z13_A (Kd.R_drew HO_463000.out)
                               have n4_ := z13_A (blk_drew BK434.out)
                               have n5_ := z13_A (blk_drew BK435.out)
                               have n6_ := z13_A (blk_drew BK462.out)
                               have n7_ := z13_A (below_drew1 HB.out)
                               clear HO_30
                               clear HO_32
                               clear HO_435000
                               clear HO_463000
                               clear BK434
                               clear BK435
                               clear BK462
                               clear HB
                               have HO_30 := n0_
                               have HO_32 := n1_
                               have HO_435000 := n2_
                               have HO_463000 := n3_
                               have BK434 := n4_
                               have BK435 := n5_
                               have BK462 := n6_
                               have HB := n7_
                               clear n0_ n1_ n2_ n3_ n4_ n5_ n6_ n7_
                               have p478 : 0 ≤ (x34_8 : Int) := of_decide_eq_true z13_14
                               have q478 : x34_8 < (t469.length : Int) := of_decide_eq_true z13_14
                               obtain ⟨ad478, e478, hx478_0, hx478_1, hx478_2⟩ := at_T32 (Kd.R_reads' HO_30.out).2.2 x34_8 p478 q478
                               cases e478
                               replace p478 := eq_true p478
                               replace q478 := eq_true q478
                               obtain ⟨Ao122, co122, eo122⟩ := Kd.R_slice HO_32.out
                               (first | subst eo122 | (injection eo122 with f1_ f2_ f3_; have f4_ := f1_.symm; have f5_ := f3_.symm; clear f1_ f2_ f3_; subst f4_; subst f5_))
                               have p479 : 0 ≤ (x34_8 : Int) := of_decide_eq_true z13_14
                               have q479 : x34_8 < (t473.length : Int) := of_decide_eq_true z13_14
                               obtain ⟨ad479, e479, hx479_0, hx479_1, hx479_2⟩ := at_T32 (Kd.R_reads' HO_32.out).2.2 x34_8 p479 q479
                               cases e479
                               replace p479 := eq_true p479
                               replace q479 := eq_true q479
                               refine start_ (n := 9) (S := fun w' => w'.cell? (ad478.add ((x34_8).toNat * 3)) = some (.int .i64 ((rd_T32 t469 x34_8).f0)) ∧ w'.cell? ⟨(ad478.add ((x34_8).toNat * 3)).block, (ad478.add ((x34_8).toNat * 3)).off + 1, none⟩ = some (.int .i64 ((rd_T32 t469 x34_8).f1)) ∧ w'.cell? ⟨(ad478.add ((x34_8).toNat * 3)).block, (ad478.add ((x34_8).toNat * 3)).off + 2, none⟩ = some (.int .i64 ((rd_T32 t469 x34_8).f2)) ∧ w'.cell? (ad479.add ((x34_8).toNat * 3)) = some (.int .i64 ((rd_T32 t473 x34_8).f0)) ∧ w'.cell? ⟨(ad479.add ((x34_8).toNat * 3)).block, (ad479.add ((x34_8).toNat * 3)).off + 1, none⟩ = some (.int .i64 ((rd_T32 t473 x34_8).f1)) ∧ w'.cell? ⟨(ad479.add ((x34_8).toNat * 3)).block, (ad479.add ((x34_8).toNat * 3)).off + 2, none⟩ = some (.int .i64 ((rd_T32 t473 x34_8).f2))) (ds := []) #[false, false, false, false, false, false, false, false, false] z13_9 rfl rfl ⟨hx478_0, hx478_1, hx478_2, hx479_0, hx479_1, hx479_2⟩ (fun hHeld => ?_); refine with_tabW laws_FnContracts.tab36 laws_FnContracts.bits36 (fun HT_ HW_ => ?_)
                               generalize wr.drew = w121 at HO_30 HO_32 HO_435000 HO_463000 BK434 BK435 BK462 HB hx478_0 hx478_1 hx478_2 hx479_0 hx479_1 hx479_2 hHeld ⊢
                               refine pure_ (i := 0) (N := some 243) (v := ?_) (a' := ?_) #[true, false, false, false, false, false, false, false, false] rfl rfl (any_of HT_.out z13_9) (fun _ _ _ h => h) (Or.inl ⟨z13_21, ?_⟩) ?_ ?_
                               rotate_left
                               ·intro w'
                                go_simp
                                with_reducible rfl
                               rotate_left
                               ·simp only [Act.put, List.setIfInBounds_toArray, List.set_cons_zero, List.set_cons_succ, i64_w, i32_w]
                                rfl
                               refine pure_ (i := 1) (N := some 244) (v := ?_) (a' := ?_) #[true, true, false, false, false, false, false, false, false] rfl rfl (any_of HT_.out z13_9) (fun _ _ _ h => h) (Or.inl ⟨z13_21, ?_⟩) ?_ ?_
                               rotate_left
                               ·intro w'
                                go_simp
                                with_reducible rfl
                               rotate_left
                               ·simp only [Act.put, List.setIfInBounds_toArray, List.set_cons_zero, List.set_cons_succ, i64_w, i32_w]
                                rfl
                               refine pure_ (i := 2) (N := some 245) (v := ?_) (a' := ?_) #[true, true, true, false, false, false, false, false, false] rfl rfl (any_of HT_.out z13_9) (fun _ _ _ h => h) (Or.inl ⟨z13_21, ?_⟩) ?_ ?_
                               rotate_left
                               ·intro w'
                                go_simp
                                with_reducible rfl
                               rotate_left
                               ·simp only [Act.put, List.setIfInBounds_toArray, List.set_cons_zero, List.set_cons_succ, i64_w, i32_w]
                                rfl
                               refine pure_ (i := 4) (N := some 247) (v := ?_) (a' := ?_) #[true, true, true, false, true, false, false, false, false] rfl rfl (any_of HT_.out z13_9) (fun _ _ _ h => h) (Or.inl ⟨z13_21, ?_⟩) ?_ ?_
                               rotate_left
                               ·intro w'
                                go_simp
                                with_reducible rfl
                               rotate_left
                               ·simp only [Act.put, List.setIfInBounds_toArray, List.set_cons_zero, List.set_cons_succ, i64_w, i32_w]
                                rfl
                               refine pure_ (i := 5) (N := some 248) (v := ?_) (a' := ?_) #[true, true, true, false, true, true, false, false, false] rfl rfl (any_of HT_.out z13_9) (fun _ _ _ h => h) (Or.inl ⟨z13_21, ?_⟩) ?_ ?_
                               rotate_left
                               ·intro w'
                                go_simp
                                with_reducible rfl
                               rotate_left
                               ·simp only [Act.put, List.setIfInBounds_toArray, List.set_cons_zero, List.set_cons_succ, i64_w, i32_w]
                                rfl
                               refine pure_ (i := 6) (N := some 249) (v := ?_) (a' := ?_) #[true, true, true, false, true, true, true, false, false] rfl rfl (any_of HT_.out z13_9) (fun _ _ _ h => h) (Or.inl ⟨z13_21, ?_⟩) ?_ ?_
                               rotate_left
                               ·intro w'
                                go_simp
                                with_reducible rfl
                               rotate_left
                               ·simp only [Act.put, List.setIfInBounds_toArray, List.set_cons_zero, List.set_cons_succ, i64_w, i32_w]
                                rfl
                               refine take_ (i := 3) (N := some 246) (v := ?_) (a' := ?_) #[true, true, true, true, true, true, true, false, false] rfl rfl (take_ofW HT_.out HW_.out z13_9) (fun _ _ _ h => h) (Or.inl ⟨z13_21, ?_⟩) hHeld ?_ ?_
                               rotate_left
                               ·rintro w' ⟨s0, s1, s2, s3, s4, s5⟩
                                go_simp
                                with_reducible rfl
                               rotate_left
                               ·simp only [Act.put, List.setIfInBounds_toArray, List.set_cons_zero, List.set_cons_succ, i64_w, i32_w]
                                rfl
                               refine take_ (i := 7) (N := some 250) (v := ?_) (a' := ?_) #[true, true, true, true, true, true, true, true, false] rfl rfl (take_ofW HT_.out HW_.out z13_9) (fun _ _ _ h => h) (Or.inl ⟨z13_21, ?_⟩) hHeld ?_ ?_
                               rotate_left
                               ·rintro w' ⟨s0, s1, s2, s3, s4, s5⟩
                                go_simp
                                with_reducible rfl
                               rotate_left
                               ·simp only [Act.put, List.setIfInBounds_toArray, List.set_cons_zero, List.set_cons_succ, i64_w, i32_w]
                                rfl
                               refine pure_ (i := 8) (N := some 251) (v := ?_) (a' := ?_) #[true, true, true, true, true, true, true, true, true] rfl rfl (any_of HT_.out z13_9) (fun _ _ _ h => h) (Or.inl ⟨z13_21, ?_⟩) ?_ ?_
                               rotate_left
                               ·intro w'
                                go_simp
                                with_reducible rfl
                               rotate_left
                               ·simp only [Act.put, List.setIfInBounds_toArray, List.set_cons_zero, List.set_cons_succ, i64_w, i32_w]
                                rfl
                               refine done_ (done_of HT_.out z13_9) ?_
                               try go_wp2
                               have n0_ := z13_A (Kd.R_drew HO_30.out)
                               have n1_ := z13_A (Kd.R_drew HO_32.out)
                               have n2_ := z13_A (Kd.R_drew HO_435000.out)
                               have n3_ := z13_A (Kd.R_drew HO_463000.out)
                               have n4_ := z13_A (blk_drew BK434.out)
                               have n5_ := z13_A (blk_drew BK435.out)
                               have n6_ := z13_A (blk_drew BK462.out)
                               have n7_ := z13_A (below_drew1 HB.out)
                               clear HO_30
                               clear HO_32
                               clear HO_435000
                               clear HO_463000
                               clear BK434
                               clear BK435
                               clear BK462
                               clear HB
                               have HO_30 := n0_
                               have HO_32 := n1_
                               have HO_435000 := n2_
                               have HO_463000 := n3_
                               have BK434 := n4_
                               have BK435 := n5_
                               have BK462 := n6_
                               have HB := n7_
                               clear n0_ n1_ n2_ n3_ n4_ n5_ n6_ n7_
                               have p480 : 0 ≤ (x34_8 : Int) := of_decide_eq_true z13_14
                               have q480 : x34_8 < (t469.length : Int) := of_decide_eq_true z13_14
                               obtain ⟨ad480, e480, hx480_0, hx480_1, hx480_2⟩ := at_T32 (Kd.R_reads' HO_30.out).2.2 x34_8 p480 q480
                               obtain rfl : ad478 = ad480 := (by injection e480)
                               replace p480 := eq_true p480
                               replace q480 := eq_true q480
                               refine start_ (n := 11) (S := fun w' => w'.cell? ⟨gb434, 0, none⟩ = some (.slice Ao11 t425.length co11) ∧ w'.cell? ⟨gb434, 1, none⟩ = some (.int .i64 t428) ∧ w'.cell? ⟨gb434, 2, none⟩ = some (.int .i64 t429) ∧ w'.cell? ⟨gb434, 3, none⟩ = some (.int .i64 t430) ∧ w'.cell? (ad478.add ((x34_8).toNat * 3)) = some (.int .i64 ((rd_T32 t469 x34_8).f0)) ∧ w'.cell? ⟨(ad478.add ((x34_8).toNat * 3)).block, (ad478.add ((x34_8).toNat * 3)).off + 1, none⟩ = some (.int .i64 ((rd_T32 t469 x34_8).f1)) ∧ w'.cell? ⟨(ad478.add ((x34_8).toNat * 3)).block, (ad478.add ((x34_8).toNat * 3)).off + 2, none⟩ = some (.int .i64 ((rd_T32 t469 x34_8).f2))) (ds := []) #[false, false, false, false, false, false, false, false, false, false, false] z13_9 rfl rfl ⟨(blk_cell BK434.out 0).trans rfl, (blk_cell BK434.out 1).trans rfl, (blk_cell BK434.out 2).trans rfl, (blk_cell BK434.out 3).trans rfl, hx480_0, hx480_1, hx480_2⟩ (fun hHeld => ?_); refine with_tabW laws_FnContracts.tab38 laws_FnContracts.bits38 (fun HT_ HW_ => ?_)
                               generalize w121.drew = w123 at HO_30 HO_32 HO_435000 HO_463000 BK434 BK435 BK462 HB hx480_0 hx480_1 hx480_2 hHeld ⊢
                               refine pure_ (i := 1) (N := some 254) (v := ?_) (a' := ?_) #[false, true, false, false, false, false, false, false, false, false, false] rfl rfl (any_of HT_.out z13_9) (fun _ _ _ h => h) (Or.inl ⟨z13_21, ?_⟩) ?_ ?_
                               rotate_left
                               ·intro w'
                                go_simp
                                with_reducible rfl
                               rotate_left
                               ·simp only [Act.put, List.setIfInBounds_toArray, List.set_cons_zero, List.set_cons_succ, i64_w, i32_w]
                                rfl
                               refine pure_ (i := 2) (N := some 255) (v := ?_) (a' := ?_) #[false, true, true, false, false, false, false, false, false, false, false] rfl rfl (any_of HT_.out z13_9) (fun _ _ _ h => h) (Or.inl ⟨z13_21, ?_⟩) ?_ ?_
                               rotate_left
                               ·intro w'
                                go_simp
                                with_reducible rfl
                               rotate_left
                               ·simp only [Act.put, List.setIfInBounds_toArray, List.set_cons_zero, List.set_cons_succ, i64_w, i32_w]
                                rfl
                               refine pure_ (i := 3) (N := some 256) (v := ?_) (a' := ?_) #[false, true, true, true, false, false, false, false, false, false, false] rfl rfl (any_of HT_.out z13_9) (fun _ _ _ h => h) (Or.inl ⟨z13_21, ?_⟩) ?_ ?_
                               rotate_left
                               ·intro w'
                                go_simp
                                with_reducible rfl
                               rotate_left
                               ·simp only [Act.put, List.setIfInBounds_toArray, List.set_cons_zero, List.set_cons_succ, i64_w, i32_w]
                                rfl
                               refine take_ (i := 0) (N := some 253) (v := ?_) (a' := ?_) #[true, true, true, true, false, false, false, false, false, false, false] rfl rfl (take_ofW HT_.out HW_.out z13_9) (fun _ _ _ h => h) (Or.inl ⟨z13_21, ?_⟩) hHeld ?_ ?_
                               rotate_left
                               ·rintro w' ⟨s0, s1, s2, s3, s4, s5, s6⟩
                                go_simp
                                with_reducible rfl
                               rotate_left
                               ·simp only [Act.put, List.setIfInBounds_toArray, List.set_cons_zero, List.set_cons_succ, i64_w, i32_w]
                                rfl
                               refine take_ (i := 4) (N := some 257) (v := ?_) (a' := ?_) #[true, true, true, true, true, false, false, false, false, false, false] rfl rfl (take_ofW HT_.out HW_.out z13_9) (fun _ _ _ h => h) (Or.inl ⟨z13_21, ?_⟩) hHeld ?_ ?_
                               rotate_left
                               ·rintro w' ⟨s0, s1, s2, s3, s4, s5, s6⟩
                                go_simp
                                with_reducible rfl
                               rotate_left
                               ·simp only [Act.put, List.setIfInBounds_toArray, List.set_cons_zero, List.set_cons_succ, i64_w, i32_w]
                                rfl
                               refine one_ (i := 5) (N := some 258) #[true, true, true, true, true, true, false, false, false, false, false] rfl rfl (one_of HT_.out z13_9) (by decide) (fun K hK => ?_)
                               refine goes_ Try.func17 z13_9 rfl #[.agg #[.slice Ao11 t425.length co11, .int .i64 t428, .int .i64 t429, .int .i64 t430], .agg #[.int .i64 ((rd_T32 t469 x34_8).f0), .int .i64 ((rd_T32 t469 x34_8).f1), .int .i64 ((rd_T32 t469 x34_8).f2)]] z13_21 rfl rfl z13_6 ?_
                               with_reducible refine (impl_ProfitLoss.calls k8 _ _ t425 t428 t429 t430 ((rd_T32 t469 x34_8).f0) ((rd_T32 t469 x34_8).f1) ((rd_T32 t469 x34_8).f2) t481 true _ ?side1 ?side2 A116.out).mono ?_
                               (case side1 => have zh := (Kd.R_reads' HO_435000.out).2.2; exact z13_C)
                               (case side2 => exact (Kd.R_reads' HO_435000.out).2.1)
                               rintro e w124 ⟨rfl, hb⟩
                               have HS4_ := (hb.cell (World.block_lt_of_cell? _ _ (hHeld.2.2.2.2.1))).trans (hHeld.2.2.2.2.1)
                               have HS5_ := (hb.cell (World.block_lt_of_cell? _ _ (hHeld.2.2.2.2.2.1))).trans (hHeld.2.2.2.2.2.1)
                               have HS6_ := (hb.cell (World.block_lt_of_cell? _ _ (hHeld.2.2.2.2.2.2))).trans (hHeld.2.2.2.2.2.2)
                               refine ⟨_, rfl, ?_⟩
                               have n0_ := z13_A (Kd.R_below z13_19 hb)
                               have n1_ := z13_A (Kd.R_below z13_18 hb)
                               have n2_ := z13_A (Kd.R_below z13_5 hb)
                               have n3_ := z13_A (Kd.R_below z13_8 hb)
                               have n4_ := z13_A (blk_below (g := gb434) (o := .cells #[.slice Ao11 t425.length co11, .int .i64 t428, .int .i64 t429, .int .i64 t430] 30 (0, 0)) z13_2 hb)
                               have n5_ := z13_A (blk_below (g := gb435) (o := .cells #[.int .i64 t431, .int .i64 t432, .int .i64 t433] 32 (0, 0)) z13_3 hb)
                               have n6_ := z13_A (blk_below (g := gb462) (o := .cells #[.slice Ao75 t454.length co75, .int .i64 t457, .int .i64 t458, .int .i64 t459] 30 (0, 0)) z13_7 hb)
                               have n7_ := z13_A (below_step z13_1 hb)
                               clear HO_30
                               clear HO_32
                               clear HO_435000
                               clear HO_463000
                               clear BK434
                               clear BK435
                               clear BK462
                               clear HB
                               have HO_30 := n0_
                               have HO_32 := n1_
                               have HO_435000 := n2_
                               have HO_463000 := n3_
                               have BK434 := n4_
                               have BK435 := n5_
                               have BK462 := n6_
                               have HB := n7_
                               clear n0_ n1_ n2_ n3_ n4_ n5_ n6_ n7_
                               (try clear hb)
                               (try clear hb2)
                               (try clear hk)
                               (try clear hi)
                               refine hK.out _ _ ⟨(blk_cell BK434.out 0).trans rfl, (blk_cell BK434.out 1).trans rfl, (blk_cell BK434.out 2).trans rfl, (blk_cell BK434.out 3).trans rfl, HS4_, HS5_, HS6_⟩ (fun hHeld => ?_)
                               clear hK K
                               refine norm_ (a' := ?_) ?_ ?_
                               rotate_left
                               ·show Act.put _ (some 258) _ = _
                                simp only [Act.put, List.setIfInBounds_toArray, List.set_cons_zero, List.set_cons_succ, i64_w, i32_w]
                                rfl
                               refine pure_ (i := 6) (N := some 252) (v := ?_) (a' := ?_) #[true, true, true, true, true, true, true, false, false, false, false] rfl rfl (any_of HT_.out z13_9) (fun _ _ _ h => h) (Or.inl ⟨z13_21, ?_⟩) ?_ ?_
                               rotate_left
                               ·intro w'
                                go_simp
                                with_reducible rfl
                               rotate_left
                               ·simp only [Act.put, List.setIfInBounds_toArray, List.set_cons_zero, List.set_cons_succ, i64_w, i32_w]
                                rfl
                               refine pure_ (i := 7) (N := some 259) (v := ?_) (a' := ?_) #[true, true, true, true, true, true, true, true, false, false, false] rfl rfl (any_of HT_.out z13_9) (fun _ _ _ h => h) (Or.inl ⟨z13_21, ?_⟩) ?_ ?_
                               rotate_left
                               ·intro w'
                                go_simp
                                with_reducible rfl
                               rotate_left
                               ·simp only [Act.put, List.setIfInBounds_toArray, List.set_cons_zero, List.set_cons_succ, i64_w, i32_w]
                                rfl
                               refine pure_ (i := 8) (N := some 260) (v := ?_) (a' := ?_) #[true, true, true, true, true, true, true, true, true, false, false] rfl rfl (any_of HT_.out z13_9) (fun _ _ _ h => h) (Or.inl ⟨z13_21, ?_⟩) ?_ ?_
                               rotate_left
                               ·intro w'
                                go_simp
                                with_reducible rfl
                               rotate_left
                               ·simp only [Act.put, List.setIfInBounds_toArray, List.set_cons_zero, List.set_cons_succ, i64_w, i32_w]
                                rfl
                               refine pure_ (i := 9) (N := some 35) (v := ?_) (a' := ?_) #[true, true, true, true, true, true, true, true, true, true, false] rfl rfl (any_of HT_.out z13_9) (fun _ _ _ h => h) (Or.inl ⟨z13_21, ?_⟩) ?_ ?_
                               rotate_left
                               ·intro w'
                                go_simp
                                with_reducible rfl
                               rotate_left
                               ·simp only [Act.put, List.setIfInBounds_toArray, List.set_cons_zero, List.set_cons_succ, i64_w, i32_w]
                                rfl
                               refine pure_ (i := 10) (N := some 36) (v := ?_) (a' := ?_) #[true, true, true, true, true, true, true, true, true, true, true] rfl rfl (any_of HT_.out z13_9) (fun _ _ _ h => h) (Or.inl ⟨z13_21, ?_⟩) ?_ ?_
                               rotate_left
                               ·intro w'
                                go_simp
                                with_reducible rfl
                               rotate_left
                               ·simp only [Act.put, List.setIfInBounds_toArray, List.set_cons_zero, List.set_cons_succ, i64_w, i32_w]
                                rfl
                               refine done_ (done_of HT_.out z13_9) ?_
                               have hnb125 := NB434_435.out
                               have hnc125 := NB435_434.out
                               have hnb126 := NB434_462.out
                               have hnc126 := NB462_434.out
                               have hcz127_0 : w124.cell? ⟨gb434, 0, none⟩ = some (.slice Ao11 t425.length co11) := (blk_cell BK434.out 0).trans rfl
                               have hcz127_1 : w124.cell? ⟨gb434, 1, none⟩ = some (.int .i64 t428) := (blk_cell BK434.out 1).trans rfl
                               have hcz127_2 : w124.cell? ⟨gb434, 2, none⟩ = some (.int .i64 t429) := (blk_cell BK434.out 2).trans rfl
                               have hcz127_3 : w124.cell? ⟨gb434, 3, none⟩ = some (.int .i64 t430) := (blk_cell BK434.out 3).trans rfl
                               have hfz127_0 := blk_frozen BK434.out 0
                               have hfz127_1 := blk_frozen BK434.out 1
                               have hfz127_2 := blk_frozen BK434.out 2
                               have hfz127_3 := blk_frozen BK434.out 3
                               try go_wp2
                               go_roundg k8
                               case measure => have := HJ6.out; have := HJ28.out; have := HJ41.out; have := HJ55.out; have := HJ71.out; have := HJ83.out; have := HJ94.out; have := HK8.out; omega
                               case rel => exact ⟨(wrap64 (x34_8 + 1)), z13_13, H', ⟨z13_26⟩, ⟨z13_19⟩, ⟨z13_18⟩, ⟨z13_5⟩, ⟨z13_8⟩, ⟨z13_2⟩, ⟨z13_3⟩, ⟨z13_7⟩, ⟨z13_1⟩⟩
                              ·rw [if_neg c119] at H
                               exact absurd H z13_25
                             ·rw [if_neg c118] at H
                              have c118b0 : decide (t430 < t428) = false := decide_eq_false c118
                              clear c118
                              have H' := z13_A H
                              clear H
                              obtain ⟨Ao128, co128, eo128⟩ := Kd.R_slice HO_30.out
                              subst eo128
                              try go_wp2
                              have n0_ := z13_A (Kd.R_drew HO_30.out)
                              have n1_ := z13_A (Kd.R_drew HO_32.out)
                              have n2_ := z13_A (Kd.R_drew HO_435000.out)
                              have n3_ := z13_A (Kd.R_drew HO_463000.out)
                              have n4_ := z13_A (blk_drew BK434.out)
                              have n5_ := z13_A (blk_drew BK435.out)
                              have n6_ := z13_A (blk_drew BK462.out)
                              have n7_ := z13_A (below_drew1 HB.out)
                              clear HO_30
                              clear HO_32
                              clear HO_435000
                              clear HO_463000
                              clear BK434
                              clear BK435
                              clear BK462
                              clear HB
                              have HO_30 := n0_
                              have HO_32 := n1_
                              have HO_435000 := n2_
                              have HO_463000 := n3_
                              have BK434 := n4_
                              have BK435 := n5_
                              have BK462 := n6_
                              have HB := n7_
                              clear n0_ n1_ n2_ n3_ n4_ n5_ n6_ n7_
                              have p478 : 0 ≤ (x34_8 : Int) := of_decide_eq_true z13_14
                              have q478 : x34_8 < (t469.length : Int) := of_decide_eq_true z13_14
                              obtain ⟨ad478, e478, hx478_0, hx478_1, hx478_2⟩ := at_T32 (Kd.R_reads' HO_30.out).2.2 x34_8 p478 q478
                              cases e478
                              replace p478 := eq_true p478
                              replace q478 := eq_true q478
                              obtain ⟨Ao130, co130, eo130⟩ := Kd.R_slice HO_32.out
                              (first | subst eo130 | (injection eo130 with f1_ f2_ f3_; have f4_ := f1_.symm; have f5_ := f3_.symm; clear f1_ f2_ f3_; subst f4_; subst f5_))
                              have p479 : 0 ≤ (x34_8 : Int) := of_decide_eq_true z13_14
                              have q479 : x34_8 < (t473.length : Int) := of_decide_eq_true z13_14
                              obtain ⟨ad479, e479, hx479_0, hx479_1, hx479_2⟩ := at_T32 (Kd.R_reads' HO_32.out).2.2 x34_8 p479 q479
                              cases e479
                              replace p479 := eq_true p479
                              replace q479 := eq_true q479
                              refine start_ (n := 9) (S := fun w' => w'.cell? (ad478.add ((x34_8).toNat * 3)) = some (.int .i64 ((rd_T32 t469 x34_8).f0)) ∧ w'.cell? ⟨(ad478.add ((x34_8).toNat * 3)).block, (ad478.add ((x34_8).toNat * 3)).off + 1, none⟩ = some (.int .i64 ((rd_T32 t469 x34_8).f1)) ∧ w'.cell? ⟨(ad478.add ((x34_8).toNat * 3)).block, (ad478.add ((x34_8).toNat * 3)).off + 2, none⟩ = some (.int .i64 ((rd_T32 t469 x34_8).f2)) ∧ w'.cell? (ad479.add ((x34_8).toNat * 3)) = some (.int .i64 ((rd_T32 t473 x34_8).f0)) ∧ w'.cell? ⟨(ad479.add ((x34_8).toNat * 3)).block, (ad479.add ((x34_8).toNat * 3)).off + 1, none⟩ = some (.int .i64 ((rd_T32 t473 x34_8).f1)) ∧ w'.cell? ⟨(ad479.add ((x34_8).toNat * 3)).block, (ad479.add ((x34_8).toNat * 3)).off + 2, none⟩ = some (.int .i64 ((rd_T32 t473 x34_8).f2))) (ds := []) #[false, false, false, false, false, false, false, false, false] z13_9 rfl rfl ⟨hx478_0, hx478_1, hx478_2, hx479_0, hx479_1, hx479_2⟩ (fun hHeld => ?_); refine with_tabW laws_FnContracts.tab36 laws_FnContracts.bits36 (fun HT_ HW_ => ?_)
                              generalize wr.drew = w129 at HO_30 HO_32 HO_435000 HO_463000 BK434 BK435 BK462 HB hx478_0 hx478_1 hx478_2 hx479_0 hx479_1 hx479_2 hHeld ⊢
                              refine pure_ (i := 0) (N := some 243) (v := ?_) (a' := ?_) #[true, false, false, false, false, false, false, false, false] rfl rfl (any_of HT_.out z13_9) (fun _ _ _ h => h) (Or.inl ⟨z13_21, ?_⟩) ?_ ?_
                              rotate_left
                              ·intro w'
                               go_simp
                               with_reducible rfl
                              rotate_left
                              ·simp only [Act.put, List.setIfInBounds_toArray, List.set_cons_zero, List.set_cons_succ, i64_w, i32_w]
                               rfl
                              refine pure_ (i := 1) (N := some 244) (v := ?_) (a' := ?_) #[true, true, false, false, false, false, false, false, false] rfl rfl (any_of HT_.out z13_9) (fun _ _ _ h => h) (Or.inl ⟨z13_21, ?_⟩) ?_ ?_
                              rotate_left
                              ·intro w'
                               go_simp
                               with_reducible rfl
                              rotate_left
                              ·simp only [Act.put, List.setIfInBounds_toArray, List.set_cons_zero, List.set_cons_succ, i64_w, i32_w]
                               rfl
                              refine pure_ (i := 2) (N := some 245) (v := ?_) (a' := ?_) #[true, true, true, false, false, false, false, false, false] rfl rfl (any_of HT_.out z13_9) (fun _ _ _ h => h) (Or.inl ⟨z13_21, ?_⟩) ?_ ?_
                              rotate_left
                              ·intro w'
                               go_simp
                               with_reducible rfl
                              rotate_left
                              ·simp only [Act.put, List.setIfInBounds_toArray, List.set_cons_zero, List.set_cons_succ, i64_w, i32_w]
                               rfl
                              refine pure_ (i := 4) (N := some 247) (v := ?_) (a' := ?_) #[true, true, true, false, true, false, false, false, false] rfl rfl (any_of HT_.out z13_9) (fun _ _ _ h => h) (Or.inl ⟨z13_21, ?_⟩) ?_ ?_
                              rotate_left
                              ·intro w'
                               go_simp
                               with_reducible rfl
                              rotate_left
                              ·simp only [Act.put, List.setIfInBounds_toArray, List.set_cons_zero, List.set_cons_succ, i64_w, i32_w]
                               rfl
                              refine pure_ (i := 5) (N := some 248) (v := ?_) (a' := ?_) #[true, true, true, false, true, true, false, false, false] rfl rfl (any_of HT_.out z13_9) (fun _ _ _ h => h) (Or.inl ⟨z13_21, ?_⟩) ?_ ?_
                              rotate_left
                              ·intro w'
                               go_simp
                               with_reducible rfl
                              rotate_left
                              ·simp only [Act.put, List.setIfInBounds_toArray, List.set_cons_zero, List.set_cons_succ, i64_w, i32_w]
                               rfl
                              refine pure_ (i := 6) (N := some 249) (v := ?_) (a' := ?_) #[true, true, true, false, true, true, true, false, false] rfl rfl (any_of HT_.out z13_9) (fun _ _ _ h => h) (Or.inl ⟨z13_21, ?_⟩) ?_ ?_
                              rotate_left
                              ·intro w'
                               go_simp
                               with_reducible rfl
                              rotate_left
                              ·simp only [Act.put, List.setIfInBounds_toArray, List.set_cons_zero, List.set_cons_succ, i64_w, i32_w]
                               rfl
                              refine take_ (i := 3) (N := some 246) (v := ?_) (a' := ?_) #[true, true, true, true, true, true, true, false, false] rfl rfl (take_ofW HT_.out HW_.out z13_9) (fun _ _ _ h => h) (Or.inl ⟨z13_21, ?_⟩) hHeld ?_ ?_
                              rotate_left
                              ·rintro w' ⟨s0, s1, s2, s3, s4, s5⟩
                               go_simp
                               with_reducible rfl
                              rotate_left
                              ·simp only [Act.put, List.setIfInBounds_toArray, List.set_cons_zero, List.set_cons_succ, i64_w, i32_w]
                               rfl
                              refine take_ (i := 7) (N := some 250) (v := ?_) (a' := ?_) #[true, true, true, true, true, true, true, true, false] rfl rfl (take_ofW HT_.out HW_.out z13_9) (fun _ _ _ h => h) (Or.inl ⟨z13_21, ?_⟩) hHeld ?_ ?_
                              rotate_left
                              ·rintro w' ⟨s0, s1, s2, s3, s4, s5⟩
                               go_simp
                               with_reducible rfl
                              rotate_left
                              ·simp only [Act.put, List.setIfInBounds_toArray, List.set_cons_zero, List.set_cons_succ, i64_w, i32_w]
                               rfl
                              refine pure_ (i := 8) (N := some 251) (v := ?_) (a' := ?_) #[true, true, true, true, true, true, true, true, true] rfl rfl (any_of HT_.out z13_9) (fun _ _ _ h => h) (Or.inl ⟨z13_21, ?_⟩) ?_ ?_
                              rotate_left
                              ·intro w'
                               go_simp
                               with_reducible rfl
                              rotate_left
                              ·simp only [Act.put, List.setIfInBounds_toArray, List.set_cons_zero, List.set_cons_succ, i64_w, i32_w]
                               rfl
                              refine done_ (done_of HT_.out z13_9) ?_
                              try go_wp2
                              have n0_ := z13_A (Kd.R_drew HO_30.out)
                              have n1_ := z13_A (Kd.R_drew HO_32.out)
                              have n2_ := z13_A (Kd.R_drew HO_435000.out)
                              have n3_ := z13_A (Kd.R_drew HO_463000.out)
                              have n4_ := z13_A (blk_drew BK434.out)
                              have n5_ := z13_A (blk_drew BK435.out)
                              have n6_ := z13_A (blk_drew BK462.out)
                              have n7_ := z13_A (below_drew1 HB.out)
                              clear HO_30
                              clear HO_32
                              clear HO_435000
                              clear HO_463000
                              clear BK434
                              clear BK435
                              clear BK462
                              clear HB
                              have HO_30 := n0_
                              have HO_32 := n1_
                              have HO_435000 := n2_
                              have HO_463000 := n3_
                              have BK434 := n4_
                              have BK435 := n5_
                              have BK462 := n6_
                              have HB := n7_
                              clear n0_ n1_ n2_ n3_ n4_ n5_ n6_ n7_
                              have p480 : 0 ≤ (x34_8 : Int) := of_decide_eq_true z13_14
                              have q480 : x34_8 < (t469.length : Int) := of_decide_eq_true z13_14
                              obtain ⟨ad480, e480, hx480_0, hx480_1, hx480_2⟩ := at_T32 (Kd.R_reads' HO_30.out).2.2 x34_8 p480 q480
                              obtain rfl : ad478 = ad480 := (by injection e480)
                              replace p480 := eq_true p480
                              replace q480 := eq_true q480
                              refine start_ (n := 11) (S := fun w' => w'.cell? ⟨gb434, 0, none⟩ = some (.slice Ao11 t425.length co11) ∧ w'.cell? ⟨gb434, 1, none⟩ = some (.int .i64 t428) ∧ w'.cell? ⟨gb434, 2, none⟩ = some (.int .i64 t429) ∧ w'.cell? ⟨gb434, 3, none⟩ = some (.int .i64 t430) ∧ w'.cell? (ad478.add ((x34_8).toNat * 3)) = some (.int .i64 ((rd_T32 t469 x34_8).f0)) ∧ w'.cell? ⟨(ad478.add ((x34_8).toNat * 3)).block, (ad478.add ((x34_8).toNat * 3)).off + 1, none⟩ = some (.int .i64 ((rd_T32 t469 x34_8).f1)) ∧ w'.cell? ⟨(ad478.add ((x34_8).toNat * 3)).block, (ad478.add ((x34_8).toNat * 3)).off + 2, none⟩ = some (.int .i64 ((rd_T32 t469 x34_8).f2))) (ds := []) #[false, false, false, false, false, false, false, false, false, false, false] z13_9 rfl rfl ⟨(blk_cell BK434.out 0).trans rfl, (blk_cell BK434.out 1).trans rfl, (blk_cell BK434.out 2).trans rfl, (blk_cell BK434.out 3).trans rfl, hx480_0, hx480_1, hx480_2⟩ (fun hHeld => ?_); refine with_tabW laws_FnContracts.tab38 laws_FnContracts.bits38 (fun HT_ HW_ => ?_)
                              generalize w129.drew = w131 at HO_30 HO_32 HO_435000 HO_463000 BK434 BK435 BK462 HB hx480_0 hx480_1 hx480_2 hHeld ⊢
                              refine pure_ (i := 1) (N := some 254) (v := ?_) (a' := ?_) #[false, true, false, false, false, false, false, false, false, false, false] rfl rfl (any_of HT_.out z13_9) (fun _ _ _ h => h) (Or.inl ⟨z13_21, ?_⟩) ?_ ?_
                              rotate_left
                              ·intro w'
                               go_simp
                               with_reducible rfl
                              rotate_left
                              ·simp only [Act.put, List.setIfInBounds_toArray, List.set_cons_zero, List.set_cons_succ, i64_w, i32_w]
                               rfl
                              refine pure_ (i := 2) (N := some 255) (v := ?_) (a' := ?_) #[false, true, true, false, false, false, false, false, false, false, false] rfl rfl (any_of HT_.out z13_9) (fun _ _ _ h => h) (Or.inl ⟨z13_21, ?_⟩) ?_ ?_
                              rotate_left
                              ·intro w'
                               go_simp
                               with_reducible rfl
                              rotate_left
                              ·simp only [Act.put, List.setIfInBounds_toArray, List.set_cons_zero, List.set_cons_succ, i64_w, i32_w]
                               rfl
                              refine pure_ (i := 3) (N := some 256) (v := ?_) (a' := ?_) #[false, true, true, true, false, false, false, false, false, false, false] rfl rfl (any_of HT_.out z13_9) (fun _ _ _ h => h) (Or.inl ⟨z13_21, ?_⟩) ?_ ?_
                              rotate_left
                              ·intro w'
                               go_simp
                               with_reducible rfl
                              rotate_left
                              ·simp only [Act.put, List.setIfInBounds_toArray, List.set_cons_zero, List.set_cons_succ, i64_w, i32_w]
                               rfl
                              refine take_ (i := 0) (N := some 253) (v := ?_) (a' := ?_) #[true, true, true, true, false, false, false, false, false, false, false] rfl rfl (take_ofW HT_.out HW_.out z13_9) (fun _ _ _ h => h) (Or.inl ⟨z13_21, ?_⟩) hHeld ?_ ?_
                              rotate_left
                              ·rintro w' ⟨s0, s1, s2, s3, s4, s5, s6⟩
                               go_simp
                               with_reducible rfl
                              rotate_left
                              ·simp only [Act.put, List.setIfInBounds_toArray, List.set_cons_zero, List.set_cons_succ, i64_w, i32_w]
                               rfl
                              refine take_ (i := 4) (N := some 257) (v := ?_) (a' := ?_) #[true, true, true, true, true, false, false, false, false, false, false] rfl rfl (take_ofW HT_.out HW_.out z13_9) (fun _ _ _ h => h) (Or.inl ⟨z13_21, ?_⟩) hHeld ?_ ?_
                              rotate_left
                              ·rintro w' ⟨s0, s1, s2, s3, s4, s5, s6⟩
                               go_simp
                               with_reducible rfl
                              rotate_left
                              ·simp only [Act.put, List.setIfInBounds_toArray, List.set_cons_zero, List.set_cons_succ, i64_w, i32_w]
                               rfl
                              refine one_ (i := 5) (N := some 258) #[true, true, true, true, true, true, false, false, false, false, false] rfl rfl (one_of HT_.out z13_9) (by decide) (fun K hK => ?_)
                              refine goes_ Try.func17 z13_9 rfl #[.agg #[.slice Ao11 t425.length co11, .int .i64 t428, .int .i64 t429, .int .i64 t430], .agg #[.int .i64 ((rd_T32 t469 x34_8).f0), .int .i64 ((rd_T32 t469 x34_8).f1), .int .i64 ((rd_T32 t469 x34_8).f2)]] z13_21 rfl rfl z13_6 ?_
                              with_reducible refine (impl_ProfitLoss.calls k8 _ _ t425 t428 t429 t430 ((rd_T32 t469 x34_8).f0) ((rd_T32 t469 x34_8).f1) ((rd_T32 t469 x34_8).f2) t481 true _ ?side1 ?side2 A116.out).mono ?_
                              (case side1 => have zh := (Kd.R_reads' HO_435000.out).2.2; exact z13_C)
                              (case side2 => exact (Kd.R_reads' HO_435000.out).2.1)
                              rintro e w132 ⟨rfl, hb⟩
                              have HS4_ := (hb.cell (World.block_lt_of_cell? _ _ (hHeld.2.2.2.2.1))).trans (hHeld.2.2.2.2.1)
                              have HS5_ := (hb.cell (World.block_lt_of_cell? _ _ (hHeld.2.2.2.2.2.1))).trans (hHeld.2.2.2.2.2.1)
                              have HS6_ := (hb.cell (World.block_lt_of_cell? _ _ (hHeld.2.2.2.2.2.2))).trans (hHeld.2.2.2.2.2.2)
                              refine ⟨_, rfl, ?_⟩
                              have n0_ := z13_A (Kd.R_below z13_19 hb)
                              have n1_ := z13_A (Kd.R_below z13_18 hb)
                              have n2_ := z13_A (Kd.R_below z13_5 hb)
                              have n3_ := z13_A (Kd.R_below z13_8 hb)
                              have n4_ := z13_A (blk_below (g := gb434) (o := .cells #[.slice Ao11 t425.length co11, .int .i64 t428, .int .i64 t429, .int .i64 t430] 30 (0, 0)) z13_2 hb)
                              have n5_ := z13_A (blk_below (g := gb435) (o := .cells #[.int .i64 t431, .int .i64 t432, .int .i64 t433] 32 (0, 0)) z13_3 hb)
                              have n6_ := z13_A (blk_below (g := gb462) (o := .cells #[.slice Ao75 t454.length co75, .int .i64 t457, .int .i64 t458, .int .i64 t459] 30 (0, 0)) z13_7 hb)
                              have n7_ := z13_A (below_step z13_1 hb)
                              clear HO_30
                              clear HO_32
                              clear HO_435000
                              clear HO_463000
                              clear BK434
                              clear BK435
                              clear BK462
                              clear HB
                              have HO_30 := n0_
                              have HO_32 := n1_
                              have HO_435000 := n2_
                              have HO_463000 := n3_
                              have BK434 := n4_
                              have BK435 := n5_
                              have BK462 := n6_
                              have HB := n7_
                              clear n0_ n1_ n2_ n3_ n4_ n5_ n6_ n7_
                              (try clear hb)
                              (try clear hb2)
                              (try clear hk)
                              (try clear hi)
                              refine hK.out _ _ ⟨(blk_cell BK434.out 0).trans rfl, (blk_cell BK434.out 1).trans rfl, (blk_cell BK434.out 2).trans rfl, (blk_cell BK434.out 3).trans rfl, HS4_, HS5_, HS6_⟩ (fun hHeld => ?_)
                              clear hK K
                              refine norm_ (a' := ?_) ?_ ?_
                              rotate_left
                              ·show Act.put _ (some 258) _ = _
                               simp only [Act.put, List.setIfInBounds_toArray, List.set_cons_zero, List.set_cons_succ, i64_w, i32_w]
                               rfl
                              refine pure_ (i := 6) (N := some 252) (v := ?_) (a' := ?_) #[true, true, true, true, true, true, true, false, false, false, false] rfl rfl (any_of HT_.out z13_9) (fun _ _ _ h => h) (Or.inl ⟨z13_21, ?_⟩) ?_ ?_
                              rotate_left
                              ·intro w'
                               go_simp
                               with_reducible rfl
                              rotate_left
                              ·simp only [Act.put, List.setIfInBounds_toArray, List.set_cons_zero, List.set_cons_succ, i64_w, i32_w]
                               rfl
                              refine pure_ (i := 7) (N := some 259) (v := ?_) (a' := ?_) #[true, true, true, true, true, true, true, true, false, false, false] rfl rfl (any_of HT_.out z13_9) (fun _ _ _ h => h) (Or.inl ⟨z13_21, ?_⟩) ?_ ?_
                              rotate_left
                              ·intro w'
                               go_simp
                               with_reducible rfl
                              rotate_left
                              ·simp only [Act.put, List.setIfInBounds_toArray, List.set_cons_zero, List.set_cons_succ, i64_w, i32_w]
                               rfl
                              refine pure_ (i := 8) (N := some 260) (v := ?_) (a' := ?_) #[true, true, true, true, true, true, true, true, true, false, false] rfl rfl (any_of HT_.out z13_9) (fun _ _ _ h => h) (Or.inl ⟨z13_21, ?_⟩) ?_ ?_
                              rotate_left
                              ·intro w'
                               go_simp
                               with_reducible rfl
                              rotate_left
                              ·simp only [Act.put, List.setIfInBounds_toArray, List.set_cons_zero, List.set_cons_succ, i64_w, i32_w]
                               rfl
                              refine pure_ (i := 9) (N := some 35) (v := ?_) (a' := ?_) #[true, true, true, true, true, true, true, true, true, true, false] rfl rfl (any_of HT_.out z13_9) (fun _ _ _ h => h) (Or.inl ⟨z13_21, ?_⟩) ?_ ?_
                              rotate_left
                              ·intro w'
                               go_simp
                               with_reducible rfl
                              rotate_left
                              ·simp only [Act.put, List.setIfInBounds_toArray, List.set_cons_zero, List.set_cons_succ, i64_w, i32_w]
                               rfl
                              refine pure_ (i := 10) (N := some 36) (v := ?_) (a' := ?_) #[true, true, true, true, true, true, true, true, true, true, true] rfl rfl (any_of HT_.out z13_9) (fun _ _ _ h => h) (Or.inl ⟨z13_21, ?_⟩) ?_ ?_
                              rotate_left
                              ·intro w'
                               go_simp
                               with_reducible rfl
                              rotate_left
                              ·simp only [Act.put, List.setIfInBounds_toArray, List.set_cons_zero, List.set_cons_succ, i64_w, i32_w]
                               rfl
                              refine done_ (done_of HT_.out z13_9) ?_
                              have hnb133 := NB434_435.out
                              have hnc133 := NB435_434.out
                              have hnb134 := NB434_462.out
                              have hnc134 := NB462_434.out
                              have hcz135_0 : w132.cell? ⟨gb434, 0, none⟩ = some (.slice Ao11 t425.length co11) := (blk_cell BK434.out 0).trans rfl
                              have hcz135_1 : w132.cell? ⟨gb434, 1, none⟩ = some (.int .i64 t428) := (blk_cell BK434.out 1).trans rfl
                              have hcz135_2 : w132.cell? ⟨gb434, 2, none⟩ = some (.int .i64 t429) := (blk_cell BK434.out 2).trans rfl
                              have hcz135_3 : w132.cell? ⟨gb434, 3, none⟩ = some (.int .i64 t430) := (blk_cell BK434.out 3).trans rfl
                              have hfz135_0 := blk_frozen BK434.out 0
                              have hfz135_1 := blk_frozen BK434.out 1
                              have hfz135_2 := blk_frozen BK434.out 2
                              have hfz135_3 := blk_frozen BK434.out 3
                              try go_wp2
                              go_roundg k8
                              case measure => have := HJ6.out; have := HJ28.out; have := HJ41.out; have := HJ55.out; have := HJ71.out; have := HJ83.out; have := HJ94.out; have := HK8.out; omega
                              case rel => exact ⟨(wrap64 (x34_8 + 1)), z13_13, H', ⟨z13_26⟩, ⟨z13_19⟩, ⟨z13_18⟩, ⟨z13_5⟩, ⟨z13_8⟩, ⟨z13_2⟩, ⟨z13_3⟩, ⟨z13_7⟩, ⟨z13_1⟩⟩
                            ·replace c117 := Bool.eq_false_iff.mpr c117
                             subst c117
                             have H1 : (none) = some r := z13_10
                             clear H
                             have H := H1
                             clear H1
                             exact absurd H z13_25
                          ·rw [if_neg c114] at H
                           exact absurd H z13_25
                         ·rw [if_neg c113] at H
                          exact absurd H z13_25
                        ·rw [if_neg c112] at H
                         have c112b0 : decide (x34_8 < (t469.length : Int)) = false := decide_eq_false c112
                         clear c112
                         have HC136 := z13_A H
                         clear H
                         obtain ⟨Ao137, co137, eo137⟩ := Kd.R_slice HO_30.out
                         subst eo137
                         go_upto_region 41 with (fail)
                         go_cut [282] (fun v282 wc => ∃ (kq : Nat) (x282_135 : Bool), v282 = .bool x282_135 ∧ Aside0 (laws_FnContracts.j8 kq t442 t446 x282_135 t425 t428 t429 t430 t431 t432 t433 = some r) ∧ Aside0 (kq ≤ k8) ∧ Aside0 (Kd.R (Kd.int .i64) 3 wc w.heap.size (fun k_ => some k_ ≠ ((.slice Ao75 t454.length co75) : Value).ownBlock) (.slice Ao11 t425.length co11) t425) ∧ Aside0 (Kd.R (Kd.int .i64) 3 wc w.heap.size (fun k_ => some k_ ≠ ((.slice Ao11 t425.length co11) : Value).ownBlock) (.slice Ao75 t454.length co75) t454) ∧ Aside0 (wc.heap[gb434]? = some (.cells #[(.slice Ao11 t425.length co11), .int .i64 t428, .int .i64 t429, .int .i64 t430] 30 (0, 0))) ∧ Aside0 (wc.heap[gb435]? = some (.cells #[.int .i64 t431, .int .i64 t432, .int .i64 t433] 32 (0, 0))) ∧ Aside0 (wc.heap[gb462]? = some (.cells #[(.slice Ao75 t454.length co75), .int .i64 t457, .int .i64 t458, .int .i64 t459] 30 (0, 0))) ∧ Aside0 (Below w.heap.size w wc))
                         case first => as_aux_lemma =>
                          have H := HC136.out
                          clear HC136
                          by_cases c138 : t436 = true
                          ·subst c138
                           have H1 : (laws_FnContracts.j8 k8 t442 t446 (t428 == t430) t425 t428 t429 t430 t431 t432 t433) = some r := z13_16
                           clear H
                           have H := H1
                           clear H1
                           have H' := z13_A H
                           clear H
                           have hnb139 := NB434_435.out
                           have hnc139 := NB435_434.out
                           have hnb140 := NB434_462.out
                           have hnc140 := NB462_434.out
                           have hcz141_0 : wr.cell? ⟨gb434, 0, none⟩ = some (.slice Ao11 t425.length co11) := (blk_cell BK434.out 0).trans rfl
                           have hcz141_1 : wr.cell? ⟨gb434, 1, none⟩ = some (.int .i64 t428) := (blk_cell BK434.out 1).trans rfl
                           have hcz141_2 : wr.cell? ⟨gb434, 2, none⟩ = some (.int .i64 t429) := (blk_cell BK434.out 2).trans rfl
                           have hcz141_3 : wr.cell? ⟨gb434, 3, none⟩ = some (.int .i64 t430) := (blk_cell BK434.out 3).trans rfl
                           have hfz141_0 := blk_frozen BK434.out 0
                           have hfz141_1 := blk_frozen BK434.out 1
                           have hfz141_2 := blk_frozen BK434.out 2
                           have hfz141_3 := blk_frozen BK434.out 3
                           go_wp2
                           go_meet
                           case rel => exact ⟨_, ((t428 == t430)), z13_13, H', ⟨z13_24⟩, ⟨z13_5⟩, ⟨z13_8⟩, ⟨z13_2⟩, ⟨z13_3⟩, ⟨z13_7⟩, ⟨z13_1⟩⟩
                          ·replace c138 := Bool.eq_false_iff.mpr c138
                           subst c138
                           have H1 : (laws_FnContracts.j8 k8 t442 t446 true t425 t428 t429 t430 t431 t432 t433) = some r := z13_10
                           clear H
                           have H := H1
                           clear H1
                           have H' := z13_A H
                           clear H
                           go_wp2
                           go_meet
                           case rel => exact ⟨_, (true), z13_13, H', ⟨z13_24⟩, ⟨z13_5⟩, ⟨z13_8⟩, ⟨z13_2⟩, ⟨z13_3⟩, ⟨z13_7⟩, ⟨z13_1⟩⟩
                         case rest => as_aux_lemma =>
                          clear HC136
                          (try clear p4); (try clear q4); (try clear hx4); (try clear p6); (try clear c13); (try clear p47); (try clear q47); (try clear hx47); (try clear p48); (try clear q48); (try clear hx48); (try clear p64); (try clear c112); (try clear c112b0); (try clear c113); (try clear c114); (try clear c117); (try clear c118); (try clear c118b0); (try clear c119); (try clear c125); (try clear c126); (try clear c133); (try clear c134); (try clear c138); (try clear c139); (try clear c140); (try clear hcz127_0); (try clear hcz127_1); (try clear hcz127_2); (try clear hcz127_3); (try clear hcz135_0); (try clear hcz135_1); (try clear hcz135_2); (try clear hcz135_3); (try clear hcz141_0); (try clear hcz141_1); (try clear hcz141_2); (try clear hcz141_3); (try clear hfz127_0); (try clear hfz127_1); (try clear hfz127_2); (try clear hfz127_3); (try clear hfz135_0); (try clear hfz135_1); (try clear hfz135_2); (try clear hfz135_3); (try clear hfz141_0); (try clear hfz141_1); (try clear hfz141_2); (try clear hfz141_3); (try clear hx478_0); (try clear hx478_1); (try clear hx478_2); (try clear hx479_0); (try clear hx479_1); (try clear hx479_2); (try clear hx480_0); (try clear hx480_1); (try clear hx480_2); (try clear p478); (try clear p479); (try clear p480); (try clear q478); (try clear q479); (try clear q480)
                          obtain ⟨kq, x282_135, rfl, HA, HJ135, HO_435000, HO_463000, BK434, BK435, BK462, HB⟩ := hcut
                          cases kq with
                          | zero => exact absurd HA.out (by simp [laws_FnContracts.j8])
                          | succ kj135 =>
                           have H := HA.out
                           clear HA
                           simp only [laws_FnContracts.j8] at H
                           by_cases c142 : x282_135 = true
                           ·subst c142
                            have H1 : (some true) = some r := z13_16
                            clear H
                            have H := H1
                            clear H1
                            obtain rfl := Option.some.inj H
                            go_wp2
                            go_ret
                            exact ⟨z13_23, z13_1⟩
                           ·replace c142 := Bool.eq_false_iff.mpr c142
                            subst c142
                            have H1 : ((impl_JointOrder.f kj135 t425 t428 t429 t430).bind fun bt483 => (if bt483.2 = true then (if t442 = bt483.1 then (laws_FnContracts.j9 kj135 (t446 != 0) t425 t428 t429 t430 t431 t432 t433) else (none)) else (none))) = some r := z13_10
                            clear H
                            have H := H1
                            clear H1
                            replace H := Option.bind_eq_some_iff.mp H
                            obtain ⟨⟨t483, t484⟩, A1430, H⟩ := H
                            (try dsimp only at H)
                            have A143 := z13_A A1430
                            clear A1430
                            have HC144 := z13_A H
                            clear H
                            have hnb145 := NB434_435.out
                            have hnc145 := NB435_434.out
                            have hnb146 := NB434_462.out
                            have hnc146 := NB462_434.out
                            have hcz147_0 : wc.cell? ⟨gb434, 0, none⟩ = some (.slice Ao11 t425.length co11) := (blk_cell BK434.out 0).trans rfl
                            have hcz147_1 : wc.cell? ⟨gb434, 1, none⟩ = some (.int .i64 t428) := (blk_cell BK434.out 1).trans rfl
                            have hcz147_2 : wc.cell? ⟨gb434, 2, none⟩ = some (.int .i64 t429) := (blk_cell BK434.out 2).trans rfl
                            have hcz147_3 : wc.cell? ⟨gb434, 3, none⟩ = some (.int .i64 t430) := (blk_cell BK434.out 3).trans rfl
                            have hfz147_0 := blk_frozen BK434.out 0
                            have hfz147_1 := blk_frozen BK434.out 1
                            have hfz147_2 := blk_frozen BK434.out 2
                            have hfz147_3 := blk_frozen BK434.out 3
                            go_upto_region 44 with (first | ((with_reducible refine gate_callee (f := 43) rfl ?_); refine goesL_ (some 285) rfl rfl Try.func43 z13_9 rfl #[.agg #[.slice Ao11 t425.length co11, .int .i64 t428, .int .i64 t429, .int .i64 t430]] rfl z13_6 ?_; (with_reducible refine (impl_JointOrder.calls kj135 _ _ t425 t428 t429 t430 t483 t484 _ ?side1 ?side2 A143.out).mono ?_); (case side1 => have zh := (Kd.R_reads' HO_435000.out).2.2; exact z13_C); (case side2 => exact (Kd.R_reads' HO_435000.out).2.1); rintro e w148 ⟨rfl, hb⟩; refine ⟨_, rfl, ?_⟩; have n0_ := z13_A (Kd.R_below z13_5 hb); have n1_ := z13_A (Kd.R_below z13_8 hb); have n2_ := z13_A (blk_below (g := gb434) (o := .cells #[.slice Ao11 t425.length co11, .int .i64 t428, .int .i64 t429, .int .i64 t430] 30 (0, 0)) z13_2 hb); have n3_ := z13_A (blk_below (g := gb435) (o := .cells #[.int .i64 t431, .int .i64 t432, .int .i64 t433] 32 (0, 0)) z13_3 hb); have n4_ := z13_A (blk_below (g := gb462) (o := .cells #[.slice Ao75 t454.length co75, .int .i64 t457, .int .i64 t458, .int .i64 t459] 30 (0, 0)) z13_7 hb); have n5_ := z13_A (below_step z13_1 hb); clear HO_435000 HO_463000 BK434 BK435 BK462 HB; revert n0_ n1_ n2_ n3_ n4_ n5_; intro HO_435000 HO_463000 BK434 BK435 BK462 HB; (try clear hb); (try clear hb2); (try clear hk); (try clear hi)))
                            (try simp only [Act.put, List.setIfInBounds_toArray, List.set_cons_zero, List.set_cons_succ])
                            go_cut [298] (fun v298 wc => ∃ (kq : Nat) (x298_143 : Bool), v298 = .bool x298_143 ∧ Aside0 (laws_FnContracts.j9 kq x298_143 t425 t428 t429 t430 t431 t432 t433 = some r) ∧ Aside0 (kq ≤ kj135) ∧ Aside0 (Kd.R (Kd.int .i64) 3 wc w.heap.size (fun k_ => some k_ ≠ ((.slice Ao75 t454.length co75) : Value).ownBlock) (.slice Ao11 t425.length co11) t425) ∧ Aside0 (Kd.R (Kd.int .i64) 3 wc w.heap.size (fun k_ => some k_ ≠ ((.slice Ao11 t425.length co11) : Value).ownBlock) (.slice Ao75 t454.length co75) t454) ∧ Aside0 (wc.heap[gb434]? = some (.cells #[(.slice Ao11 t425.length co11), .int .i64 t428, .int .i64 t429, .int .i64 t430] 30 (0, 0))) ∧ Aside0 (wc.heap[gb435]? = some (.cells #[.int .i64 t431, .int .i64 t432, .int .i64 t433] 32 (0, 0))) ∧ Aside0 (wc.heap[gb462]? = some (.cells #[(.slice Ao75 t454.length co75), .int .i64 t457, .int .i64 t458, .int .i64 t459] 30 (0, 0))) ∧ Aside0 (Below w.heap.size w wc))
                            case first => as_aux_lemma =>
                             have H := HC144.out
                             clear HC144
                             by_cases c149 : t484 = true
                             ·subst c149
                              have H1 : (if t442 = t483 then (laws_FnContracts.j9 kj135 (t446 != 0) t425 t428 t429 t430 t431 t432 t433) else (none)) = some r := z13_16
                              clear H
                              have H := H1
                              clear H1
                              by_cases c150 : t442 = t483
                              ·rw [if_pos c150] at H
                               have c150b0 : (t442 == t483) = true := beq_iff_eq.mpr c150
                               have c150b1 : (t442 != t483) = false := bne_eq_false_iff_eq.mpr c150
                               clear c150
                               (first | rw [c150b0] | (simp only [i64_w, i32_w]; rw [c150b0]) | skip)
                               have H' := z13_A H
                               clear H
                               go_wp2
                               go_meet
                               case rel => exact ⟨_, ((t446 != 0)), z13_13, H', ⟨by have := HJ6.out; have := HJ28.out; have := HJ41.out; have := HJ55.out; have := HJ71.out; have := HJ83.out; have := HJ94.out; have := HK8.out; have := HJ135.out; first | omega | exact Nat.le_refl _⟩, ⟨z13_5⟩, ⟨z13_8⟩, ⟨z13_2⟩, ⟨z13_3⟩, ⟨z13_7⟩, ⟨z13_1⟩⟩
                              ·rw [if_neg c150] at H
                               exact absurd H z13_25
                             ·replace c149 := Bool.eq_false_iff.mpr c149
                              subst c149
                              have H1 : (none) = some r := z13_10
                              clear H
                              have H := H1
                              clear H1
                              exact absurd H z13_25
                            case rest => as_aux_lemma =>
                             clear HC144
                             (try clear c4); (try clear c15); (try clear c43); (try clear c142); (try clear c145); (try clear c146); (try clear c149); (try clear c150); (try clear c150b0); (try clear c150b1); (try clear hcz147_0); (try clear hcz147_1); (try clear hcz147_2); (try clear hcz147_3); (try clear hfz147_0); (try clear hfz147_1); (try clear hfz147_2); (try clear hfz147_3)
                             obtain ⟨kq, x298_143, rfl, HA, HJ143, HO_435000, HO_463000, BK434, BK435, BK462, HB⟩ := hcut
                             cases kq with
                             | zero => exact absurd HA.out (by simp [laws_FnContracts.j9])
                             | succ kj143 =>
                              have H := HA.out
                              clear HA
                              simp only [laws_FnContracts.j9] at H
                              by_cases c151 : x298_143 = true
                              ·subst c151
                               have H1 : (none) = some r := z13_16
                               clear H
                               have H := H1
                               clear H1
                               exact absurd H z13_25
                              ·replace c151 := Bool.eq_false_iff.mpr c151
                               subst c151
                               have H1 : (laws_FnContracts.l1 kj143 (wrap64 ((wrap64 (t433 * t428)) - (wrap64 (100 * (wrap64 (t430 + t432)))))) 0 t425 t428 t429 t430 t431 t432 t433) = some r := z13_10
                               clear H
                               have H := H1
                               clear H1
                               have H' := z13_A H
                               clear H
                               have hnb152 := NB435_434.out
                               have hnc152 := NB434_435.out
                               have hnb153 := NB435_462.out
                               have hnc153 := NB462_435.out
                               have hcz154_0 : wc.cell? ⟨gb435, 0, none⟩ = some (.int .i64 t431) := (blk_cell BK435.out 0).trans rfl
                               have hcz154_1 : wc.cell? ⟨gb435, 1, none⟩ = some (.int .i64 t432) := (blk_cell BK435.out 1).trans rfl
                               have hcz154_2 : wc.cell? ⟨gb435, 2, none⟩ = some (.int .i64 t433) := (blk_cell BK435.out 2).trans rfl
                               have hfz154_0 := blk_frozen BK435.out 0
                               have hfz154_1 := blk_frozen BK435.out 1
                               have hfz154_2 := blk_frozen BK435.out 2
                               have hnb155 := NB434_462.out
                               have hnc155 := NB462_434.out
                               have hcz156_0 : wc.cell? ⟨gb434, 0, none⟩ = some (.slice Ao11 t425.length co11) := (blk_cell BK434.out 0).trans rfl
                               have hcz156_1 : wc.cell? ⟨gb434, 1, none⟩ = some (.int .i64 t428) := (blk_cell BK434.out 1).trans rfl
                               have hcz156_2 : wc.cell? ⟨gb434, 2, none⟩ = some (.int .i64 t429) := (blk_cell BK434.out 2).trans rfl
                               have hcz156_3 : wc.cell? ⟨gb434, 3, none⟩ = some (.int .i64 t430) := (blk_cell BK434.out 3).trans rfl
                               have hfz156_0 := blk_frozen BK434.out 0
                               have hfz156_1 := blk_frozen BK434.out 1
                               have hfz156_2 := blk_frozen BK434.out 2
                               have hfz156_3 := blk_frozen BK434.out 3
                               go_wp2
                               go_loopg [40] kj143 (fun kq v40 w' => ∃ (x40_11 : Int), v40 = .int .i64 x40_11 ∧ Aside0 (laws_FnContracts.l1 kq (wrap64 ((wrap64 (t433 * t428)) - (wrap64 (100 * (wrap64 (t430 + t432)))))) x40_11 t425 t428 t429 t430 t431 t432 t433 = some r) ∧ Aside0 (kq ≤ kj143) ∧ Aside0 (Kd.R (Kd.int .i64) 3 w' w.heap.size (fun k_ => some k_ ≠ ((.slice Ao75 t454.length co75) : Value).ownBlock) (.slice Ao11 t425.length co11) t425) ∧ Aside0 (Kd.R (Kd.int .i64) 3 w' w.heap.size (fun k_ => some k_ ≠ ((.slice Ao11 t425.length co11) : Value).ownBlock) (.slice Ao75 t454.length co75) t454) ∧ Aside0 (w'.heap[gb434]? = some (.cells #[(.slice Ao11 t425.length co11), .int .i64 t428, .int .i64 t429, .int .i64 t430] 30 (0, 0))) ∧ Aside0 (w'.heap[gb435]? = some (.cells #[.int .i64 t431, .int .i64 t432, .int .i64 t433] 32 (0, 0))) ∧ Aside0 (w'.heap[gb462]? = some (.cells #[(.slice Ao75 t454.length co75), .int .i64 t457, .int .i64 t458, .int .i64 t459] 30 (0, 0))) ∧ Aside0 (Below w.heap.size w w'))
                               case atStart => as_aux_lemma => exact ⟨(0), z13_13, H', ⟨Nat.le_refl _⟩, ⟨z13_5⟩, ⟨z13_8⟩, ⟨z13_2⟩, ⟨z13_3⟩, ⟨z13_7⟩, ⟨z13_1⟩⟩
                               case round => as_aux_lemma =>
                                clear H'
                                (try clear c151); (try clear c152); (try clear c153); (try clear c155); (try clear hcz154_0); (try clear hcz154_1); (try clear hcz154_2); (try clear hcz156_0); (try clear hcz156_1); (try clear hcz156_2); (try clear hcz156_3); (try clear hfz154_0); (try clear hfz154_1); (try clear hfz154_2); (try clear hfz156_0); (try clear hfz156_1); (try clear hfz156_2); (try clear hfz156_3)
                                obtain ⟨x40_11, rfl, HA, HK11, HO_435000, HO_463000, BK434, BK435, BK462, HB⟩ := hrel
                                cases gk with
                                | zero => exact absurd HA.out (by simp [laws_FnContracts.l1])
                                | succ k11 =>
                                 have H := HA.out
                                 clear HA
                                 simp only [laws_FnContracts.l1] at H
                                 by_cases c157 : x40_11 ≤ 8
                                 ·rw [if_pos c157] at H
                                  have c157b0 : decide (x40_11 ≤ 8) = true := decide_eq_true c157
                                  clear c157
                                  replace H := Option.bind_eq_some_iff.mp H
                                  obtain ⟨⟨t485, t486⟩, A1580, H⟩ := H
                                  (try dsimp only at H)
                                  have A158 := z13_A A1580
                                  clear A1580
                                  replace H := Option.bind_eq_some_iff.mp H
                                  obtain ⟨⟨t487, t488⟩, A1590, H⟩ := H
                                  (try dsimp only at H)
                                  have A159 := z13_A A1590
                                  clear A1590
                                  by_cases c160 : t486 = true
                                  ·subst c160
                                   have H1 : (if t488 = true then (if (wrap64 ((wrap64 (t485 * 100)) * (wrap64 (t428 - t430)))) = (wrap64 (t487 * (wrap64 ((wrap64 (t433 * t428)) - (wrap64 (100 * (wrap64 (t430 + t432)))))))) then (laws_FnContracts.l1 k11 (wrap64 ((wrap64 (t433 * t428)) - (wrap64 (100 * (wrap64 (t430 + t432)))))) (wrap64 (x40_11 + 1)) t425 t428 t429 t430 t431 t432 t433) else (none)) else (none)) = some r := z13_16
                                   clear H
                                   have H := H1
                                   clear H1
                                   by_cases c161 : t488 = true
                                   ·subst c161
                                    have H1 : (if (wrap64 ((wrap64 (t485 * 100)) * (wrap64 (t428 - t430)))) = (wrap64 (t487 * (wrap64 ((wrap64 (t433 * t428)) - (wrap64 (100 * (wrap64 (t430 + t432)))))))) then (laws_FnContracts.l1 k11 (wrap64 ((wrap64 (t433 * t428)) - (wrap64 (100 * (wrap64 (t430 + t432)))))) (wrap64 (x40_11 + 1)) t425 t428 t429 t430 t431 t432 t433) else (none)) = some r := z13_16
                                    clear H
                                    have H := H1
                                    clear H1
                                    by_cases c162 : (wrap64 ((wrap64 (t485 * 100)) * (wrap64 (t428 - t430)))) = (wrap64 (t487 * (wrap64 ((wrap64 (t433 * t428)) - (wrap64 (100 * (wrap64 (t430 + t432))))))))
                                    ·rw [if_pos c162] at H
                                     have c162b0 : ((wrap64 ((wrap64 (t485 * 100)) * (wrap64 (t428 - t430)))) == (wrap64 (t487 * (wrap64 ((wrap64 (t433 * t428)) - (wrap64 (100 * (wrap64 (t430 + t432))))))))) = true := beq_iff_eq.mpr c162
                                     have c162b1 : ((wrap64 ((wrap64 (t485 * 100)) * (wrap64 (t428 - t430)))) != (wrap64 (t487 * (wrap64 ((wrap64 (t433 * t428)) - (wrap64 (100 * (wrap64 (t430 + t432))))))))) = false := bne_eq_false_iff_eq.mpr c162
                                     clear c162
                                     have H' := z13_A H
                                     clear H
                                     have hnb163 := NB434_435.out
                                     have hnc163 := NB435_434.out
                                     have hnb164 := NB434_462.out
                                     have hnc164 := NB462_434.out
                                     have hcz165_0 : wr.cell? ⟨gb434, 0, none⟩ = some (.slice Ao11 t425.length co11) := (blk_cell BK434.out 0).trans rfl
                                     have hcz165_1 : wr.cell? ⟨gb434, 1, none⟩ = some (.int .i64 t428) := (blk_cell BK434.out 1).trans rfl
                                     have hcz165_2 : wr.cell? ⟨gb434, 2, none⟩ = some (.int .i64 t429) := (blk_cell BK434.out 2).trans rfl
                                     have hcz165_3 : wr.cell? ⟨gb434, 3, none⟩ = some (.int .i64 t430) := (blk_cell BK434.out 3).trans rfl
                                     have hfz165_0 := blk_frozen BK434.out 0
                                     have hfz165_1 := blk_frozen BK434.out 1
                                     have hfz165_2 := blk_frozen BK434.out 2
                                     have hfz165_3 := blk_frozen BK434.out 3
                                     have hnb166 := NB435_462.out
                                     have hnc166 := NB462_435.out
                                     have hcz167_0 : wr.cell? ⟨gb435, 0, none⟩ = some (.int .i64 t431) := (blk_cell BK435.out 0).trans rfl
                                     have hcz167_1 : wr.cell? ⟨gb435, 1, none⟩ = some (.int .i64 t432) := (blk_cell BK435.out 1).trans rfl
                                     have hcz167_2 : wr.cell? ⟨gb435, 2, none⟩ = some (.int .i64 t433) := (blk_cell BK435.out 2).trans rfl
                                     have hfz167_0 := blk_frozen BK435.out 0
                                     have hfz167_1 := blk_frozen BK435.out 1
                                     have hfz167_2 := blk_frozen BK435.out 2
                                     go_wp2_with (first | ((with_reducible refine gate_callee (f := 44) rfl ?_); refine goesL_ (some 319) rfl rfl Try.func44 z13_9 rfl #[.agg #[.slice Ao11 t425.length co11, .int .i64 t428, .int .i64 t429, .int .i64 t430], .agg #[.int .i64 t431, .int .i64 t432, .int .i64 t433], .int .i64 x40_11] rfl z13_6 ?_; (with_reducible refine (impl_SellerProfit.calls k11 _ _ t425 t428 t429 t430 t431 t432 t433 x40_11 t485 true _ ?side1 ?side2 A158.out).mono ?_); (case side1 => have zh := (Kd.R_reads' HO_435000.out).2.2; exact z13_C); (case side2 => exact (Kd.R_reads' HO_435000.out).2.1); rintro e w168 ⟨rfl, hb⟩; refine ⟨_, rfl, ?_⟩; have n0_ := z13_A (Kd.R_below z13_5 hb); have n1_ := z13_A (Kd.R_below z13_8 hb); have n2_ := z13_A (blk_below (g := gb434) (o := .cells #[.slice Ao11 t425.length co11, .int .i64 t428, .int .i64 t429, .int .i64 t430] 30 (0, 0)) z13_2 hb); have n3_ := z13_A (blk_below (g := gb435) (o := .cells #[.int .i64 t431, .int .i64 t432, .int .i64 t433] 32 (0, 0)) z13_3 hb); have n4_ := z13_A (blk_below (g := gb462) (o := .cells #[.slice Ao75 t454.length co75, .int .i64 t457, .int .i64 t458, .int .i64 t459] 30 (0, 0)) z13_7 hb); have n5_ := z13_A (below_step z13_1 hb); clear HO_435000 HO_463000 BK434 BK435 BK462 HB; revert n0_ n1_ n2_ n3_ n4_ n5_; intro HO_435000 HO_463000 BK434 BK435 BK462 HB; (try clear hb); (try clear hb2); (try clear hk); (try clear hi); have hcz169_0 : w168.cell? ⟨gb434, 0, none⟩ = some (.slice Ao11 t425.length co11) := (blk_cell BK434.out 0).trans rfl; have hcz169_1 : w168.cell? ⟨gb434, 1, none⟩ = some (.int .i64 t428) := (blk_cell BK434.out 1).trans rfl; have hcz169_2 : w168.cell? ⟨gb434, 2, none⟩ = some (.int .i64 t429) := (blk_cell BK434.out 2).trans rfl; have hcz169_3 : w168.cell? ⟨gb434, 3, none⟩ = some (.int .i64 t430) := (blk_cell BK434.out 3).trans rfl; have hfz169_0 := blk_frozen BK434.out 0; have hfz169_1 := blk_frozen BK434.out 1; have hfz169_2 := blk_frozen BK434.out 2; have hfz169_3 := blk_frozen BK434.out 3) | ((with_reducible refine gate_callee (f := 45) rfl ?_); refine goesL_ (some 325) rfl rfl Try.func45 z13_9 rfl #[.agg #[.slice Ao11 t425.length co11, .int .i64 t428, .int .i64 t429, .int .i64 t430], .int .i64 x40_11] rfl z13_6 ?_; (with_reducible refine (impl_JointProfit.calls k11 _ _ t425 t428 t429 t430 x40_11 t487 true _ ?side1 ?side2 A159.out).mono ?_); (case side1 => have zh := (Kd.R_reads' HO_435000.out).2.2; exact z13_C); (case side2 => exact (Kd.R_reads' HO_435000.out).2.1); rintro e w170 ⟨rfl, hb⟩; refine ⟨_, rfl, ?_⟩; have n0_ := z13_A (Kd.R_below z13_5 hb); have n1_ := z13_A (Kd.R_below z13_8 hb); have n2_ := z13_A (blk_below (g := gb434) (o := .cells #[.slice Ao11 t425.length co11, .int .i64 t428, .int .i64 t429, .int .i64 t430] 30 (0, 0)) z13_2 hb); have n3_ := z13_A (blk_below (g := gb435) (o := .cells #[.int .i64 t431, .int .i64 t432, .int .i64 t433] 32 (0, 0)) z13_3 hb); have n4_ := z13_A (blk_below (g := gb462) (o := .cells #[.slice Ao75 t454.length co75, .int .i64 t457, .int .i64 t458, .int .i64 t459] 30 (0, 0)) z13_7 hb); have n5_ := z13_A (below_step z13_1 hb); clear HO_435000 HO_463000 BK434 BK435 BK462 HB; revert n0_ n1_ n2_ n3_ n4_ n5_; intro HO_435000 HO_463000 BK434 BK435 BK462 HB; (try clear hb); (try clear hb2); (try clear hk); (try clear hi); have hcz171_0 : w170.cell? ⟨gb434, 0, none⟩ = some (.slice Ao11 t425.length co11) := (blk_cell BK434.out 0).trans rfl; have hcz171_1 : w170.cell? ⟨gb434, 1, none⟩ = some (.int .i64 t428) := (blk_cell BK434.out 1).trans rfl; have hcz171_2 : w170.cell? ⟨gb434, 2, none⟩ = some (.int .i64 t429) := (blk_cell BK434.out 2).trans rfl; have hcz171_3 : w170.cell? ⟨gb434, 3, none⟩ = some (.int .i64 t430) := (blk_cell BK434.out 3).trans rfl; have hfz171_0 := blk_frozen BK434.out 0; have hfz171_1 := blk_frozen BK434.out 1; have hfz171_2 := blk_frozen BK434.out 2; have hfz171_3 := blk_frozen BK434.out 3))
                                     go_roundg k11
                                     case measure => have := HJ6.out; have := HJ28.out; have := HJ41.out; have := HJ55.out; have := HJ71.out; have := HJ83.out; have := HJ94.out; have := HK8.out; have := HJ135.out; have := HJ143.out; have := HK11.out; omega
                                     case rel => exact ⟨(wrap64 (x40_11 + 1)), z13_13, H', ⟨by have := HJ6.out; have := HJ28.out; have := HJ41.out; have := HJ55.out; have := HJ71.out; have := HJ83.out; have := HJ94.out; have := HK8.out; have := HJ135.out; have := HJ143.out; have := HK11.out; omega⟩, ⟨z13_5⟩, ⟨z13_8⟩, ⟨z13_2⟩, ⟨z13_3⟩, ⟨z13_7⟩, ⟨z13_1⟩⟩
                                    ·rw [if_neg c162] at H
                                     exact absurd H z13_25
                                   ·replace c161 := Bool.eq_false_iff.mpr c161
                                    subst c161
                                    have H1 : (none) = some r := z13_10
                                    clear H
                                    have H := H1
                                    clear H1
                                    exact absurd H z13_25
                                  ·replace c160 := Bool.eq_false_iff.mpr c160
                                   subst c160
                                   have H1 : (none) = some r := z13_10
                                   clear H
                                   have H := H1
                                   clear H1
                                   exact absurd H z13_25
                                 ·rw [if_neg c157] at H
                                  have c157b0 : decide (x40_11 ≤ 8) = false := decide_eq_false c157
                                  clear c157
                                  obtain rfl := Option.some.inj H
                                  go_wp2
                                  go_ret
                                  exact ⟨z13_23, z13_1⟩

/-- THE ONE PURE STATEMENT of laws_FnContracts: yours. -/
def laws_FnContracts.Pure : Prop := ∀ (l0 : List Int), l0.length ≤ maxLen → l0.length * 1 ≤ 140737488351232 → (∀ x ∈ l0, (Lit.int .u8 x).wf = true) → ∃ k, laws_FnContracts.f k l0 = some true
theorem laws_FnContracts.walk (P : laws_FnContracts.Pure) (a0 : Option Addr) (len0 cap0 : Nat) (z0 : List Int) (w : World) (w0 : (a0 = none ∧ len0 = 0 ∧ cap0 = 0 ∧ z0 = []) ∨ ∃ x, a0 = some x ∧ len0 ≤ cap0 ∧ cap0 ≤ maxLen ∧ z0.length = cap0 ∧ (∀ i, i < z0.length → w.cell? (x.add i) = some (.int .u8 (z0.getD i 0))) ∧ ∀ n ∈ z0, (Lit.int .u8 n).wf = true) (y0 : len0 * 1 ≤ 140737488351232) :
  Calls Try.prog 8 #[.slice a0 len0 cap0] w fun e w' => e = .returned (.bool true) ∧ Below w.heap.size w w' := by
 obtain ⟨l0, rfl, hr0, hm0, hw0, hc0⟩ := ReadsInt.ofRowC w0
 obtain ⟨k, h⟩ := P l0 hm0 y0 hw0
 refine (laws_FnContracts.calls k _ _ l0 true w (Kd.C_of_reads (d := (0 : Int)) (h1 := fun _ => rfl) hr0) hc0 h).mono ?_
 rintro e w' ⟨rfl, hd⟩
 exact ⟨rfl, hd⟩


end Go.Proofs.Ytiniocecpgjikaa.PFnContracts
