-- A text of this session (its program hook.py, over the kit's print.py): not a print of print.sh
-- THIN: one blank for two
import Derived.Test.YtiniocecpgjikaaPFnProfitsx16
import Derived.Test.YtiniocecpgjikaaPFnProfitsx0
import Derived.Test.YtiniocecpgjikaaPFnProfitsx4
import Derived.Test.YtiniocecpgjikaaPFnProfitsx5
import Derived.Test.YtiniocecpgjikaaPFnProfitsx7
import Derived.Test.YtiniocecpgjikaaPFnProfitsx11
import Derived.Test.YtiniocecpgjikaaPFnProfitsx12
import Derived.Test.YtiniocecpgjikaaPFnProfitsx13
import Derived.Test.YtiniocecpgjikaaPFnProfitsx14
import Derived.Test.YtiniocecpgjikaaPFnProfitsx15
namespace Go.Proofs.Ytiniocecpgjikaa.PFnProfits
open Go.RowKit Go.Proofs.YtiniocecpgjikaaW.PrintWords Go.Proofs.YtiniocecpgjikaaW.PrintLast Go.Proofs.YtiniocecpgjikaaW.PrintMore
attribute [local go_sem] max2_int min2_int max_two min_two max_three min_three max_four min_four   -- for this text's walks alone
set_option linter.unusedVariables false
set_option linter.unusedSimpArgs false

private theorem bcz {w : World} {g : Nat} {t : TypeId} {cs : Array Value} (h : w.heap[g]? = some (.cells cs t (0, 0))) (i : Nat) {v : Value} (e : cs[i]? = some v) : w.cell? ⟨g, i, none⟩ = some v := (blk_cell h i).trans e
private theorem F3z {P : Nat → Prop} (h : ∀ i, P i) : P 0 ∧ P 1 ∧ P 2 := ⟨h 0, h 1, h 2⟩
private theorem F4z {P : Nat → Prop} (h : ∀ i, P i) : P 0 ∧ P 1 ∧ P 2 ∧ P 3 := ⟨h 0, h 1, h 2, h 3⟩
set_option maxHeartbeats 8000000 in
set_option maxRecDepth 100000 in
theorem laws_FnProfits.calls (k : Nat) (A0 : Option Addr) (c0 : Nat) (l0 : List Int) (r : Bool) (w : World) (hr0 : Kd.C (Kd.int .u8) w A0 l0.length l0) (hc0 : l0.length ≤ c0) (h : laws_FnProfits.f k l0 = some r) :
  Calls Try.prog 9 #[.slice A0 l0.length c0] w fun e w' => e = .returned (.bool r) ∧ Below w.heap.size w w' := by
 have hu30 := Try.underlying30
 have hu32 := Try.underlying32
 have hu67 := Try.underlying67
 have HR0 := z16_A hr0
 have HC0 := z16_A hc0
 clear hr0 hc0
 have HB := z16_A (Below.refl w.heap.size w)
 have H : ((laws_rBig.f l0).bind fun t449 => (if t449 = true then (some true) else ((spec_DrawSellerProfit.f k l0).bind fun bt450 => ((impl_SellerProfit.f k bt450.1 bt450.2.1 bt450.2.2.1 bt450.2.2.2.1 bt450.2.2.2.2.1 bt450.2.2.2.2.2.1 bt450.2.2.2.2.2.2.1 bt450.2.2.2.2.2.2.2).bind fun bt462 => ((spec_SellerProfit.f k bt450.1 bt450.2.1 bt450.2.2.1 bt450.2.2.2.1 bt450.2.2.2.2.1 bt450.2.2.2.2.2.1 bt450.2.2.2.2.2.2.1 bt450.2.2.2.2.2.2.2).bind fun bt464 => (if bt462.1 = bt464.1 then (laws_FnProfits.j0 k bt450.2.2.2.2.2.2.2 bt462.1 bt462.2 (bt462.2 != bt464.2) bt450.1 bt450.2.1 bt450.2.2.1 bt450.2.2.2.1 bt450.2.2.2.2.1 bt450.2.2.2.2.2.1 bt450.2.2.2.2.2.2.1) else (none))))))) = some r := h
 clear h
 replace H := Option.bind_eq_some_iff.mp H
 obtain ⟨t449, A20, H⟩ := H
 (try dsimp only at H)
 have A2 := z16_A A20
 clear A20
 by_cases c3 : t449 = true
 ·subst c3
  have H1 : (some true) = some r := z16_18
  clear H
  have H := H1
  clear H1
  obtain rfl := Option.some.inj H
  go_enter Try.func9, Try.ntmps9
  go_wp2_with (first | (go_at_call 31; (with_reducible refine (laws_rBig.calls _ _ l0 true _ ?side1 ?side2 A2.out).mono ?_); (case side1 => have zh := HR0.out; exact z16_C); (case side2 => exact HC0.out); rintro e w' ⟨rfl, ⟨nd, rfl⟩⟩; (try first | exact ⟨rfl, _, World.drewN_drewN _ _ _⟩ | exact ⟨rfl, _, Eq.trans (World.drewN_drewN _ _ _) (congrArg (World.drewN _) (Nat.add_assoc _ _ _))⟩)))
  repeat (go_quiet (first | (go_at_call 31; (with_reducible refine (laws_rBig.calls _ _ l0 true _ ?side1 ?side2 A2.out).mono ?_); (case side1 => have zh := HR0.out; exact z16_C); (case side2 => exact HC0.out); rintro e w' ⟨rfl, ⟨nd, rfl⟩⟩; (try first | exact ⟨rfl, _, World.drewN_drewN _ _ _⟩ | exact ⟨rfl, _, Eq.trans (World.drewN_drewN _ _ _) (congrArg (World.drewN _) (Nat.add_assoc _ _ _))⟩))); try go_wp2_with (first | (go_at_call 31; (with_reducible refine (laws_rBig.calls _ _ l0 true _ ?side1 ?side2 A2.out).mono ?_); (case side1 => have zh := HR0.out; exact z16_C); (case side2 => exact HC0.out); rintro e w' ⟨rfl, ⟨nd, rfl⟩⟩; (try first | exact ⟨rfl, _, World.drewN_drewN _ _ _⟩ | exact ⟨rfl, _, Eq.trans (World.drewN_drewN _ _ _) (congrArg (World.drewN _) (Nat.add_assoc _ _ _))⟩))))
  go_ret
  exact ⟨z16_27, z16_9⟩
 ·replace c3 := Bool.eq_false_iff.mpr c3
  subst c3
  have H1 : ((spec_DrawSellerProfit.f k l0).bind fun bt450 => ((impl_SellerProfit.f k bt450.1 bt450.2.1 bt450.2.2.1 bt450.2.2.2.1 bt450.2.2.2.2.1 bt450.2.2.2.2.2.1 bt450.2.2.2.2.2.2.1 bt450.2.2.2.2.2.2.2).bind fun bt462 => ((spec_SellerProfit.f k bt450.1 bt450.2.1 bt450.2.2.1 bt450.2.2.2.1 bt450.2.2.2.2.1 bt450.2.2.2.2.2.1 bt450.2.2.2.2.2.2.1 bt450.2.2.2.2.2.2.2).bind fun bt464 => (if bt462.1 = bt464.1 then (laws_FnProfits.j0 k bt450.2.2.2.2.2.2.2 bt462.1 bt462.2 (bt462.2 != bt464.2) bt450.1 bt450.2.1 bt450.2.2.1 bt450.2.2.2.1 bt450.2.2.2.2.1 bt450.2.2.2.2.2.1 bt450.2.2.2.2.2.2.1) else (none))))) = some r := z16_14
  clear H
  have H := H1
  clear H1
  replace H := Option.bind_eq_some_iff.mp H
  obtain ⟨⟨t450, t453, t454, t455, t456, t457, t458, t459⟩, A40, H⟩ := H
  (try dsimp only at H)
  have A4 := z16_A A40
  clear A40
  replace H := Option.bind_eq_some_iff.mp H
  obtain ⟨⟨t462, t463⟩, A50, H⟩ := H
  (try dsimp only at H)
  have A5 := z16_A A50
  clear A50
  replace H := Option.bind_eq_some_iff.mp H
  obtain ⟨⟨t464, t465⟩, A60, H⟩ := H
  (try dsimp only at H)
  have A6 := z16_A A60
  clear A60
  have HC7 := z16_A H
  clear H
  go_enter Try.func9, Try.ntmps9
  go_upto_region 6 with (first | (go_at_call 31; (with_reducible refine (laws_rBig.calls _ _ l0 false _ ?side1 ?side2 A2.out).mono ?_); (case side1 => have zh := HR0.out; exact z16_C); (case side2 => exact HC0.out); rintro e w' ⟨rfl, ⟨nd, rfl⟩⟩; (try first | exact ⟨rfl, _, World.drewN_drewN _ _ _⟩ | exact ⟨rfl, _, Eq.trans (World.drewN_drewN _ _ _) (congrArg (World.drewN _) (Nat.add_assoc _ _ _))⟩)) | (go_at_call 46; (with_reducible refine (spec_DrawSellerProfit.calls k _ _ l0 t450 t453 t454 t455 t456 t457 t458 t459 _ ?side1 ?side2 A4.out).mono ?_); (case side1 => have zh := HR0.out; exact z16_C); (case side2 => exact HC0.out); rintro e w8 ⟨v451, rfl, ho0, hb⟩; have n0_ := z16_A (Kd.R_lower ho0 (below_size z16_9)); have n1_ := z16_A (below_step z16_9 hb); clear HB; revert n0_ n1_; intro HO452 HB; (try clear hb); (try clear hb2); (try clear hk); (try clear hi); (try clear ho0)) | ((with_reducible refine gate_dst (N := 3) rfl ?_); refine box_event ?hg (N := 3) ?hd (cs := #[.slice none 0 0, .int .i64 0, .int .i64 0, .int .i64 0]) (t := 30) ?hr ?_; (case hd => rfl); (case hg => rfl); (case hr => first | (go_simp; done) | (go_simp; rfl)); intro gb460 hg w9 hbox hb; have n0_ := z16_A (Kd.R_below z16_13 hb); have n1_ := z16_A (below_step z16_9 hb); have n2_ := z16_A (hbox); have n3_ := z16_A ((z16_29 : w.heap.size ≤ gb460)); have n4_ := z16_A ((z16_29 : w.heap.size ≤ gb460)); clear HO452 HB; revert n0_ n1_ n2_ n3_ n4_; intro HO452 HB BK460 GW460 GE460; clear hb hbox hg) | ((with_reducible refine gate_dst (N := 4) rfl ?_); refine box_event ?hg (N := 4) ?hd (cs := #[.int .i64 0, .int .i64 0, .int .i64 0]) (t := 32) ?hr ?_; (case hd => rfl); (case hg => rfl); (case hr => first | (go_simp; done) | (go_simp; rfl)); intro gb461 hg w10 hbox hb; have n0_ := z16_A (Kd.R_below z16_13 hb); have n1_ := z16_A (blk_below (g := gb460) (o := .cells #[.slice none 0 0, .int .i64 0, .int .i64 0, .int .i64 0] 30 (0, 0)) z16_2 hb); have n2_ := z16_A (below_step z16_12 hb); have n3_ := z16_A (hbox); have n4_ := z16_A ((z16_28 : w.heap.size ≤ gb461)); have n5_ := z16_A ((z16_28 : w.heap.size ≤ gb461)); have n6_ := z16_A ((z16_19 : gb460 ≠ gb461)); have n7_ := z16_A ((z16_20 : gb461 ≠ gb460)); clear HO452 BK460 HB; revert n0_ n1_ n2_ n3_ n4_ n5_ n6_ n7_; intro HO452 BK460 HB BK461 GW461 GE461 NB460_461 NB461_460; clear hb hbox hg; obtain ⟨Ao11, co11, eo11⟩ := Kd.R_slice HO452.out; subst eo11; have hnb12 := NB460_461.out; have hnc12 := NB461_460.out; have hcz13_0 : w10.cell? ⟨gb460, 0, none⟩ = some (.slice none 0 0) := bcz BK460.out 0 rfl; have hcz13_1 : w10.cell? ⟨gb460, 1, none⟩ = some (.int .i64 0) := bcz BK460.out 1 rfl; have hcz13_2 : w10.cell? ⟨gb460, 2, none⟩ = some (.int .i64 0) := bcz BK460.out 2 rfl; have hcz13_3 : w10.cell? ⟨gb460, 3, none⟩ = some (.int .i64 0) := bcz BK460.out 3 rfl; obtain ⟨hfz13_0, hfz13_1, hfz13_2, hfz13_3⟩ := F4z (blk_frozen BK460.out); have hcz14_0 : w10.cell? ⟨gb461, 0, none⟩ = some (.int .i64 0) := bcz BK461.out 0 rfl; have hcz14_1 : w10.cell? ⟨gb461, 1, none⟩ = some (.int .i64 0) := bcz BK461.out 1 rfl; have hcz14_2 : w10.cell? ⟨gb461, 2, none⟩ = some (.int .i64 0) := bcz BK461.out 2 rfl; obtain ⟨hfz14_0, hfz14_1, hfz14_2⟩ := F3z (blk_frozen BK461.out)) | (go_at_call 44; (with_reducible refine (impl_SellerProfit.calls k _ _ t450 t453 t454 t455 t456 t457 t458 t459 t462 t463 _ ?side1 ?side2 A5.out).mono ?_); (case side1 => refine (Kd.R_reads' (e := 3) (base := w.heap.size) (ok := fun k_ => True) (n := t450.length) (c := co11) ?_).2.2; exact z16_5); (case side2 => exact (Kd.R_reads' HO452.out).2.1); rintro e w15 ⟨rfl, hb⟩; have n0_ := z16_A (Kd.R_below z16_5 hb); have n1_ := z16_A (blk_below (g := gb460) (o := .cells #[.slice Ao11 t450.length co11, .int .i64 t453, .int .i64 t454, .int .i64 t455] 30 (0, 0)) z16_7 hb); have n2_ := z16_A (blk_below (g := gb461) (o := .cells #[.int .i64 t456, .int .i64 t457, .int .i64 t458] 32 (0, 0)) z16_8 hb); have n3_ := z16_A (below_step z16_1 hb); clear HO452 BK460 BK461 HB; revert n0_ n1_ n2_ n3_; intro HO452 BK460 BK461 HB; (try clear hb); (try clear hb2); (try clear hk); (try clear hi); have hcz16_0 : w15.cell? ⟨gb460, 0, none⟩ = some (.slice Ao11 t450.length co11) := bcz BK460.out 0 rfl; have hcz16_1 : w15.cell? ⟨gb460, 1, none⟩ = some (.int .i64 t453) := bcz BK460.out 1 rfl; have hcz16_2 : w15.cell? ⟨gb460, 2, none⟩ = some (.int .i64 t454) := bcz BK460.out 2 rfl; have hcz16_3 : w15.cell? ⟨gb460, 3, none⟩ = some (.int .i64 t455) := bcz BK460.out 3 rfl; obtain ⟨hfz16_0, hfz16_1, hfz16_2, hfz16_3⟩ := F4z (blk_frozen BK460.out); have hcz17_0 : w15.cell? ⟨gb461, 0, none⟩ = some (.int .i64 t456) := bcz BK461.out 0 rfl; have hcz17_1 : w15.cell? ⟨gb461, 1, none⟩ = some (.int .i64 t457) := bcz BK461.out 1 rfl; have hcz17_2 : w15.cell? ⟨gb461, 2, none⟩ = some (.int .i64 t458) := bcz BK461.out 2 rfl; obtain ⟨hfz17_0, hfz17_1, hfz17_2⟩ := F3z (blk_frozen BK461.out)) | (go_at_call 47; (with_reducible refine (spec_SellerProfit.calls k _ _ t450 t453 t454 t455 t456 t457 t458 t459 t464 t465 _ ?side1 ?side2 A6.out).mono ?_); (case side1 => have zh := (Kd.R_reads' HO452.out).2.2; exact z16_C); (case side2 => exact (Kd.R_reads' HO452.out).2.1); rintro e w18 ⟨rfl, hb⟩; have n0_ := z16_A (Kd.R_below z16_13 hb); have n1_ := z16_A (blk_below (g := gb460) (o := .cells #[.slice Ao11 t450.length co11, .int .i64 t453, .int .i64 t454, .int .i64 t455] 30 (0, 0)) z16_2 hb); have n2_ := z16_A (blk_below (g := gb461) (o := .cells #[.int .i64 t456, .int .i64 t457, .int .i64 t458] 32 (0, 0)) z16_3 hb); have n3_ := z16_A (below_step z16_1 hb); clear HO452 BK460 BK461 HB; revert n0_ n1_ n2_ n3_; intro HO452 BK460 BK461 HB; (try clear hb); (try clear hb2); (try clear hk); (try clear hi)))
  repeat (go_quiet (first | (go_at_call 31; (with_reducible refine (laws_rBig.calls _ _ l0 false _ ?side1 ?side2 A2.out).mono ?_); (case side1 => have zh := HR0.out; exact z16_C); (case side2 => exact HC0.out); rintro e w' ⟨rfl, ⟨nd, rfl⟩⟩; (try first | exact ⟨rfl, _, World.drewN_drewN _ _ _⟩ | exact ⟨rfl, _, Eq.trans (World.drewN_drewN _ _ _) (congrArg (World.drewN _) (Nat.add_assoc _ _ _))⟩)) | (go_at_call 46; (with_reducible refine (spec_DrawSellerProfit.calls k _ _ l0 t450 t453 t454 t455 t456 t457 t458 t459 _ ?side1 ?side2 A4.out).mono ?_); (case side1 => have zh := HR0.out; exact z16_C); (case side2 => exact HC0.out); rintro e w8 ⟨v451, rfl, ho0, hb⟩; have n0_ := z16_A (Kd.R_lower ho0 (below_size z16_9)); have n1_ := z16_A (below_step z16_9 hb); clear HB; revert n0_ n1_; intro HO452 HB; (try clear hb); (try clear hb2); (try clear hk); (try clear hi); (try clear ho0)) | ((with_reducible refine gate_dst (N := 3) rfl ?_); refine box_event ?hg (N := 3) ?hd (cs := #[.slice none 0 0, .int .i64 0, .int .i64 0, .int .i64 0]) (t := 30) ?hr ?_; (case hd => rfl); (case hg => rfl); (case hr => first | (go_simp; done) | (go_simp; rfl)); intro gb460 hg w9 hbox hb; have n0_ := z16_A (Kd.R_below z16_13 hb); have n1_ := z16_A (below_step z16_9 hb); have n2_ := z16_A (hbox); have n3_ := z16_A ((z16_29 : w.heap.size ≤ gb460)); have n4_ := z16_A ((z16_29 : w.heap.size ≤ gb460)); clear HO452 HB; revert n0_ n1_ n2_ n3_ n4_; intro HO452 HB BK460 GW460 GE460; clear hb hbox hg) | ((with_reducible refine gate_dst (N := 4) rfl ?_); refine box_event ?hg (N := 4) ?hd (cs := #[.int .i64 0, .int .i64 0, .int .i64 0]) (t := 32) ?hr ?_; (case hd => rfl); (case hg => rfl); (case hr => first | (go_simp; done) | (go_simp; rfl)); intro gb461 hg w10 hbox hb; have n0_ := z16_A (Kd.R_below z16_13 hb); have n1_ := z16_A (blk_below (g := gb460) (o := .cells #[.slice none 0 0, .int .i64 0, .int .i64 0, .int .i64 0] 30 (0, 0)) z16_2 hb); have n2_ := z16_A (below_step z16_12 hb); have n3_ := z16_A (hbox); have n4_ := z16_A ((z16_28 : w.heap.size ≤ gb461)); have n5_ := z16_A ((z16_28 : w.heap.size ≤ gb461)); have n6_ := z16_A ((z16_19 : gb460 ≠ gb461)); have n7_ := z16_A ((z16_20 : gb461 ≠ gb460)); clear HO452 BK460 HB; revert n0_ n1_ n2_ n3_ n4_ n5_ n6_ n7_; intro HO452 BK460 HB BK461 GW461 GE461 NB460_461 NB461_460; clear hb hbox hg; obtain ⟨Ao11, co11, eo11⟩ := Kd.R_slice HO452.out; subst eo11; have hnb12 := NB460_461.out; have hnc12 := NB461_460.out; have hcz13_0 : w10.cell? ⟨gb460, 0, none⟩ = some (.slice none 0 0) := bcz BK460.out 0 rfl; have hcz13_1 : w10.cell? ⟨gb460, 1, none⟩ = some (.int .i64 0) := bcz BK460.out 1 rfl; have hcz13_2 : w10.cell? ⟨gb460, 2, none⟩ = some (.int .i64 0) := bcz BK460.out 2 rfl; have hcz13_3 : w10.cell? ⟨gb460, 3, none⟩ = some (.int .i64 0) := bcz BK460.out 3 rfl; obtain ⟨hfz13_0, hfz13_1, hfz13_2, hfz13_3⟩ := F4z (blk_frozen BK460.out); have hcz14_0 : w10.cell? ⟨gb461, 0, none⟩ = some (.int .i64 0) := bcz BK461.out 0 rfl; have hcz14_1 : w10.cell? ⟨gb461, 1, none⟩ = some (.int .i64 0) := bcz BK461.out 1 rfl; have hcz14_2 : w10.cell? ⟨gb461, 2, none⟩ = some (.int .i64 0) := bcz BK461.out 2 rfl; obtain ⟨hfz14_0, hfz14_1, hfz14_2⟩ := F3z (blk_frozen BK461.out)) | (go_at_call 44; (with_reducible refine (impl_SellerProfit.calls k _ _ t450 t453 t454 t455 t456 t457 t458 t459 t462 t463 _ ?side1 ?side2 A5.out).mono ?_); (case side1 => refine (Kd.R_reads' (e := 3) (base := w.heap.size) (ok := fun k_ => True) (n := t450.length) (c := co11) ?_).2.2; exact z16_5); (case side2 => exact (Kd.R_reads' HO452.out).2.1); rintro e w15 ⟨rfl, hb⟩; have n0_ := z16_A (Kd.R_below z16_5 hb); have n1_ := z16_A (blk_below (g := gb460) (o := .cells #[.slice Ao11 t450.length co11, .int .i64 t453, .int .i64 t454, .int .i64 t455] 30 (0, 0)) z16_7 hb); have n2_ := z16_A (blk_below (g := gb461) (o := .cells #[.int .i64 t456, .int .i64 t457, .int .i64 t458] 32 (0, 0)) z16_8 hb); have n3_ := z16_A (below_step z16_1 hb); clear HO452 BK460 BK461 HB; revert n0_ n1_ n2_ n3_; intro HO452 BK460 BK461 HB; (try clear hb); (try clear hb2); (try clear hk); (try clear hi); have hcz16_0 : w15.cell? ⟨gb460, 0, none⟩ = some (.slice Ao11 t450.length co11) := bcz BK460.out 0 rfl; have hcz16_1 : w15.cell? ⟨gb460, 1, none⟩ = some (.int .i64 t453) := bcz BK460.out 1 rfl; have hcz16_2 : w15.cell? ⟨gb460, 2, none⟩ = some (.int .i64 t454) := bcz BK460.out 2 rfl; have hcz16_3 : w15.cell? ⟨gb460, 3, none⟩ = some (.int .i64 t455) := bcz BK460.out 3 rfl; obtain ⟨hfz16_0, hfz16_1, hfz16_2, hfz16_3⟩ := F4z (blk_frozen BK460.out); have hcz17_0 : w15.cell? ⟨gb461, 0, none⟩ = some (.int .i64 t456) := bcz BK461.out 0 rfl; have hcz17_1 : w15.cell? ⟨gb461, 1, none⟩ = some (.int .i64 t457) := bcz BK461.out 1 rfl; have hcz17_2 : w15.cell? ⟨gb461, 2, none⟩ = some (.int .i64 t458) := bcz BK461.out 2 rfl; obtain ⟨hfz17_0, hfz17_1, hfz17_2⟩ := F3z (blk_frozen BK461.out)) | (go_at_call 47; (with_reducible refine (spec_SellerProfit.calls k _ _ t450 t453 t454 t455 t456 t457 t458 t459 t464 t465 _ ?side1 ?side2 A6.out).mono ?_); (case side1 => have zh := (Kd.R_reads' HO452.out).2.2; exact z16_C); (case side2 => exact (Kd.R_reads' HO452.out).2.1); rintro e w18 ⟨rfl, hb⟩; have n0_ := z16_A (Kd.R_below z16_13 hb); have n1_ := z16_A (blk_below (g := gb460) (o := .cells #[.slice Ao11 t450.length co11, .int .i64 t453, .int .i64 t454, .int .i64 t455] 30 (0, 0)) z16_2 hb); have n2_ := z16_A (blk_below (g := gb461) (o := .cells #[.int .i64 t456, .int .i64 t457, .int .i64 t458] 32 (0, 0)) z16_3 hb); have n3_ := z16_A (below_step z16_1 hb); clear HO452 BK460 BK461 HB; revert n0_ n1_ n2_ n3_; intro HO452 BK460 BK461 HB; (try clear hb); (try clear hb2); (try clear hk); (try clear hi))); go_upto_region 6 with (first | (go_at_call 31; (with_reducible refine (laws_rBig.calls _ _ l0 false _ ?side1 ?side2 A2.out).mono ?_); (case side1 => have zh := HR0.out; exact z16_C); (case side2 => exact HC0.out); rintro e w' ⟨rfl, ⟨nd, rfl⟩⟩; (try first | exact ⟨rfl, _, World.drewN_drewN _ _ _⟩ | exact ⟨rfl, _, Eq.trans (World.drewN_drewN _ _ _) (congrArg (World.drewN _) (Nat.add_assoc _ _ _))⟩)) | (go_at_call 46; (with_reducible refine (spec_DrawSellerProfit.calls k _ _ l0 t450 t453 t454 t455 t456 t457 t458 t459 _ ?side1 ?side2 A4.out).mono ?_); (case side1 => have zh := HR0.out; exact z16_C); (case side2 => exact HC0.out); rintro e w8 ⟨v451, rfl, ho0, hb⟩; have n0_ := z16_A (Kd.R_lower ho0 (below_size z16_9)); have n1_ := z16_A (below_step z16_9 hb); clear HB; revert n0_ n1_; intro HO452 HB; (try clear hb); (try clear hb2); (try clear hk); (try clear hi); (try clear ho0)) | ((with_reducible refine gate_dst (N := 3) rfl ?_); refine box_event ?hg (N := 3) ?hd (cs := #[.slice none 0 0, .int .i64 0, .int .i64 0, .int .i64 0]) (t := 30) ?hr ?_; (case hd => rfl); (case hg => rfl); (case hr => first | (go_simp; done) | (go_simp; rfl)); intro gb460 hg w9 hbox hb; have n0_ := z16_A (Kd.R_below z16_13 hb); have n1_ := z16_A (below_step z16_9 hb); have n2_ := z16_A (hbox); have n3_ := z16_A ((z16_29 : w.heap.size ≤ gb460)); have n4_ := z16_A ((z16_29 : w.heap.size ≤ gb460)); clear HO452 HB; revert n0_ n1_ n2_ n3_ n4_; intro HO452 HB BK460 GW460 GE460; clear hb hbox hg) | ((with_reducible refine gate_dst (N := 4) rfl ?_); refine box_event ?hg (N := 4) ?hd (cs := #[.int .i64 0, .int .i64 0, .int .i64 0]) (t := 32) ?hr ?_; (case hd => rfl); (case hg => rfl); (case hr => first | (go_simp; done) | (go_simp; rfl)); intro gb461 hg w10 hbox hb; have n0_ := z16_A (Kd.R_below z16_13 hb); have n1_ := z16_A (blk_below (g := gb460) (o := .cells #[.slice none 0 0, .int .i64 0, .int .i64 0, .int .i64 0] 30 (0, 0)) z16_2 hb); have n2_ := z16_A (below_step z16_12 hb); have n3_ := z16_A (hbox); have n4_ := z16_A ((z16_28 : w.heap.size ≤ gb461)); have n5_ := z16_A ((z16_28 : w.heap.size ≤ gb461)); have n6_ := z16_A ((z16_19 : gb460 ≠ gb461)); have n7_ := z16_A ((z16_20 : gb461 ≠ gb460)); clear HO452 BK460 HB; revert n0_ n1_ n2_ n3_ n4_ n5_ n6_ n7_; intro HO452 BK460 HB BK461 GW461 GE461 NB460_461 NB461_460; clear hb hbox hg; obtain ⟨Ao11, co11, eo11⟩ := Kd.R_slice HO452.out; subst eo11; have hnb12 := NB460_461.out; have hnc12 := NB461_460.out; have hcz13_0 : w10.cell? ⟨gb460, 0, none⟩ = some (.slice none 0 0) := bcz BK460.out 0 rfl; have hcz13_1 : w10.cell? ⟨gb460, 1, none⟩ = some (.int .i64 0) := bcz BK460.out 1 rfl; have hcz13_2 : w10.cell? ⟨gb460, 2, none⟩ = some (.int .i64 0) := bcz BK460.out 2 rfl; have hcz13_3 : w10.cell? ⟨gb460, 3, none⟩ = some (.int .i64 0) := bcz BK460.out 3 rfl; obtain ⟨hfz13_0, hfz13_1, hfz13_2, hfz13_3⟩ := F4z (blk_frozen BK460.out); have hcz14_0 : w10.cell? ⟨gb461, 0, none⟩ = some (.int .i64 0) := bcz BK461.out 0 rfl; have hcz14_1 : w10.cell? ⟨gb461, 1, none⟩ = some (.int .i64 0) := bcz BK461.out 1 rfl; have hcz14_2 : w10.cell? ⟨gb461, 2, none⟩ = some (.int .i64 0) := bcz BK461.out 2 rfl; obtain ⟨hfz14_0, hfz14_1, hfz14_2⟩ := F3z (blk_frozen BK461.out)) | (go_at_call 44; (with_reducible refine (impl_SellerProfit.calls k _ _ t450 t453 t454 t455 t456 t457 t458 t459 t462 t463 _ ?side1 ?side2 A5.out).mono ?_); (case side1 => refine (Kd.R_reads' (e := 3) (base := w.heap.size) (ok := fun k_ => True) (n := t450.length) (c := co11) ?_).2.2; exact z16_5); (case side2 => exact (Kd.R_reads' HO452.out).2.1); rintro e w15 ⟨rfl, hb⟩; have n0_ := z16_A (Kd.R_below z16_5 hb); have n1_ := z16_A (blk_below (g := gb460) (o := .cells #[.slice Ao11 t450.length co11, .int .i64 t453, .int .i64 t454, .int .i64 t455] 30 (0, 0)) z16_7 hb); have n2_ := z16_A (blk_below (g := gb461) (o := .cells #[.int .i64 t456, .int .i64 t457, .int .i64 t458] 32 (0, 0)) z16_8 hb); have n3_ := z16_A (below_step z16_1 hb); clear HO452 BK460 BK461 HB; revert n0_ n1_ n2_ n3_; intro HO452 BK460 BK461 HB; (try clear hb); (try clear hb2); (try clear hk); (try clear hi); have hcz16_0 : w15.cell? ⟨gb460, 0, none⟩ = some (.slice Ao11 t450.length co11) := bcz BK460.out 0 rfl; have hcz16_1 : w15.cell? ⟨gb460, 1, none⟩ = some (.int .i64 t453) := bcz BK460.out 1 rfl; have hcz16_2 : w15.cell? ⟨gb460, 2, none⟩ = some (.int .i64 t454) := bcz BK460.out 2 rfl; have hcz16_3 : w15.cell? ⟨gb460, 3, none⟩ = some (.int .i64 t455) := bcz BK460.out 3 rfl; obtain ⟨hfz16_0, hfz16_1, hfz16_2, hfz16_3⟩ := F4z (blk_frozen BK460.out); have hcz17_0 : w15.cell? ⟨gb461, 0, none⟩ = some (.int .i64 t456) := bcz BK461.out 0 rfl; have hcz17_1 : w15.cell? ⟨gb461, 1, none⟩ = some (.int .i64 t457) := bcz BK461.out 1 rfl; have hcz17_2 : w15.cell? ⟨gb461, 2, none⟩ = some (.int .i64 t458) := bcz BK461.out 2 rfl; obtain ⟨hfz17_0, hfz17_1, hfz17_2⟩ := F3z (blk_frozen BK461.out)) | (go_at_call 47; (with_reducible refine (spec_SellerProfit.calls k _ _ t450 t453 t454 t455 t456 t457 t458 t459 t464 t465 _ ?side1 ?side2 A6.out).mono ?_); (case side1 => have zh := (Kd.R_reads' HO452.out).2.2; exact z16_C); (case side2 => exact (Kd.R_reads' HO452.out).2.1); rintro e w18 ⟨rfl, hb⟩; have n0_ := z16_A (Kd.R_below z16_13 hb); have n1_ := z16_A (blk_below (g := gb460) (o := .cells #[.slice Ao11 t450.length co11, .int .i64 t453, .int .i64 t454, .int .i64 t455] 30 (0, 0)) z16_2 hb); have n2_ := z16_A (blk_below (g := gb461) (o := .cells #[.int .i64 t456, .int .i64 t457, .int .i64 t458] 32 (0, 0)) z16_3 hb); have n3_ := z16_A (below_step z16_1 hb); clear HO452 BK460 BK461 HB; revert n0_ n1_ n2_ n3_; intro HO452 BK460 BK461 HB; (try clear hb); (try clear hb2); (try clear hk); (try clear hi))))
  (try simp only [Act.put, List.setIfInBounds_toArray, List.set_cons_zero, List.set_cons_succ])
  go_cut [73] (fun v73 wc => ∃ (kq : Nat) (x73_6 : Bool), v73 = .bool x73_6 ∧ Aside0 (laws_FnProfits.j0 kq t459 t462 t463 x73_6 t450 t453 t454 t455 t456 t457 t458 = some r) ∧ Aside0 (kq ≤ k) ∧ Aside0 (Kd.R (Kd.int .i64) 3 wc w.heap.size (fun _ => True) (.slice Ao11 t450.length co11) t450) ∧ Aside0 (wc.heap[gb460]? = some (.cells #[(.slice Ao11 t450.length co11), .int .i64 t453, .int .i64 t454, .int .i64 t455] 30 (0, 0))) ∧ Aside0 (wc.heap[gb461]? = some (.cells #[.int .i64 t456, .int .i64 t457, .int .i64 t458] 32 (0, 0))) ∧ Aside0 (Below w.heap.size w wc))
  case first => as_aux_lemma =>
   have H := HC7.out
   clear HC7
   by_cases c19 : t462 = t464
   ·rw [if_pos c19] at H
    have c19b0 : (t462 == t464) = true := beq_iff_eq.mpr c19
    have c19b1 : (t462 != t464) = false := bne_eq_false_iff_eq.mpr c19
    clear c19
    (first | rw [c19b0] | (simp only [i64_w, i32_w]; rw [c19b0]) | skip)
    have H' := z16_A H
    clear H
    go_wp2
    repeat (go_quiet (fail); try go_wp2)
    go_meet
    case rel => exact ⟨_, ((t463 != t465)), z16_15, H', ⟨by first | omega | exact Nat.le_refl _⟩, ⟨z16_13⟩, ⟨z16_2⟩, ⟨z16_3⟩, ⟨z16_1⟩⟩
   ·rw [if_neg c19] at H
    exact absurd H z16_22
  case rest => as_aux_lemma =>
   clear HC7
   (try clear c3); (try clear hcz13_0); (try clear hcz13_1); (try clear hcz13_2); (try clear hcz13_3); (try clear hcz14_0); (try clear hcz14_1); (try clear hcz14_2); (try clear hcz16_0); (try clear hcz16_1); (try clear hcz16_2); (try clear hcz16_3); (try clear hcz17_0); (try clear hcz17_1); (try clear hcz17_2); (try clear hfz13_0); (try clear hfz13_1); (try clear hfz13_2); (try clear hfz13_3); (try clear hfz14_0); (try clear hfz14_1); (try clear hfz14_2); (try clear hfz16_0); (try clear hfz16_1); (try clear hfz16_2); (try clear hfz16_3); (try clear hfz17_0); (try clear hfz17_1); (try clear hfz17_2)
   obtain ⟨kq, x73_6, rfl, HA, HJ6, HO_461000, BK460, BK461, HB⟩ := hcut
   cases kq with
   | zero => exact absurd HA.out (by simp [laws_FnProfits.j0])
   | succ kj6 =>
    have H := HA.out
    clear HA
    simp only [laws_FnProfits.j0] at H
    by_cases c20 : x73_6 = true
    ·subst c20
     have H1 : (none) = some r := z16_18
     clear H
     have H := H1
     clear H1
     exact absurd H z16_22
    ·replace c20 := Bool.eq_false_iff.mpr c20
     subst c20
     have H1 : ((impl_MakerProfit.f kj6 t450 t453 t454 t455 t456 t457 t458 t459).bind fun bt466 => ((spec_MakerProfit.f kj6 t450 t453 t454 t455 t456 t457 t458 t459).bind fun bt468 => (if bt466.1 = bt468.1 then (if (bt466.2 != bt468.2) = true then (none) else (laws_FnProfits.j1 kj6 t459 t462 t463 bt466.1 (bt466.2 != t463) t450 t453 t454 t455)) else (none)))) = some r := z16_14
     clear H
     have H := H1
     clear H1
     replace H := Option.bind_eq_some_iff.mp H
     obtain ⟨⟨t466, t467⟩, A210, H⟩ := H
     (try dsimp only at H)
     have A21 := z16_A A210
     clear A210
     replace H := Option.bind_eq_some_iff.mp H
     obtain ⟨⟨t468, t469⟩, A220, H⟩ := H
     (try dsimp only at H)
     have A22 := z16_A A220
     clear A220
     have HC23 := z16_A H
     clear H
     have hnb24 := NB460_461.out
     have hnc24 := NB461_460.out
     have hcz25_0 : wc.cell? ⟨gb460, 0, none⟩ = some (.slice Ao11 t450.length co11) := bcz BK460.out 0 rfl
     have hcz25_1 : wc.cell? ⟨gb460, 1, none⟩ = some (.int .i64 t453) := bcz BK460.out 1 rfl
     have hcz25_2 : wc.cell? ⟨gb460, 2, none⟩ = some (.int .i64 t454) := bcz BK460.out 2 rfl
     have hcz25_3 : wc.cell? ⟨gb460, 3, none⟩ = some (.int .i64 t455) := bcz BK460.out 3 rfl
     obtain ⟨hfz25_0, hfz25_1, hfz25_2, hfz25_3⟩ := F4z (blk_frozen BK460.out)
     have hcz26_0 : wc.cell? ⟨gb461, 0, none⟩ = some (.int .i64 t456) := bcz BK461.out 0 rfl
     have hcz26_1 : wc.cell? ⟨gb461, 1, none⟩ = some (.int .i64 t457) := bcz BK461.out 1 rfl
     have hcz26_2 : wc.cell? ⟨gb461, 2, none⟩ = some (.int .i64 t458) := bcz BK461.out 2 rfl
     obtain ⟨hfz26_0, hfz26_1, hfz26_2⟩ := F3z (blk_frozen BK461.out)
     go_upto_region 10 with (first | (go_at_call 48; (with_reducible refine (impl_MakerProfit.calls kj6 _ _ t450 t453 t454 t455 t456 t457 t458 t459 t466 t467 _ ?side1 ?side2 A21.out).mono ?_); (case side1 => have zh := (Kd.R_reads' HO_461000.out).2.2; exact z16_C); (case side2 => exact (Kd.R_reads' HO_461000.out).2.1); rintro e w27 ⟨rfl, hb⟩; have n0_ := z16_A (Kd.R_below z16_4 hb); have n1_ := z16_A (blk_below (g := gb460) (o := .cells #[.slice Ao11 t450.length co11, .int .i64 t453, .int .i64 t454, .int .i64 t455] 30 (0, 0)) z16_2 hb); have n2_ := z16_A (blk_below (g := gb461) (o := .cells #[.int .i64 t456, .int .i64 t457, .int .i64 t458] 32 (0, 0)) z16_3 hb); have n3_ := z16_A (below_step z16_1 hb); clear HO_461000 BK460 BK461 HB; revert n0_ n1_ n2_ n3_; intro HO_461000 BK460 BK461 HB; (try clear hb); (try clear hb2); (try clear hk); (try clear hi); have hcz28_0 : w27.cell? ⟨gb460, 0, none⟩ = some (.slice Ao11 t450.length co11) := bcz BK460.out 0 rfl; have hcz28_1 : w27.cell? ⟨gb460, 1, none⟩ = some (.int .i64 t453) := bcz BK460.out 1 rfl; have hcz28_2 : w27.cell? ⟨gb460, 2, none⟩ = some (.int .i64 t454) := bcz BK460.out 2 rfl; have hcz28_3 : w27.cell? ⟨gb460, 3, none⟩ = some (.int .i64 t455) := bcz BK460.out 3 rfl; obtain ⟨hfz28_0, hfz28_1, hfz28_2, hfz28_3⟩ := F4z (blk_frozen BK460.out); have hcz29_0 : w27.cell? ⟨gb461, 0, none⟩ = some (.int .i64 t456) := bcz BK461.out 0 rfl; have hcz29_1 : w27.cell? ⟨gb461, 1, none⟩ = some (.int .i64 t457) := bcz BK461.out 1 rfl; have hcz29_2 : w27.cell? ⟨gb461, 2, none⟩ = some (.int .i64 t458) := bcz BK461.out 2 rfl; obtain ⟨hfz29_0, hfz29_1, hfz29_2⟩ := F3z (blk_frozen BK461.out)) | (go_at_call 49; (with_reducible refine (spec_MakerProfit.calls kj6 _ _ t450 t453 t454 t455 t456 t457 t458 t459 t468 t469 _ ?side1 ?side2 A22.out).mono ?_); (case side1 => have zh := (Kd.R_reads' HO_461000.out).2.2; exact z16_C); (case side2 => exact (Kd.R_reads' HO_461000.out).2.1); rintro e w30 ⟨rfl, hb⟩; have n0_ := z16_A (Kd.R_below z16_4 hb); have n1_ := z16_A (blk_below (g := gb460) (o := .cells #[.slice Ao11 t450.length co11, .int .i64 t453, .int .i64 t454, .int .i64 t455] 30 (0, 0)) z16_2 hb); have n2_ := z16_A (blk_below (g := gb461) (o := .cells #[.int .i64 t456, .int .i64 t457, .int .i64 t458] 32 (0, 0)) z16_3 hb); have n3_ := z16_A (below_step z16_1 hb); clear HO_461000 BK460 BK461 HB; revert n0_ n1_ n2_ n3_; intro HO_461000 BK460 BK461 HB; (try clear hb); (try clear hb2); (try clear hk); (try clear hi)))
     repeat (go_quiet (first | (go_at_call 48; (with_reducible refine (impl_MakerProfit.calls kj6 _ _ t450 t453 t454 t455 t456 t457 t458 t459 t466 t467 _ ?side1 ?side2 A21.out).mono ?_); (case side1 => have zh := (Kd.R_reads' HO_461000.out).2.2; exact z16_C); (case side2 => exact (Kd.R_reads' HO_461000.out).2.1); rintro e w27 ⟨rfl, hb⟩; have n0_ := z16_A (Kd.R_below z16_4 hb); have n1_ := z16_A (blk_below (g := gb460) (o := .cells #[.slice Ao11 t450.length co11, .int .i64 t453, .int .i64 t454, .int .i64 t455] 30 (0, 0)) z16_2 hb); have n2_ := z16_A (blk_below (g := gb461) (o := .cells #[.int .i64 t456, .int .i64 t457, .int .i64 t458] 32 (0, 0)) z16_3 hb); have n3_ := z16_A (below_step z16_1 hb); clear HO_461000 BK460 BK461 HB; revert n0_ n1_ n2_ n3_; intro HO_461000 BK460 BK461 HB; (try clear hb); (try clear hb2); (try clear hk); (try clear hi); have hcz28_0 : w27.cell? ⟨gb460, 0, none⟩ = some (.slice Ao11 t450.length co11) := bcz BK460.out 0 rfl; have hcz28_1 : w27.cell? ⟨gb460, 1, none⟩ = some (.int .i64 t453) := bcz BK460.out 1 rfl; have hcz28_2 : w27.cell? ⟨gb460, 2, none⟩ = some (.int .i64 t454) := bcz BK460.out 2 rfl; have hcz28_3 : w27.cell? ⟨gb460, 3, none⟩ = some (.int .i64 t455) := bcz BK460.out 3 rfl; obtain ⟨hfz28_0, hfz28_1, hfz28_2, hfz28_3⟩ := F4z (blk_frozen BK460.out); have hcz29_0 : w27.cell? ⟨gb461, 0, none⟩ = some (.int .i64 t456) := bcz BK461.out 0 rfl; have hcz29_1 : w27.cell? ⟨gb461, 1, none⟩ = some (.int .i64 t457) := bcz BK461.out 1 rfl; have hcz29_2 : w27.cell? ⟨gb461, 2, none⟩ = some (.int .i64 t458) := bcz BK461.out 2 rfl; obtain ⟨hfz29_0, hfz29_1, hfz29_2⟩ := F3z (blk_frozen BK461.out)) | (go_at_call 49; (with_reducible refine (spec_MakerProfit.calls kj6 _ _ t450 t453 t454 t455 t456 t457 t458 t459 t468 t469 _ ?side1 ?side2 A22.out).mono ?_); (case side1 => have zh := (Kd.R_reads' HO_461000.out).2.2; exact z16_C); (case side2 => exact (Kd.R_reads' HO_461000.out).2.1); rintro e w30 ⟨rfl, hb⟩; have n0_ := z16_A (Kd.R_below z16_4 hb); have n1_ := z16_A (blk_below (g := gb460) (o := .cells #[.slice Ao11 t450.length co11, .int .i64 t453, .int .i64 t454, .int .i64 t455] 30 (0, 0)) z16_2 hb); have n2_ := z16_A (blk_below (g := gb461) (o := .cells #[.int .i64 t456, .int .i64 t457, .int .i64 t458] 32 (0, 0)) z16_3 hb); have n3_ := z16_A (below_step z16_1 hb); clear HO_461000 BK460 BK461 HB; revert n0_ n1_ n2_ n3_; intro HO_461000 BK460 BK461 HB; (try clear hb); (try clear hb2); (try clear hk); (try clear hi))); go_upto_region 10 with (first | (go_at_call 48; (with_reducible refine (impl_MakerProfit.calls kj6 _ _ t450 t453 t454 t455 t456 t457 t458 t459 t466 t467 _ ?side1 ?side2 A21.out).mono ?_); (case side1 => have zh := (Kd.R_reads' HO_461000.out).2.2; exact z16_C); (case side2 => exact (Kd.R_reads' HO_461000.out).2.1); rintro e w27 ⟨rfl, hb⟩; have n0_ := z16_A (Kd.R_below z16_4 hb); have n1_ := z16_A (blk_below (g := gb460) (o := .cells #[.slice Ao11 t450.length co11, .int .i64 t453, .int .i64 t454, .int .i64 t455] 30 (0, 0)) z16_2 hb); have n2_ := z16_A (blk_below (g := gb461) (o := .cells #[.int .i64 t456, .int .i64 t457, .int .i64 t458] 32 (0, 0)) z16_3 hb); have n3_ := z16_A (below_step z16_1 hb); clear HO_461000 BK460 BK461 HB; revert n0_ n1_ n2_ n3_; intro HO_461000 BK460 BK461 HB; (try clear hb); (try clear hb2); (try clear hk); (try clear hi); have hcz28_0 : w27.cell? ⟨gb460, 0, none⟩ = some (.slice Ao11 t450.length co11) := bcz BK460.out 0 rfl; have hcz28_1 : w27.cell? ⟨gb460, 1, none⟩ = some (.int .i64 t453) := bcz BK460.out 1 rfl; have hcz28_2 : w27.cell? ⟨gb460, 2, none⟩ = some (.int .i64 t454) := bcz BK460.out 2 rfl; have hcz28_3 : w27.cell? ⟨gb460, 3, none⟩ = some (.int .i64 t455) := bcz BK460.out 3 rfl; obtain ⟨hfz28_0, hfz28_1, hfz28_2, hfz28_3⟩ := F4z (blk_frozen BK460.out); have hcz29_0 : w27.cell? ⟨gb461, 0, none⟩ = some (.int .i64 t456) := bcz BK461.out 0 rfl; have hcz29_1 : w27.cell? ⟨gb461, 1, none⟩ = some (.int .i64 t457) := bcz BK461.out 1 rfl; have hcz29_2 : w27.cell? ⟨gb461, 2, none⟩ = some (.int .i64 t458) := bcz BK461.out 2 rfl; obtain ⟨hfz29_0, hfz29_1, hfz29_2⟩ := F3z (blk_frozen BK461.out)) | (go_at_call 49; (with_reducible refine (spec_MakerProfit.calls kj6 _ _ t450 t453 t454 t455 t456 t457 t458 t459 t468 t469 _ ?side1 ?side2 A22.out).mono ?_); (case side1 => have zh := (Kd.R_reads' HO_461000.out).2.2; exact z16_C); (case side2 => exact (Kd.R_reads' HO_461000.out).2.1); rintro e w30 ⟨rfl, hb⟩; have n0_ := z16_A (Kd.R_below z16_4 hb); have n1_ := z16_A (blk_below (g := gb460) (o := .cells #[.slice Ao11 t450.length co11, .int .i64 t453, .int .i64 t454, .int .i64 t455] 30 (0, 0)) z16_2 hb); have n2_ := z16_A (blk_below (g := gb461) (o := .cells #[.int .i64 t456, .int .i64 t457, .int .i64 t458] 32 (0, 0)) z16_3 hb); have n3_ := z16_A (below_step z16_1 hb); clear HO_461000 BK460 BK461 HB; revert n0_ n1_ n2_ n3_; intro HO_461000 BK460 BK461 HB; (try clear hb); (try clear hb2); (try clear hk); (try clear hi))))
     (try simp only [Act.put, List.setIfInBounds_toArray, List.set_cons_zero, List.set_cons_succ])
     go_cut [100] (fun v100 wc => ∃ (kq : Nat) (x100_22 : Bool), v100 = .bool x100_22 ∧ Aside0 (laws_FnProfits.j1 kq t459 t462 t463 t466 x100_22 t450 t453 t454 t455 = some r) ∧ Aside0 (kq ≤ kj6) ∧ Aside0 (Kd.R (Kd.int .i64) 3 wc w.heap.size (fun _ => True) (.slice Ao11 t450.length co11) t450) ∧ Aside0 (wc.heap[gb460]? = some (.cells #[(.slice Ao11 t450.length co11), .int .i64 t453, .int .i64 t454, .int .i64 t455] 30 (0, 0))) ∧ Aside0 (wc.heap[gb461]? = some (.cells #[.int .i64 t456, .int .i64 t457, .int .i64 t458] 32 (0, 0))) ∧ Aside0 (Below w.heap.size w wc))
     case first => as_aux_lemma =>
      have H := HC23.out
      clear HC23
      by_cases c31 : t466 = t468
      ·rw [if_pos c31] at H
       have c31b0 : (t466 == t468) = true := beq_iff_eq.mpr c31
       have c31b1 : (t466 != t468) = false := bne_eq_false_iff_eq.mpr c31
       clear c31
       (first | rw [c31b0] | (simp only [i64_w, i32_w]; rw [c31b0]) | skip)
       by_cases c32 : (t467 != t469) = true
       ·rw [if_pos c32] at H
        exact absurd H z16_22
       ·rw [if_neg c32] at H
        have c32b0 : (t467 != t469) = false := by simpa using c32
        (try (have c32b1 : decide (t467 = t469) = true := by simpa using c32))
        (try (have c32b2 : (t467 == t469) = true := by simpa using c32))
        clear c32
        have H' := z16_A H
        clear H
        go_wp2
        repeat (go_quiet (fail); try go_wp2)
        go_meet
        case rel => exact ⟨_, ((t467 != t463)), z16_15, H', ⟨by have := HJ6.out; first | omega | exact Nat.le_refl _⟩, ⟨z16_4⟩, ⟨z16_2⟩, ⟨z16_3⟩, ⟨z16_1⟩⟩
      ·rw [if_neg c31] at H
       exact absurd H z16_22
     case rest => as_aux_lemma =>
      clear HC23
      (try clear c2); (try clear c20); (try clear c24); (try clear c31); (try clear c31b0); (try clear c31b1); (try clear c32); (try clear c32b0); (try clear c32b1); (try clear c32b2); (try clear hcz25_0); (try clear hcz25_1); (try clear hcz25_2); (try clear hcz25_3); (try clear hcz26_0); (try clear hcz26_1); (try clear hcz26_2); (try clear hcz28_0); (try clear hcz28_1); (try clear hcz28_2); (try clear hcz28_3); (try clear hcz29_0); (try clear hcz29_1); (try clear hcz29_2); (try clear hfz25_0); (try clear hfz25_1); (try clear hfz25_2); (try clear hfz25_3); (try clear hfz26_0); (try clear hfz26_1); (try clear hfz26_2); (try clear hfz28_0); (try clear hfz28_1); (try clear hfz28_2); (try clear hfz28_3); (try clear hfz29_0); (try clear hfz29_1); (try clear hfz29_2)
      obtain ⟨kq, x100_22, rfl, HA, HJ22, HO_461000, BK460, BK461, HB⟩ := hcut
      cases kq with
      | zero => exact absurd HA.out (by simp [laws_FnProfits.j1])
      | succ kj22 =>
       have H := HA.out
       clear HA
       simp only [laws_FnProfits.j1] at H
       by_cases c33 : x100_22 = true
       ·subst c33
        have H1 : (none) = some r := z16_18
        clear H
        have H := H1
        clear H1
        exact absurd H z16_22
       ·replace c33 := Bool.eq_false_iff.mpr c33
        subst c33
        have H1 : ((impl_JointProfit.f kj22 t450 t453 t454 t455 t459).bind fun bt470 => ((spec_JointProfit.f kj22 t450 t453 t454 t455 t459).bind fun bt472 => (if bt470.1 = bt472.1 then (if (bt470.2 != bt472.2) = true then (none) else (if t463 = true then (laws_FnProfits.j2 kj22 t459 t462 t463 t466 bt470.1 bt470.2 (!bt470.2) t450 t453 t454 t455) else (laws_FnProfits.j2 kj22 t459 t462 t463 t466 bt470.1 bt470.2 false t450 t453 t454 t455))) else (none)))) = some r := z16_14
        clear H
        have H := H1
        clear H1
        replace H := Option.bind_eq_some_iff.mp H
        obtain ⟨⟨t470, t471⟩, A340, H⟩ := H
        (try dsimp only at H)
        have A34 := z16_A A340
        clear A340
        replace H := Option.bind_eq_some_iff.mp H
        obtain ⟨⟨t472, t473⟩, A350, H⟩ := H
        (try dsimp only at H)
        have A35 := z16_A A350
        clear A350
        have HC36 := z16_A H
        clear H
        have hnb37 := NB460_461.out
        have hnc37 := NB461_460.out
        have hcz38_0 : wc.cell? ⟨gb460, 0, none⟩ = some (.slice Ao11 t450.length co11) := bcz BK460.out 0 rfl
        have hcz38_1 : wc.cell? ⟨gb460, 1, none⟩ = some (.int .i64 t453) := bcz BK460.out 1 rfl
        have hcz38_2 : wc.cell? ⟨gb460, 2, none⟩ = some (.int .i64 t454) := bcz BK460.out 2 rfl
        have hcz38_3 : wc.cell? ⟨gb460, 3, none⟩ = some (.int .i64 t455) := bcz BK460.out 3 rfl
        obtain ⟨hfz38_0, hfz38_1, hfz38_2, hfz38_3⟩ := F4z (blk_frozen BK460.out)
        go_upto_region 14 with (first | (go_at_call 45; (with_reducible refine (impl_JointProfit.calls kj22 _ _ t450 t453 t454 t455 t459 t470 t471 _ ?side1 ?side2 A34.out).mono ?_); (case side1 => have zh := (Kd.R_reads' HO_461000.out).2.2; exact z16_C); (case side2 => exact (Kd.R_reads' HO_461000.out).2.1); rintro e w39 ⟨rfl, hb⟩; have n0_ := z16_A (Kd.R_below z16_4 hb); have n1_ := z16_A (blk_below (g := gb460) (o := .cells #[.slice Ao11 t450.length co11, .int .i64 t453, .int .i64 t454, .int .i64 t455] 30 (0, 0)) z16_2 hb); have n2_ := z16_A (blk_below (g := gb461) (o := .cells #[.int .i64 t456, .int .i64 t457, .int .i64 t458] 32 (0, 0)) z16_3 hb); have n3_ := z16_A (below_step z16_1 hb); clear HO_461000 BK460 BK461 HB; revert n0_ n1_ n2_ n3_; intro HO_461000 BK460 BK461 HB; (try clear hb); (try clear hb2); (try clear hk); (try clear hi); have hcz40_0 : w39.cell? ⟨gb460, 0, none⟩ = some (.slice Ao11 t450.length co11) := bcz BK460.out 0 rfl; have hcz40_1 : w39.cell? ⟨gb460, 1, none⟩ = some (.int .i64 t453) := bcz BK460.out 1 rfl; have hcz40_2 : w39.cell? ⟨gb460, 2, none⟩ = some (.int .i64 t454) := bcz BK460.out 2 rfl; have hcz40_3 : w39.cell? ⟨gb460, 3, none⟩ = some (.int .i64 t455) := bcz BK460.out 3 rfl; obtain ⟨hfz40_0, hfz40_1, hfz40_2, hfz40_3⟩ := F4z (blk_frozen BK460.out)) | (go_at_call 50; (with_reducible refine (spec_JointProfit.calls kj22 _ _ t450 t453 t454 t455 t459 t472 t473 _ ?side1 ?side2 A35.out).mono ?_); (case side1 => have zh := (Kd.R_reads' HO_461000.out).2.2; exact z16_C); (case side2 => exact (Kd.R_reads' HO_461000.out).2.1); rintro e w41 ⟨rfl, hb⟩; have n0_ := z16_A (Kd.R_below z16_4 hb); have n1_ := z16_A (blk_below (g := gb460) (o := .cells #[.slice Ao11 t450.length co11, .int .i64 t453, .int .i64 t454, .int .i64 t455] 30 (0, 0)) z16_2 hb); have n2_ := z16_A (blk_below (g := gb461) (o := .cells #[.int .i64 t456, .int .i64 t457, .int .i64 t458] 32 (0, 0)) z16_3 hb); have n3_ := z16_A (below_step z16_1 hb); clear HO_461000 BK460 BK461 HB; revert n0_ n1_ n2_ n3_; intro HO_461000 BK460 BK461 HB; (try clear hb); (try clear hb2); (try clear hk); (try clear hi)))
        repeat (go_quiet (first | (go_at_call 45; (with_reducible refine (impl_JointProfit.calls kj22 _ _ t450 t453 t454 t455 t459 t470 t471 _ ?side1 ?side2 A34.out).mono ?_); (case side1 => have zh := (Kd.R_reads' HO_461000.out).2.2; exact z16_C); (case side2 => exact (Kd.R_reads' HO_461000.out).2.1); rintro e w39 ⟨rfl, hb⟩; have n0_ := z16_A (Kd.R_below z16_4 hb); have n1_ := z16_A (blk_below (g := gb460) (o := .cells #[.slice Ao11 t450.length co11, .int .i64 t453, .int .i64 t454, .int .i64 t455] 30 (0, 0)) z16_2 hb); have n2_ := z16_A (blk_below (g := gb461) (o := .cells #[.int .i64 t456, .int .i64 t457, .int .i64 t458] 32 (0, 0)) z16_3 hb); have n3_ := z16_A (below_step z16_1 hb); clear HO_461000 BK460 BK461 HB; revert n0_ n1_ n2_ n3_; intro HO_461000 BK460 BK461 HB; (try clear hb); (try clear hb2); (try clear hk); (try clear hi); have hcz40_0 : w39.cell? ⟨gb460, 0, none⟩ = some (.slice Ao11 t450.length co11) := bcz BK460.out 0 rfl; have hcz40_1 : w39.cell? ⟨gb460, 1, none⟩ = some (.int .i64 t453) := bcz BK460.out 1 rfl; have hcz40_2 : w39.cell? ⟨gb460, 2, none⟩ = some (.int .i64 t454) := bcz BK460.out 2 rfl; have hcz40_3 : w39.cell? ⟨gb460, 3, none⟩ = some (.int .i64 t455) := bcz BK460.out 3 rfl; obtain ⟨hfz40_0, hfz40_1, hfz40_2, hfz40_3⟩ := F4z (blk_frozen BK460.out)) | (go_at_call 50; (with_reducible refine (spec_JointProfit.calls kj22 _ _ t450 t453 t454 t455 t459 t472 t473 _ ?side1 ?side2 A35.out).mono ?_); (case side1 => have zh := (Kd.R_reads' HO_461000.out).2.2; exact z16_C); (case side2 => exact (Kd.R_reads' HO_461000.out).2.1); rintro e w41 ⟨rfl, hb⟩; have n0_ := z16_A (Kd.R_below z16_4 hb); have n1_ := z16_A (blk_below (g := gb460) (o := .cells #[.slice Ao11 t450.length co11, .int .i64 t453, .int .i64 t454, .int .i64 t455] 30 (0, 0)) z16_2 hb); have n2_ := z16_A (blk_below (g := gb461) (o := .cells #[.int .i64 t456, .int .i64 t457, .int .i64 t458] 32 (0, 0)) z16_3 hb); have n3_ := z16_A (below_step z16_1 hb); clear HO_461000 BK460 BK461 HB; revert n0_ n1_ n2_ n3_; intro HO_461000 BK460 BK461 HB; (try clear hb); (try clear hb2); (try clear hk); (try clear hi))); go_upto_region 14 with (first | (go_at_call 45; (with_reducible refine (impl_JointProfit.calls kj22 _ _ t450 t453 t454 t455 t459 t470 t471 _ ?side1 ?side2 A34.out).mono ?_); (case side1 => have zh := (Kd.R_reads' HO_461000.out).2.2; exact z16_C); (case side2 => exact (Kd.R_reads' HO_461000.out).2.1); rintro e w39 ⟨rfl, hb⟩; have n0_ := z16_A (Kd.R_below z16_4 hb); have n1_ := z16_A (blk_below (g := gb460) (o := .cells #[.slice Ao11 t450.length co11, .int .i64 t453, .int .i64 t454, .int .i64 t455] 30 (0, 0)) z16_2 hb); have n2_ := z16_A (blk_below (g := gb461) (o := .cells #[.int .i64 t456, .int .i64 t457, .int .i64 t458] 32 (0, 0)) z16_3 hb); have n3_ := z16_A (below_step z16_1 hb); clear HO_461000 BK460 BK461 HB; revert n0_ n1_ n2_ n3_; intro HO_461000 BK460 BK461 HB; (try clear hb); (try clear hb2); (try clear hk); (try clear hi); have hcz40_0 : w39.cell? ⟨gb460, 0, none⟩ = some (.slice Ao11 t450.length co11) := bcz BK460.out 0 rfl; have hcz40_1 : w39.cell? ⟨gb460, 1, none⟩ = some (.int .i64 t453) := bcz BK460.out 1 rfl; have hcz40_2 : w39.cell? ⟨gb460, 2, none⟩ = some (.int .i64 t454) := bcz BK460.out 2 rfl; have hcz40_3 : w39.cell? ⟨gb460, 3, none⟩ = some (.int .i64 t455) := bcz BK460.out 3 rfl; obtain ⟨hfz40_0, hfz40_1, hfz40_2, hfz40_3⟩ := F4z (blk_frozen BK460.out)) | (go_at_call 50; (with_reducible refine (spec_JointProfit.calls kj22 _ _ t450 t453 t454 t455 t459 t472 t473 _ ?side1 ?side2 A35.out).mono ?_); (case side1 => have zh := (Kd.R_reads' HO_461000.out).2.2; exact z16_C); (case side2 => exact (Kd.R_reads' HO_461000.out).2.1); rintro e w41 ⟨rfl, hb⟩; have n0_ := z16_A (Kd.R_below z16_4 hb); have n1_ := z16_A (blk_below (g := gb460) (o := .cells #[.slice Ao11 t450.length co11, .int .i64 t453, .int .i64 t454, .int .i64 t455] 30 (0, 0)) z16_2 hb); have n2_ := z16_A (blk_below (g := gb461) (o := .cells #[.int .i64 t456, .int .i64 t457, .int .i64 t458] 32 (0, 0)) z16_3 hb); have n3_ := z16_A (below_step z16_1 hb); clear HO_461000 BK460 BK461 HB; revert n0_ n1_ n2_ n3_; intro HO_461000 BK460 BK461 HB; (try clear hb); (try clear hb2); (try clear hk); (try clear hi))))
        (try simp only [Act.put, List.setIfInBounds_toArray, List.set_cons_zero, List.set_cons_succ])
        go_cut [127] (fun v127 wc => ∃ (kq : Nat) (x127_35 : Bool), v127 = .bool x127_35 ∧ Aside0 (laws_FnProfits.j2 kq t459 t462 t463 t466 t470 t471 x127_35 t450 t453 t454 t455 = some r) ∧ Aside0 (kq ≤ kj22) ∧ Aside0 (Kd.R (Kd.int .i64) 3 wc w.heap.size (fun _ => True) (.slice Ao11 t450.length co11) t450) ∧ Aside0 (wc.heap[gb460]? = some (.cells #[(.slice Ao11 t450.length co11), .int .i64 t453, .int .i64 t454, .int .i64 t455] 30 (0, 0))) ∧ Aside0 (wc.heap[gb461]? = some (.cells #[.int .i64 t456, .int .i64 t457, .int .i64 t458] 32 (0, 0))) ∧ Aside0 (Below w.heap.size w wc))
        case first => as_aux_lemma =>
         have H := HC36.out
         clear HC36
         by_cases c42 : t470 = t472
         ·rw [if_pos c42] at H
          have c42b0 : (t470 == t472) = true := beq_iff_eq.mpr c42
          have c42b1 : (t470 != t472) = false := bne_eq_false_iff_eq.mpr c42
          clear c42
          (first | rw [c42b0] | (simp only [i64_w, i32_w]; rw [c42b0]) | skip)
          by_cases c43 : (t471 != t473) = true
          ·rw [if_pos c43] at H
           exact absurd H z16_22
          ·rw [if_neg c43] at H
           have c43b0 : (t471 != t473) = false := by simpa using c43
           (try (have c43b1 : decide (t471 = t473) = true := by simpa using c43))
           (try (have c43b2 : (t471 == t473) = true := by simpa using c43))
           clear c43
           by_cases c44 : t463 = true
           ·subst c44
            have H1 : (laws_FnProfits.j2 kj22 t459 t462 true t466 t470 t471 (!t471) t450 t453 t454 t455) = some r := z16_18
            clear H
            have H := H1
            clear H1
            have H' := z16_A H
            clear H
            go_wp2
            repeat (go_quiet (fail); try go_wp2)
            go_meet
            case rel => exact ⟨_, (!t471), z16_15, H', ⟨by have := HJ6.out; have := HJ22.out; first | omega | exact Nat.le_refl _⟩, ⟨z16_4⟩, ⟨z16_2⟩, ⟨z16_3⟩, ⟨z16_1⟩⟩
           ·replace c44 := Bool.eq_false_iff.mpr c44
            subst c44
            have H1 : (laws_FnProfits.j2 kj22 t459 t462 false t466 t470 t471 false t450 t453 t454 t455) = some r := z16_14
            clear H
            have H := H1
            clear H1
            have H' := z16_A H
            clear H
            go_wp2
            repeat (go_quiet (fail); try go_wp2)
            go_meet
            case rel => exact ⟨_, (false), z16_15, H', ⟨by have := HJ6.out; have := HJ22.out; first | omega | exact Nat.le_refl _⟩, ⟨z16_4⟩, ⟨z16_2⟩, ⟨z16_3⟩, ⟨z16_1⟩⟩
         ·rw [if_neg c42] at H
          exact absurd H z16_22
        case rest => as_aux_lemma =>
         clear HC36
         (try clear c4); (try clear c33); (try clear c37); (try clear c42); (try clear c42b0); (try clear c42b1); (try clear c43); (try clear c43b0); (try clear c43b1); (try clear c43b2); (try clear c44); (try clear hcz38_0); (try clear hcz38_1); (try clear hcz38_2); (try clear hcz38_3); (try clear hcz40_0); (try clear hcz40_1); (try clear hcz40_2); (try clear hcz40_3); (try clear hfz38_0); (try clear hfz38_1); (try clear hfz38_2); (try clear hfz38_3); (try clear hfz40_0); (try clear hfz40_1); (try clear hfz40_2); (try clear hfz40_3)
         obtain ⟨kq, x127_35, rfl, HA, HJ35, HO_461000, BK460, BK461, HB⟩ := hcut
         cases kq with
         | zero => exact absurd HA.out (by simp [laws_FnProfits.j2])
         | succ kj35 =>
          have H := HA.out
          clear HA
          simp only [laws_FnProfits.j2] at H
          by_cases c45 : x127_35 = true
          ·subst c45
           have H1 : (none) = some r := z16_18
           clear H
           have H := H1
           clear H1
           exact absurd H z16_22
          ·replace c45 := Bool.eq_false_iff.mpr c45
           subst c45
           have H1 : ((impl_SalesOf.f kj35 t450 t453 t454 t455 t459).bind fun bt474 => ((spec_SalesOf.f kj35 t450 t453 t454 t455 t459).bind fun bt476 => (if bt474.1 = bt476.1 then (if (bt474.2 != bt476.2) = true then (none) else (laws_FnProfits.j3 kj35 t462 t463 t466 t470 (bt474.2 != t471) t450 t453 t454 t455)) else (none)))) = some r := z16_14
           clear H
           have H := H1
           clear H1
           replace H := Option.bind_eq_some_iff.mp H
           obtain ⟨⟨t474, t475⟩, A460, H⟩ := H
           (try dsimp only at H)
           have A46 := z16_A A460
           clear A460
           replace H := Option.bind_eq_some_iff.mp H
           obtain ⟨⟨t476, t477⟩, A470, H⟩ := H
           (try dsimp only at H)
           have A47 := z16_A A470
           clear A470
           have HC48 := z16_A H
           clear H
           have hnb49 := NB460_461.out
           have hnc49 := NB461_460.out
           have hcz50_0 : wc.cell? ⟨gb460, 0, none⟩ = some (.slice Ao11 t450.length co11) := bcz BK460.out 0 rfl
           have hcz50_1 : wc.cell? ⟨gb460, 1, none⟩ = some (.int .i64 t453) := bcz BK460.out 1 rfl
           have hcz50_2 : wc.cell? ⟨gb460, 2, none⟩ = some (.int .i64 t454) := bcz BK460.out 2 rfl
           have hcz50_3 : wc.cell? ⟨gb460, 3, none⟩ = some (.int .i64 t455) := bcz BK460.out 3 rfl
           obtain ⟨hfz50_0, hfz50_1, hfz50_2, hfz50_3⟩ := F4z (blk_frozen BK460.out)
           go_upto_region 18 with (first | (go_at_call 51; (with_reducible refine (impl_SalesOf.calls kj35 _ _ t450 t453 t454 t455 t459 t474 t475 _ ?side1 ?side2 A46.out).mono ?_); (case side1 => have zh := (Kd.R_reads' HO_461000.out).2.2; exact z16_C); (case side2 => exact (Kd.R_reads' HO_461000.out).2.1); rintro e w51 ⟨rfl, hb⟩; have n0_ := z16_A (Kd.R_below z16_4 hb); have n1_ := z16_A (blk_below (g := gb460) (o := .cells #[.slice Ao11 t450.length co11, .int .i64 t453, .int .i64 t454, .int .i64 t455] 30 (0, 0)) z16_2 hb); have n2_ := z16_A (blk_below (g := gb461) (o := .cells #[.int .i64 t456, .int .i64 t457, .int .i64 t458] 32 (0, 0)) z16_3 hb); have n3_ := z16_A (below_step z16_1 hb); clear HO_461000 BK460 BK461 HB; revert n0_ n1_ n2_ n3_; intro HO_461000 BK460 BK461 HB; (try clear hb); (try clear hb2); (try clear hk); (try clear hi); have hcz52_0 : w51.cell? ⟨gb460, 0, none⟩ = some (.slice Ao11 t450.length co11) := bcz BK460.out 0 rfl; have hcz52_1 : w51.cell? ⟨gb460, 1, none⟩ = some (.int .i64 t453) := bcz BK460.out 1 rfl; have hcz52_2 : w51.cell? ⟨gb460, 2, none⟩ = some (.int .i64 t454) := bcz BK460.out 2 rfl; have hcz52_3 : w51.cell? ⟨gb460, 3, none⟩ = some (.int .i64 t455) := bcz BK460.out 3 rfl; obtain ⟨hfz52_0, hfz52_1, hfz52_2, hfz52_3⟩ := F4z (blk_frozen BK460.out)) | (go_at_call 52; (with_reducible refine (spec_SalesOf.calls kj35 _ _ t450 t453 t454 t455 t459 t476 t477 _ ?side1 ?side2 A47.out).mono ?_); (case side1 => have zh := (Kd.R_reads' HO_461000.out).2.2; exact z16_C); (case side2 => exact (Kd.R_reads' HO_461000.out).2.1); rintro e w53 ⟨rfl, hb⟩; have n0_ := z16_A (Kd.R_below z16_4 hb); have n1_ := z16_A (blk_below (g := gb460) (o := .cells #[.slice Ao11 t450.length co11, .int .i64 t453, .int .i64 t454, .int .i64 t455] 30 (0, 0)) z16_2 hb); have n2_ := z16_A (blk_below (g := gb461) (o := .cells #[.int .i64 t456, .int .i64 t457, .int .i64 t458] 32 (0, 0)) z16_3 hb); have n3_ := z16_A (below_step z16_1 hb); clear HO_461000 BK460 BK461 HB; revert n0_ n1_ n2_ n3_; intro HO_461000 BK460 BK461 HB; (try clear hb); (try clear hb2); (try clear hk); (try clear hi)))
           repeat (go_quiet (first | (go_at_call 51; (with_reducible refine (impl_SalesOf.calls kj35 _ _ t450 t453 t454 t455 t459 t474 t475 _ ?side1 ?side2 A46.out).mono ?_); (case side1 => have zh := (Kd.R_reads' HO_461000.out).2.2; exact z16_C); (case side2 => exact (Kd.R_reads' HO_461000.out).2.1); rintro e w51 ⟨rfl, hb⟩; have n0_ := z16_A (Kd.R_below z16_4 hb); have n1_ := z16_A (blk_below (g := gb460) (o := .cells #[.slice Ao11 t450.length co11, .int .i64 t453, .int .i64 t454, .int .i64 t455] 30 (0, 0)) z16_2 hb); have n2_ := z16_A (blk_below (g := gb461) (o := .cells #[.int .i64 t456, .int .i64 t457, .int .i64 t458] 32 (0, 0)) z16_3 hb); have n3_ := z16_A (below_step z16_1 hb); clear HO_461000 BK460 BK461 HB; revert n0_ n1_ n2_ n3_; intro HO_461000 BK460 BK461 HB; (try clear hb); (try clear hb2); (try clear hk); (try clear hi); have hcz52_0 : w51.cell? ⟨gb460, 0, none⟩ = some (.slice Ao11 t450.length co11) := bcz BK460.out 0 rfl; have hcz52_1 : w51.cell? ⟨gb460, 1, none⟩ = some (.int .i64 t453) := bcz BK460.out 1 rfl; have hcz52_2 : w51.cell? ⟨gb460, 2, none⟩ = some (.int .i64 t454) := bcz BK460.out 2 rfl; have hcz52_3 : w51.cell? ⟨gb460, 3, none⟩ = some (.int .i64 t455) := bcz BK460.out 3 rfl; obtain ⟨hfz52_0, hfz52_1, hfz52_2, hfz52_3⟩ := F4z (blk_frozen BK460.out)) | (go_at_call 52; (with_reducible refine (spec_SalesOf.calls kj35 _ _ t450 t453 t454 t455 t459 t476 t477 _ ?side1 ?side2 A47.out).mono ?_); (case side1 => have zh := (Kd.R_reads' HO_461000.out).2.2; exact z16_C); (case side2 => exact (Kd.R_reads' HO_461000.out).2.1); rintro e w53 ⟨rfl, hb⟩; have n0_ := z16_A (Kd.R_below z16_4 hb); have n1_ := z16_A (blk_below (g := gb460) (o := .cells #[.slice Ao11 t450.length co11, .int .i64 t453, .int .i64 t454, .int .i64 t455] 30 (0, 0)) z16_2 hb); have n2_ := z16_A (blk_below (g := gb461) (o := .cells #[.int .i64 t456, .int .i64 t457, .int .i64 t458] 32 (0, 0)) z16_3 hb); have n3_ := z16_A (below_step z16_1 hb); clear HO_461000 BK460 BK461 HB; revert n0_ n1_ n2_ n3_; intro HO_461000 BK460 BK461 HB; (try clear hb); (try clear hb2); (try clear hk); (try clear hi))); go_upto_region 18 with (first | (go_at_call 51; (with_reducible refine (impl_SalesOf.calls kj35 _ _ t450 t453 t454 t455 t459 t474 t475 _ ?side1 ?side2 A46.out).mono ?_); (case side1 => have zh := (Kd.R_reads' HO_461000.out).2.2; exact z16_C); (case side2 => exact (Kd.R_reads' HO_461000.out).2.1); rintro e w51 ⟨rfl, hb⟩; have n0_ := z16_A (Kd.R_below z16_4 hb); have n1_ := z16_A (blk_below (g := gb460) (o := .cells #[.slice Ao11 t450.length co11, .int .i64 t453, .int .i64 t454, .int .i64 t455] 30 (0, 0)) z16_2 hb); have n2_ := z16_A (blk_below (g := gb461) (o := .cells #[.int .i64 t456, .int .i64 t457, .int .i64 t458] 32 (0, 0)) z16_3 hb); have n3_ := z16_A (below_step z16_1 hb); clear HO_461000 BK460 BK461 HB; revert n0_ n1_ n2_ n3_; intro HO_461000 BK460 BK461 HB; (try clear hb); (try clear hb2); (try clear hk); (try clear hi); have hcz52_0 : w51.cell? ⟨gb460, 0, none⟩ = some (.slice Ao11 t450.length co11) := bcz BK460.out 0 rfl; have hcz52_1 : w51.cell? ⟨gb460, 1, none⟩ = some (.int .i64 t453) := bcz BK460.out 1 rfl; have hcz52_2 : w51.cell? ⟨gb460, 2, none⟩ = some (.int .i64 t454) := bcz BK460.out 2 rfl; have hcz52_3 : w51.cell? ⟨gb460, 3, none⟩ = some (.int .i64 t455) := bcz BK460.out 3 rfl; obtain ⟨hfz52_0, hfz52_1, hfz52_2, hfz52_3⟩ := F4z (blk_frozen BK460.out)) | (go_at_call 52; (with_reducible refine (spec_SalesOf.calls kj35 _ _ t450 t453 t454 t455 t459 t476 t477 _ ?side1 ?side2 A47.out).mono ?_); (case side1 => have zh := (Kd.R_reads' HO_461000.out).2.2; exact z16_C); (case side2 => exact (Kd.R_reads' HO_461000.out).2.1); rintro e w53 ⟨rfl, hb⟩; have n0_ := z16_A (Kd.R_below z16_4 hb); have n1_ := z16_A (blk_below (g := gb460) (o := .cells #[.slice Ao11 t450.length co11, .int .i64 t453, .int .i64 t454, .int .i64 t455] 30 (0, 0)) z16_2 hb); have n2_ := z16_A (blk_below (g := gb461) (o := .cells #[.int .i64 t456, .int .i64 t457, .int .i64 t458] 32 (0, 0)) z16_3 hb); have n3_ := z16_A (below_step z16_1 hb); clear HO_461000 BK460 BK461 HB; revert n0_ n1_ n2_ n3_; intro HO_461000 BK460 BK461 HB; (try clear hb); (try clear hb2); (try clear hk); (try clear hi))))
           (try simp only [Act.put, List.setIfInBounds_toArray, List.set_cons_zero, List.set_cons_succ])
           go_cut [152] (fun v152 wc => ∃ (kq : Nat) (x152_47 : Bool), v152 = .bool x152_47 ∧ Aside0 (laws_FnProfits.j3 kq t462 t463 t466 t470 x152_47 t450 t453 t454 t455 = some r) ∧ Aside0 (kq ≤ kj35) ∧ Aside0 (Kd.R (Kd.int .i64) 3 wc w.heap.size (fun _ => True) (.slice Ao11 t450.length co11) t450) ∧ Aside0 (wc.heap[gb460]? = some (.cells #[(.slice Ao11 t450.length co11), .int .i64 t453, .int .i64 t454, .int .i64 t455] 30 (0, 0))) ∧ Aside0 (wc.heap[gb461]? = some (.cells #[.int .i64 t456, .int .i64 t457, .int .i64 t458] 32 (0, 0))) ∧ Aside0 (Below w.heap.size w wc))
           case first => as_aux_lemma =>
            have H := HC48.out
            clear HC48
            by_cases c54 : t474 = t476
            ·rw [if_pos c54] at H
             have c54b0 : (t474 == t476) = true := beq_iff_eq.mpr c54
             have c54b1 : (t474 != t476) = false := bne_eq_false_iff_eq.mpr c54
             clear c54
             (first | rw [c54b0] | (simp only [i64_w, i32_w]; rw [c54b0]) | skip)
             by_cases c55 : (t475 != t477) = true
             ·rw [if_pos c55] at H
              exact absurd H z16_22
             ·rw [if_neg c55] at H
              have c55b0 : (t475 != t477) = false := by simpa using c55
              (try (have c55b1 : decide (t475 = t477) = true := by simpa using c55))
              (try (have c55b2 : (t475 == t477) = true := by simpa using c55))
              clear c55
              have H' := z16_A H
              clear H
              go_wp2
              repeat (go_quiet (fail); try go_wp2)
              go_meet
              case rel => exact ⟨_, ((t475 != t471)), z16_15, H', ⟨by have := HJ6.out; have := HJ22.out; have := HJ35.out; first | omega | exact Nat.le_refl _⟩, ⟨z16_4⟩, ⟨z16_2⟩, ⟨z16_3⟩, ⟨z16_1⟩⟩
            ·rw [if_neg c54] at H
             exact absurd H z16_22
           case rest => as_aux_lemma =>
            clear HC48
            (try clear c5); (try clear c45); (try clear c49); (try clear c54); (try clear c54b0); (try clear c54b1); (try clear c55); (try clear c55b0); (try clear c55b1); (try clear c55b2); (try clear hcz50_0); (try clear hcz50_1); (try clear hcz50_2); (try clear hcz50_3); (try clear hcz52_0); (try clear hcz52_1); (try clear hcz52_2); (try clear hcz52_3); (try clear hfz50_0); (try clear hfz50_1); (try clear hfz50_2); (try clear hfz50_3); (try clear hfz52_0); (try clear hfz52_1); (try clear hfz52_2); (try clear hfz52_3)
            obtain ⟨kq, x152_47, rfl, HA, HJ47, HO_461000, BK460, BK461, HB⟩ := hcut
            cases kq with
            | zero => exact absurd HA.out (by simp [laws_FnProfits.j3])
            | succ kj47 =>
             have H := HA.out
             clear HA
             simp only [laws_FnProfits.j3] at H
             by_cases c56 : x152_47 = true
             ·subst c56
              have H1 : (none) = some r := z16_18
              clear H
              have H := H1
              clear H1
              exact absurd H z16_22
             ·replace c56 := Bool.eq_false_iff.mpr c56
              subst c56
              have H1 : ((impl_JointProfits.f kj47 t450 t453 t454 t455).bind fun bt478 => ((spec_JointProfits.f kj47 t450 t453 t454 t455).bind fun bt482 => (if (bt478.2 != bt482.2) = true then (none) else ((impl_IsMarket.f kj47 t450 t453 t454 t455).bind fun t486 => (if (bt478.2 != t486) = true then (none) else ((laws_rInts.f kj47 bt478.1 bt482.1).bind fun t487 => (laws_FnProfits.j4 kj47 t462 t463 t466 t470 bt478.1 bt478.2 (!t487) t450 t453 t454 t455))))))) = some r := z16_14
              clear H
              have H := H1
              clear H1
              replace H := Option.bind_eq_some_iff.mp H
              obtain ⟨⟨t478, t481⟩, A570, H⟩ := H
              (try dsimp only at H)
              have A57 := z16_A A570
              clear A570
              replace H := Option.bind_eq_some_iff.mp H
              obtain ⟨⟨t482, t485⟩, A580, H⟩ := H
              (try dsimp only at H)
              have A58 := z16_A A580
              clear A580
              have HC59 := z16_A H
              clear H
              have hnb60 := NB460_461.out
              have hnc60 := NB461_460.out
              have hcz61_0 : wc.cell? ⟨gb460, 0, none⟩ = some (.slice Ao11 t450.length co11) := bcz BK460.out 0 rfl
              have hcz61_1 : wc.cell? ⟨gb460, 1, none⟩ = some (.int .i64 t453) := bcz BK460.out 1 rfl
              have hcz61_2 : wc.cell? ⟨gb460, 2, none⟩ = some (.int .i64 t454) := bcz BK460.out 2 rfl
              have hcz61_3 : wc.cell? ⟨gb460, 3, none⟩ = some (.int .i64 t455) := bcz BK460.out 3 rfl
              obtain ⟨hfz61_0, hfz61_1, hfz61_2, hfz61_3⟩ := F4z (blk_frozen BK460.out)
              go_upto_region 22 with (first | (go_at_call 53; (with_reducible refine (impl_JointProfits.calls kj47 _ _ t450 t453 t454 t455 t478 t481 _ ?side1 ?side2 A57.out).mono ?_); (case side1 => have zh := (Kd.R_reads' HO_461000.out).2.2; exact z16_C); (case side2 => exact (Kd.R_reads' HO_461000.out).2.1); rintro e w62 ⟨v479, rfl, ho0, hb⟩; have n0_ := z16_A (Kd.R_elder' z16_4 (Kd.R_base ho0) hb); have n1_ := z16_A (Kd.R_lower (Kd.R_new' ho0 (Kd.R_lt z16_4)) (below_size z16_1)); have n2_ := z16_A (blk_below (g := gb460) (o := .cells #[.slice Ao11 t450.length co11, .int .i64 t453, .int .i64 t454, .int .i64 t455] 30 (0, 0)) z16_2 hb); have n3_ := z16_A (blk_below (g := gb461) (o := .cells #[.int .i64 t456, .int .i64 t457, .int .i64 t458] 32 (0, 0)) z16_3 hb); have n4_ := z16_A (below_step z16_1 hb); clear HO_461000 BK460 BK461 HB; revert n0_ n1_ n2_ n3_ n4_; intro HO_461000 HO480 BK460 BK461 HB; (try clear hb); (try clear hb2); (try clear hk); (try clear hi); (try clear ho0); have hcz63_0 : w62.cell? ⟨gb460, 0, none⟩ = some (.slice Ao11 t450.length co11) := bcz BK460.out 0 rfl; have hcz63_1 : w62.cell? ⟨gb460, 1, none⟩ = some (.int .i64 t453) := bcz BK460.out 1 rfl; have hcz63_2 : w62.cell? ⟨gb460, 2, none⟩ = some (.int .i64 t454) := bcz BK460.out 2 rfl; have hcz63_3 : w62.cell? ⟨gb460, 3, none⟩ = some (.int .i64 t455) := bcz BK460.out 3 rfl; obtain ⟨hfz63_0, hfz63_1, hfz63_2, hfz63_3⟩ := F4z (blk_frozen BK460.out)) | (go_at_call 54; (with_reducible refine (spec_JointProfits.calls kj47 _ _ t450 t453 t454 t455 t482 t485 _ ?side1 ?side2 A58.out).mono ?_); (case side1 => have zh := (Kd.R_reads' HO_461000.out).2.2; exact z16_C); (case side2 => exact (Kd.R_reads' HO_461000.out).2.1); rintro e w64 ⟨v483, rfl, ho0, hb⟩; have n0_ := z16_A (Kd.R_elder' z16_4 (Kd.R_base ho0) hb); have n1_ := z16_A (Kd.R_elder' z16_16 (Kd.R_base ho0) hb); have n2_ := z16_A (Kd.R_lower (Kd.R_new' (Kd.R_new' ho0 (Kd.R_lt z16_4)) (Kd.R_lt z16_16)) (below_size z16_1)); have n3_ := z16_A (blk_below (g := gb460) (o := .cells #[.slice Ao11 t450.length co11, .int .i64 t453, .int .i64 t454, .int .i64 t455] 30 (0, 0)) z16_2 hb); have n4_ := z16_A (blk_below (g := gb461) (o := .cells #[.int .i64 t456, .int .i64 t457, .int .i64 t458] 32 (0, 0)) z16_3 hb); have n5_ := z16_A (below_step z16_1 hb); clear HO_461000 HO480 BK460 BK461 HB; revert n0_ n1_ n2_ n3_ n4_ n5_; intro HO_461000 HO480 HO484 BK460 BK461 HB; (try clear hb); (try clear hb2); (try clear hk); (try clear hi); (try clear ho0)))
              repeat (go_quiet (first | (go_at_call 53; (with_reducible refine (impl_JointProfits.calls kj47 _ _ t450 t453 t454 t455 t478 t481 _ ?side1 ?side2 A57.out).mono ?_); (case side1 => have zh := (Kd.R_reads' HO_461000.out).2.2; exact z16_C); (case side2 => exact (Kd.R_reads' HO_461000.out).2.1); rintro e w62 ⟨v479, rfl, ho0, hb⟩; have n0_ := z16_A (Kd.R_elder' z16_4 (Kd.R_base ho0) hb); have n1_ := z16_A (Kd.R_lower (Kd.R_new' ho0 (Kd.R_lt z16_4)) (below_size z16_1)); have n2_ := z16_A (blk_below (g := gb460) (o := .cells #[.slice Ao11 t450.length co11, .int .i64 t453, .int .i64 t454, .int .i64 t455] 30 (0, 0)) z16_2 hb); have n3_ := z16_A (blk_below (g := gb461) (o := .cells #[.int .i64 t456, .int .i64 t457, .int .i64 t458] 32 (0, 0)) z16_3 hb); have n4_ := z16_A (below_step z16_1 hb); clear HO_461000 BK460 BK461 HB; revert n0_ n1_ n2_ n3_ n4_; intro HO_461000 HO480 BK460 BK461 HB; (try clear hb); (try clear hb2); (try clear hk); (try clear hi); (try clear ho0); have hcz63_0 : w62.cell? ⟨gb460, 0, none⟩ = some (.slice Ao11 t450.length co11) := bcz BK460.out 0 rfl; have hcz63_1 : w62.cell? ⟨gb460, 1, none⟩ = some (.int .i64 t453) := bcz BK460.out 1 rfl; have hcz63_2 : w62.cell? ⟨gb460, 2, none⟩ = some (.int .i64 t454) := bcz BK460.out 2 rfl; have hcz63_3 : w62.cell? ⟨gb460, 3, none⟩ = some (.int .i64 t455) := bcz BK460.out 3 rfl; obtain ⟨hfz63_0, hfz63_1, hfz63_2, hfz63_3⟩ := F4z (blk_frozen BK460.out)) | (go_at_call 54; (with_reducible refine (spec_JointProfits.calls kj47 _ _ t450 t453 t454 t455 t482 t485 _ ?side1 ?side2 A58.out).mono ?_); (case side1 => have zh := (Kd.R_reads' HO_461000.out).2.2; exact z16_C); (case side2 => exact (Kd.R_reads' HO_461000.out).2.1); rintro e w64 ⟨v483, rfl, ho0, hb⟩; have n0_ := z16_A (Kd.R_elder' z16_4 (Kd.R_base ho0) hb); have n1_ := z16_A (Kd.R_elder' z16_16 (Kd.R_base ho0) hb); have n2_ := z16_A (Kd.R_lower (Kd.R_new' (Kd.R_new' ho0 (Kd.R_lt z16_4)) (Kd.R_lt z16_16)) (below_size z16_1)); have n3_ := z16_A (blk_below (g := gb460) (o := .cells #[.slice Ao11 t450.length co11, .int .i64 t453, .int .i64 t454, .int .i64 t455] 30 (0, 0)) z16_2 hb); have n4_ := z16_A (blk_below (g := gb461) (o := .cells #[.int .i64 t456, .int .i64 t457, .int .i64 t458] 32 (0, 0)) z16_3 hb); have n5_ := z16_A (below_step z16_1 hb); clear HO_461000 HO480 BK460 BK461 HB; revert n0_ n1_ n2_ n3_ n4_ n5_; intro HO_461000 HO480 HO484 BK460 BK461 HB; (try clear hb); (try clear hb2); (try clear hk); (try clear hi); (try clear ho0))); go_upto_region 22 with (first | (go_at_call 53; (with_reducible refine (impl_JointProfits.calls kj47 _ _ t450 t453 t454 t455 t478 t481 _ ?side1 ?side2 A57.out).mono ?_); (case side1 => have zh := (Kd.R_reads' HO_461000.out).2.2; exact z16_C); (case side2 => exact (Kd.R_reads' HO_461000.out).2.1); rintro e w62 ⟨v479, rfl, ho0, hb⟩; have n0_ := z16_A (Kd.R_elder' z16_4 (Kd.R_base ho0) hb); have n1_ := z16_A (Kd.R_lower (Kd.R_new' ho0 (Kd.R_lt z16_4)) (below_size z16_1)); have n2_ := z16_A (blk_below (g := gb460) (o := .cells #[.slice Ao11 t450.length co11, .int .i64 t453, .int .i64 t454, .int .i64 t455] 30 (0, 0)) z16_2 hb); have n3_ := z16_A (blk_below (g := gb461) (o := .cells #[.int .i64 t456, .int .i64 t457, .int .i64 t458] 32 (0, 0)) z16_3 hb); have n4_ := z16_A (below_step z16_1 hb); clear HO_461000 BK460 BK461 HB; revert n0_ n1_ n2_ n3_ n4_; intro HO_461000 HO480 BK460 BK461 HB; (try clear hb); (try clear hb2); (try clear hk); (try clear hi); (try clear ho0); have hcz63_0 : w62.cell? ⟨gb460, 0, none⟩ = some (.slice Ao11 t450.length co11) := bcz BK460.out 0 rfl; have hcz63_1 : w62.cell? ⟨gb460, 1, none⟩ = some (.int .i64 t453) := bcz BK460.out 1 rfl; have hcz63_2 : w62.cell? ⟨gb460, 2, none⟩ = some (.int .i64 t454) := bcz BK460.out 2 rfl; have hcz63_3 : w62.cell? ⟨gb460, 3, none⟩ = some (.int .i64 t455) := bcz BK460.out 3 rfl; obtain ⟨hfz63_0, hfz63_1, hfz63_2, hfz63_3⟩ := F4z (blk_frozen BK460.out)) | (go_at_call 54; (with_reducible refine (spec_JointProfits.calls kj47 _ _ t450 t453 t454 t455 t482 t485 _ ?side1 ?side2 A58.out).mono ?_); (case side1 => have zh := (Kd.R_reads' HO_461000.out).2.2; exact z16_C); (case side2 => exact (Kd.R_reads' HO_461000.out).2.1); rintro e w64 ⟨v483, rfl, ho0, hb⟩; have n0_ := z16_A (Kd.R_elder' z16_4 (Kd.R_base ho0) hb); have n1_ := z16_A (Kd.R_elder' z16_16 (Kd.R_base ho0) hb); have n2_ := z16_A (Kd.R_lower (Kd.R_new' (Kd.R_new' ho0 (Kd.R_lt z16_4)) (Kd.R_lt z16_16)) (below_size z16_1)); have n3_ := z16_A (blk_below (g := gb460) (o := .cells #[.slice Ao11 t450.length co11, .int .i64 t453, .int .i64 t454, .int .i64 t455] 30 (0, 0)) z16_2 hb); have n4_ := z16_A (blk_below (g := gb461) (o := .cells #[.int .i64 t456, .int .i64 t457, .int .i64 t458] 32 (0, 0)) z16_3 hb); have n5_ := z16_A (below_step z16_1 hb); clear HO_461000 HO480 BK460 BK461 HB; revert n0_ n1_ n2_ n3_ n4_ n5_; intro HO_461000 HO480 HO484 BK460 BK461 HB; (try clear hb); (try clear hb2); (try clear hk); (try clear hi); (try clear ho0))))
              (try simp only [Act.put, List.setIfInBounds_toArray, List.set_cons_zero, List.set_cons_succ])
              go_cut [177] (fun v177 wc => ∃ (kq : Nat) (x177_58 : Bool), v177 = .bool x177_58 ∧ Aside0 (laws_FnProfits.j4 kq t462 t463 t466 t470 t478 t481 x177_58 t450 t453 t454 t455 = some r) ∧ Aside0 (kq ≤ kj47) ∧ Aside0 (Kd.R (Kd.int .i64) 3 wc w.heap.size (fun k_ => some k_ ≠ ((.slice Ao11 t450.length co11) : Value).ownBlock) v479 t478) ∧ Aside0 (Kd.R (Kd.int .i64) 3 wc w.heap.size (fun k_ => z16_V k_ v479) (.slice Ao11 t450.length co11) t450) ∧ Aside0 (wc.heap[gb460]? = some (.cells #[(.slice Ao11 t450.length co11), .int .i64 t453, .int .i64 t454, .int .i64 t455] 30 (0, 0))) ∧ Aside0 (wc.heap[gb461]? = some (.cells #[.int .i64 t456, .int .i64 t457, .int .i64 t458] 32 (0, 0))) ∧ Aside0 (Below w.heap.size w wc))
              case first => as_aux_lemma =>
               have H := HC59.out
               clear HC59
               by_cases c65 : (t481 != t485) = true
               ·rw [if_pos c65] at H
                exact absurd H z16_22
               ·rw [if_neg c65] at H
                have c65b0 : (t481 != t485) = false := by simpa using c65
                (try (have c65b1 : decide (t481 = t485) = true := by simpa using c65))
                (try (have c65b2 : (t481 == t485) = true := by simpa using c65))
                clear c65
                (first | rw [c65b0] | (simp only [i64_w, i32_w]; rw [c65b0]) | skip)
                replace H := Option.bind_eq_some_iff.mp H
                obtain ⟨t486, A660, H⟩ := H
                (try dsimp only at H)
                have A66 := z16_A A660
                clear A660
                by_cases c67 : (t481 != t486) = true
                ·rw [if_pos c67] at H
                 exact absurd H z16_22
                ·rw [if_neg c67] at H
                 have c67b0 : (t481 != t486) = false := by simpa using c67
                 (try (have c67b1 : decide (t481 = t486) = true := by simpa using c67))
                 (try (have c67b2 : (t481 == t486) = true := by simpa using c67))
                 clear c67
                 replace H := Option.bind_eq_some_iff.mp H
                 obtain ⟨t487, A680, H⟩ := H
                 (try dsimp only at H)
                 have A68 := z16_A A680
                 clear A680
                 have H' := z16_A H
                 clear H
                 have hnb69 := NB460_461.out
                 have hnc69 := NB461_460.out
                 have hcz70_0 : w64.cell? ⟨gb460, 0, none⟩ = some (.slice Ao11 t450.length co11) := bcz BK460.out 0 rfl
                 have hcz70_1 : w64.cell? ⟨gb460, 1, none⟩ = some (.int .i64 t453) := bcz BK460.out 1 rfl
                 have hcz70_2 : w64.cell? ⟨gb460, 2, none⟩ = some (.int .i64 t454) := bcz BK460.out 2 rfl
                 have hcz70_3 : w64.cell? ⟨gb460, 3, none⟩ = some (.int .i64 t455) := bcz BK460.out 3 rfl
                 obtain ⟨hfz70_0, hfz70_1, hfz70_2, hfz70_3⟩ := F4z (blk_frozen BK460.out)
                 go_wp2_with (first | (go_at_call 42; (with_reducible refine (impl_IsMarket.calls kj47 _ _ t450 t453 t454 t455 t486 _ ?side1 ?side2 A66.out).mono ?_); (case side1 => have zh := (Kd.R_reads' HO_461000.out).2.2; exact z16_C); (case side2 => exact (Kd.R_reads' HO_461000.out).2.1); rintro e w71 ⟨rfl, hb⟩; have n0_ := z16_A (Kd.R_below z16_4 hb); have n1_ := z16_A (Kd.R_below z16_16 hb); have n2_ := z16_A (Kd.R_below z16_25 hb); have n3_ := z16_A (blk_below (g := gb460) (o := .cells #[.slice Ao11 t450.length co11, .int .i64 t453, .int .i64 t454, .int .i64 t455] 30 (0, 0)) z16_2 hb); have n4_ := z16_A (blk_below (g := gb461) (o := .cells #[.int .i64 t456, .int .i64 t457, .int .i64 t458] 32 (0, 0)) z16_3 hb); have n5_ := z16_A (below_step z16_1 hb); clear HO_461000 HO480 HO484 BK460 BK461 HB; revert n0_ n1_ n2_ n3_ n4_ n5_; intro HO_461000 HO480 HO484 BK460 BK461 HB; (try clear hb); (try clear hb2); (try clear hk); (try clear hi); obtain ⟨Ao72, co72, eo72⟩ := Kd.R_slice HO480.out; subst eo72; obtain ⟨Ao73, co73, eo73⟩ := Kd.R_slice HO484.out; subst eo73) | (go_at_call 55; (with_reducible refine (laws_rInts.calls kj47 _ _ t478 _ _ t482 t487 _ ?side1 ?side2 ?side3 ?side4 A68.out).mono ?_); (case side1 => have zh := (Kd.R_reads' HO480.out).2.2; exact z16_C); (case side2 => exact (Kd.R_reads' HO480.out).2.1); (case side3 => have zh := (Kd.R_reads' HO484.out).2.2; exact z16_C); (case side4 => exact (Kd.R_reads' HO484.out).2.1); rintro e w' ⟨rfl, ⟨nd, rfl⟩⟩; (try first | exact ⟨rfl, _, World.drewN_drewN _ _ _⟩ | exact ⟨rfl, _, Eq.trans (World.drewN_drewN _ _ _) (congrArg (World.drewN _) (Nat.add_assoc _ _ _))⟩)))
                 repeat (go_quiet (first | (go_at_call 42; (with_reducible refine (impl_IsMarket.calls kj47 _ _ t450 t453 t454 t455 t486 _ ?side1 ?side2 A66.out).mono ?_); (case side1 => have zh := (Kd.R_reads' HO_461000.out).2.2; exact z16_C); (case side2 => exact (Kd.R_reads' HO_461000.out).2.1); rintro e w71 ⟨rfl, hb⟩; have n0_ := z16_A (Kd.R_below z16_4 hb); have n1_ := z16_A (Kd.R_below z16_16 hb); have n2_ := z16_A (Kd.R_below z16_25 hb); have n3_ := z16_A (blk_below (g := gb460) (o := .cells #[.slice Ao11 t450.length co11, .int .i64 t453, .int .i64 t454, .int .i64 t455] 30 (0, 0)) z16_2 hb); have n4_ := z16_A (blk_below (g := gb461) (o := .cells #[.int .i64 t456, .int .i64 t457, .int .i64 t458] 32 (0, 0)) z16_3 hb); have n5_ := z16_A (below_step z16_1 hb); clear HO_461000 HO480 HO484 BK460 BK461 HB; revert n0_ n1_ n2_ n3_ n4_ n5_; intro HO_461000 HO480 HO484 BK460 BK461 HB; (try clear hb); (try clear hb2); (try clear hk); (try clear hi); obtain ⟨Ao72, co72, eo72⟩ := Kd.R_slice HO480.out; subst eo72; obtain ⟨Ao73, co73, eo73⟩ := Kd.R_slice HO484.out; subst eo73) | (go_at_call 55; (with_reducible refine (laws_rInts.calls kj47 _ _ t478 _ _ t482 t487 _ ?side1 ?side2 ?side3 ?side4 A68.out).mono ?_); (case side1 => have zh := (Kd.R_reads' HO480.out).2.2; exact z16_C); (case side2 => exact (Kd.R_reads' HO480.out).2.1); (case side3 => have zh := (Kd.R_reads' HO484.out).2.2; exact z16_C); (case side4 => exact (Kd.R_reads' HO484.out).2.1); rintro e w' ⟨rfl, ⟨nd, rfl⟩⟩; (try first | exact ⟨rfl, _, World.drewN_drewN _ _ _⟩ | exact ⟨rfl, _, Eq.trans (World.drewN_drewN _ _ _) (congrArg (World.drewN _) (Nat.add_assoc _ _ _))⟩))); try go_wp2_with (first | (go_at_call 42; (with_reducible refine (impl_IsMarket.calls kj47 _ _ t450 t453 t454 t455 t486 _ ?side1 ?side2 A66.out).mono ?_); (case side1 => have zh := (Kd.R_reads' HO_461000.out).2.2; exact z16_C); (case side2 => exact (Kd.R_reads' HO_461000.out).2.1); rintro e w71 ⟨rfl, hb⟩; have n0_ := z16_A (Kd.R_below z16_4 hb); have n1_ := z16_A (Kd.R_below z16_16 hb); have n2_ := z16_A (Kd.R_below z16_25 hb); have n3_ := z16_A (blk_below (g := gb460) (o := .cells #[.slice Ao11 t450.length co11, .int .i64 t453, .int .i64 t454, .int .i64 t455] 30 (0, 0)) z16_2 hb); have n4_ := z16_A (blk_below (g := gb461) (o := .cells #[.int .i64 t456, .int .i64 t457, .int .i64 t458] 32 (0, 0)) z16_3 hb); have n5_ := z16_A (below_step z16_1 hb); clear HO_461000 HO480 HO484 BK460 BK461 HB; revert n0_ n1_ n2_ n3_ n4_ n5_; intro HO_461000 HO480 HO484 BK460 BK461 HB; (try clear hb); (try clear hb2); (try clear hk); (try clear hi); obtain ⟨Ao72, co72, eo72⟩ := Kd.R_slice HO480.out; subst eo72; obtain ⟨Ao73, co73, eo73⟩ := Kd.R_slice HO484.out; subst eo73) | (go_at_call 55; (with_reducible refine (laws_rInts.calls kj47 _ _ t478 _ _ t482 t487 _ ?side1 ?side2 ?side3 ?side4 A68.out).mono ?_); (case side1 => have zh := (Kd.R_reads' HO480.out).2.2; exact z16_C); (case side2 => exact (Kd.R_reads' HO480.out).2.1); (case side3 => have zh := (Kd.R_reads' HO484.out).2.2; exact z16_C); (case side4 => exact (Kd.R_reads' HO484.out).2.1); rintro e w' ⟨rfl, ⟨nd, rfl⟩⟩; (try first | exact ⟨rfl, _, World.drewN_drewN _ _ _⟩ | exact ⟨rfl, _, Eq.trans (World.drewN_drewN _ _ _) (congrArg (World.drewN _) (Nat.add_assoc _ _ _))⟩))))
                 go_meet
                 case rel => exact ⟨_, (!t487), z16_15, H', ⟨by have := HJ6.out; have := HJ22.out; have := HJ35.out; have := HJ47.out; first | omega | exact Nat.le_refl _⟩, ⟨by (with_reducible repeat (first | apply Kd.R_alloc | apply Kd.R_drewN | apply Kd.R_drew)); exact Kd.R_mono HO480.out (fun _ hk => hk.1.2)⟩, ⟨by (with_reducible repeat (first | apply Kd.R_alloc | apply Kd.R_drewN | apply Kd.R_drew)); exact Kd.R_mono HO_461000.out (fun _ hk => hk.1.2)⟩, ⟨z16_2⟩, ⟨z16_3⟩, ⟨z16_1⟩⟩
              case rest => as_aux_lemma =>
               clear HC59
               (try clear c6); (try clear c56); (try clear c60); (try clear c65); (try clear c65b0); (try clear c65b1); (try clear c65b2); (try clear c67); (try clear c67b0); (try clear c67b1); (try clear c67b2); (try clear c69); (try clear hcz61_0); (try clear hcz61_1); (try clear hcz61_2); (try clear hcz61_3); (try clear hcz63_0); (try clear hcz63_1); (try clear hcz63_2); (try clear hcz63_3); (try clear hcz70_0); (try clear hcz70_1); (try clear hcz70_2); (try clear hcz70_3); (try clear hfz61_0); (try clear hfz61_1); (try clear hfz61_2); (try clear hfz61_3); (try clear hfz63_0); (try clear hfz63_1); (try clear hfz63_2); (try clear hfz63_3); (try clear hfz70_0); (try clear hfz70_1); (try clear hfz70_2); (try clear hfz70_3)
               obtain ⟨kq, x177_58, rfl, HA, HJ58, HO_22, HO_461000, BK460, BK461, HB⟩ := hcut
               cases kq with
               | zero => exact absurd HA.out (by simp [laws_FnProfits.j4])
               | succ kj58 =>
                have H := HA.out
                clear HA
                simp only [laws_FnProfits.j4] at H
                by_cases c74 : x177_58 = true
                ·subst c74
                 have H1 : (none) = some r := z16_18
                 clear H
                 have H := H1
                 clear H1
                 exact absurd H z16_22
                ·replace c74 := Bool.eq_false_iff.mpr c74
                 subst c74
                 have H1 : ((impl_JointOrder.f kj58 t450 t453 t454 t455).bind fun bt488 => ((spec_JointOrder.f kj58 t450 t453 t454 t455).bind fun bt490 => (if bt488.1 = bt490.1 then (if (bt488.2 != bt490.2) = true then (none) else (laws_FnProfits.j5 kj58 t462 t463 t466 t470 t478 t481 bt488.1 (bt488.2 != t481) t450 t453 t454 t455)) else (none)))) = some r := z16_14
                 clear H
                 have H := H1
                 clear H1
                 replace H := Option.bind_eq_some_iff.mp H
                 obtain ⟨⟨t488, t489⟩, A750, H⟩ := H
                 (try dsimp only at H)
                 have A75 := z16_A A750
                 clear A750
                 replace H := Option.bind_eq_some_iff.mp H
                 obtain ⟨⟨t490, t491⟩, A760, H⟩ := H
                 (try dsimp only at H)
                 have A76 := z16_A A760
                 clear A760
                 have HC77 := z16_A H
                 clear H
                 have hnb78 := NB460_461.out
                 have hnc78 := NB461_460.out
                 have hcz79_0 : wc.cell? ⟨gb460, 0, none⟩ = some (.slice Ao11 t450.length co11) := bcz BK460.out 0 rfl
                 have hcz79_1 : wc.cell? ⟨gb460, 1, none⟩ = some (.int .i64 t453) := bcz BK460.out 1 rfl
                 have hcz79_2 : wc.cell? ⟨gb460, 2, none⟩ = some (.int .i64 t454) := bcz BK460.out 2 rfl
                 have hcz79_3 : wc.cell? ⟨gb460, 3, none⟩ = some (.int .i64 t455) := bcz BK460.out 3 rfl
                 obtain ⟨hfz79_0, hfz79_1, hfz79_2, hfz79_3⟩ := F4z (blk_frozen BK460.out)
                 go_upto_region 26 with (first | (go_at_call 43; (with_reducible refine (impl_JointOrder.calls kj58 _ _ t450 t453 t454 t455 t488 t489 _ ?side1 ?side2 A75.out).mono ?_); (case side1 => have zh := (Kd.R_reads' HO_461000.out).2.2; exact z16_C); (case side2 => exact (Kd.R_reads' HO_461000.out).2.1); rintro e w80 ⟨rfl, hb⟩; have n0_ := z16_A (Kd.R_below z16_6 hb); have n1_ := z16_A (Kd.R_below z16_4 hb); have n2_ := z16_A (blk_below (g := gb460) (o := .cells #[.slice Ao11 t450.length co11, .int .i64 t453, .int .i64 t454, .int .i64 t455] 30 (0, 0)) z16_2 hb); have n3_ := z16_A (blk_below (g := gb461) (o := .cells #[.int .i64 t456, .int .i64 t457, .int .i64 t458] 32 (0, 0)) z16_3 hb); have n4_ := z16_A (below_step z16_1 hb); clear HO_22 HO_461000 BK460 BK461 HB; revert n0_ n1_ n2_ n3_ n4_; intro HO_22 HO_461000 BK460 BK461 HB; (try clear hb); (try clear hb2); (try clear hk); (try clear hi); have hcz81_0 : w80.cell? ⟨gb460, 0, none⟩ = some (.slice Ao11 t450.length co11) := bcz BK460.out 0 rfl; have hcz81_1 : w80.cell? ⟨gb460, 1, none⟩ = some (.int .i64 t453) := bcz BK460.out 1 rfl; have hcz81_2 : w80.cell? ⟨gb460, 2, none⟩ = some (.int .i64 t454) := bcz BK460.out 2 rfl; have hcz81_3 : w80.cell? ⟨gb460, 3, none⟩ = some (.int .i64 t455) := bcz BK460.out 3 rfl; obtain ⟨hfz81_0, hfz81_1, hfz81_2, hfz81_3⟩ := F4z (blk_frozen BK460.out)) | (go_at_call 56; (with_reducible refine (spec_JointOrder.calls kj58 _ _ t450 t453 t454 t455 t490 t491 _ ?side1 ?side2 A76.out).mono ?_); (case side1 => have zh := (Kd.R_reads' HO_461000.out).2.2; exact z16_C); (case side2 => exact (Kd.R_reads' HO_461000.out).2.1); rintro e w82 ⟨rfl, hb⟩; have n0_ := z16_A (Kd.R_below z16_6 hb); have n1_ := z16_A (Kd.R_below z16_4 hb); have n2_ := z16_A (blk_below (g := gb460) (o := .cells #[.slice Ao11 t450.length co11, .int .i64 t453, .int .i64 t454, .int .i64 t455] 30 (0, 0)) z16_2 hb); have n3_ := z16_A (blk_below (g := gb461) (o := .cells #[.int .i64 t456, .int .i64 t457, .int .i64 t458] 32 (0, 0)) z16_3 hb); have n4_ := z16_A (below_step z16_1 hb); clear HO_22 HO_461000 BK460 BK461 HB; revert n0_ n1_ n2_ n3_ n4_; intro HO_22 HO_461000 BK460 BK461 HB; (try clear hb); (try clear hb2); (try clear hk); (try clear hi)))
                 repeat (go_quiet (first | (go_at_call 43; (with_reducible refine (impl_JointOrder.calls kj58 _ _ t450 t453 t454 t455 t488 t489 _ ?side1 ?side2 A75.out).mono ?_); (case side1 => have zh := (Kd.R_reads' HO_461000.out).2.2; exact z16_C); (case side2 => exact (Kd.R_reads' HO_461000.out).2.1); rintro e w80 ⟨rfl, hb⟩; have n0_ := z16_A (Kd.R_below z16_6 hb); have n1_ := z16_A (Kd.R_below z16_4 hb); have n2_ := z16_A (blk_below (g := gb460) (o := .cells #[.slice Ao11 t450.length co11, .int .i64 t453, .int .i64 t454, .int .i64 t455] 30 (0, 0)) z16_2 hb); have n3_ := z16_A (blk_below (g := gb461) (o := .cells #[.int .i64 t456, .int .i64 t457, .int .i64 t458] 32 (0, 0)) z16_3 hb); have n4_ := z16_A (below_step z16_1 hb); clear HO_22 HO_461000 BK460 BK461 HB; revert n0_ n1_ n2_ n3_ n4_; intro HO_22 HO_461000 BK460 BK461 HB; (try clear hb); (try clear hb2); (try clear hk); (try clear hi); have hcz81_0 : w80.cell? ⟨gb460, 0, none⟩ = some (.slice Ao11 t450.length co11) := bcz BK460.out 0 rfl; have hcz81_1 : w80.cell? ⟨gb460, 1, none⟩ = some (.int .i64 t453) := bcz BK460.out 1 rfl; have hcz81_2 : w80.cell? ⟨gb460, 2, none⟩ = some (.int .i64 t454) := bcz BK460.out 2 rfl; have hcz81_3 : w80.cell? ⟨gb460, 3, none⟩ = some (.int .i64 t455) := bcz BK460.out 3 rfl; obtain ⟨hfz81_0, hfz81_1, hfz81_2, hfz81_3⟩ := F4z (blk_frozen BK460.out)) | (go_at_call 56; (with_reducible refine (spec_JointOrder.calls kj58 _ _ t450 t453 t454 t455 t490 t491 _ ?side1 ?side2 A76.out).mono ?_); (case side1 => have zh := (Kd.R_reads' HO_461000.out).2.2; exact z16_C); (case side2 => exact (Kd.R_reads' HO_461000.out).2.1); rintro e w82 ⟨rfl, hb⟩; have n0_ := z16_A (Kd.R_below z16_6 hb); have n1_ := z16_A (Kd.R_below z16_4 hb); have n2_ := z16_A (blk_below (g := gb460) (o := .cells #[.slice Ao11 t450.length co11, .int .i64 t453, .int .i64 t454, .int .i64 t455] 30 (0, 0)) z16_2 hb); have n3_ := z16_A (blk_below (g := gb461) (o := .cells #[.int .i64 t456, .int .i64 t457, .int .i64 t458] 32 (0, 0)) z16_3 hb); have n4_ := z16_A (below_step z16_1 hb); clear HO_22 HO_461000 BK460 BK461 HB; revert n0_ n1_ n2_ n3_ n4_; intro HO_22 HO_461000 BK460 BK461 HB; (try clear hb); (try clear hb2); (try clear hk); (try clear hi))); go_upto_region 26 with (first | (go_at_call 43; (with_reducible refine (impl_JointOrder.calls kj58 _ _ t450 t453 t454 t455 t488 t489 _ ?side1 ?side2 A75.out).mono ?_); (case side1 => have zh := (Kd.R_reads' HO_461000.out).2.2; exact z16_C); (case side2 => exact (Kd.R_reads' HO_461000.out).2.1); rintro e w80 ⟨rfl, hb⟩; have n0_ := z16_A (Kd.R_below z16_6 hb); have n1_ := z16_A (Kd.R_below z16_4 hb); have n2_ := z16_A (blk_below (g := gb460) (o := .cells #[.slice Ao11 t450.length co11, .int .i64 t453, .int .i64 t454, .int .i64 t455] 30 (0, 0)) z16_2 hb); have n3_ := z16_A (blk_below (g := gb461) (o := .cells #[.int .i64 t456, .int .i64 t457, .int .i64 t458] 32 (0, 0)) z16_3 hb); have n4_ := z16_A (below_step z16_1 hb); clear HO_22 HO_461000 BK460 BK461 HB; revert n0_ n1_ n2_ n3_ n4_; intro HO_22 HO_461000 BK460 BK461 HB; (try clear hb); (try clear hb2); (try clear hk); (try clear hi); have hcz81_0 : w80.cell? ⟨gb460, 0, none⟩ = some (.slice Ao11 t450.length co11) := bcz BK460.out 0 rfl; have hcz81_1 : w80.cell? ⟨gb460, 1, none⟩ = some (.int .i64 t453) := bcz BK460.out 1 rfl; have hcz81_2 : w80.cell? ⟨gb460, 2, none⟩ = some (.int .i64 t454) := bcz BK460.out 2 rfl; have hcz81_3 : w80.cell? ⟨gb460, 3, none⟩ = some (.int .i64 t455) := bcz BK460.out 3 rfl; obtain ⟨hfz81_0, hfz81_1, hfz81_2, hfz81_3⟩ := F4z (blk_frozen BK460.out)) | (go_at_call 56; (with_reducible refine (spec_JointOrder.calls kj58 _ _ t450 t453 t454 t455 t490 t491 _ ?side1 ?side2 A76.out).mono ?_); (case side1 => have zh := (Kd.R_reads' HO_461000.out).2.2; exact z16_C); (case side2 => exact (Kd.R_reads' HO_461000.out).2.1); rintro e w82 ⟨rfl, hb⟩; have n0_ := z16_A (Kd.R_below z16_6 hb); have n1_ := z16_A (Kd.R_below z16_4 hb); have n2_ := z16_A (blk_below (g := gb460) (o := .cells #[.slice Ao11 t450.length co11, .int .i64 t453, .int .i64 t454, .int .i64 t455] 30 (0, 0)) z16_2 hb); have n3_ := z16_A (blk_below (g := gb461) (o := .cells #[.int .i64 t456, .int .i64 t457, .int .i64 t458] 32 (0, 0)) z16_3 hb); have n4_ := z16_A (below_step z16_1 hb); clear HO_22 HO_461000 BK460 BK461 HB; revert n0_ n1_ n2_ n3_ n4_; intro HO_22 HO_461000 BK460 BK461 HB; (try clear hb); (try clear hb2); (try clear hk); (try clear hi))))
                 (try simp only [Act.put, List.setIfInBounds_toArray, List.set_cons_zero, List.set_cons_succ])
                 go_cut [200] (fun v200 wc => ∃ (kq : Nat) (x200_76 : Bool), v200 = .bool x200_76 ∧ Aside0 (laws_FnProfits.j5 kq t462 t463 t466 t470 t478 t481 t488 x200_76 t450 t453 t454 t455 = some r) ∧ Aside0 (kq ≤ kj58) ∧ Aside0 (Kd.R (Kd.int .i64) 3 wc w.heap.size (fun k_ => some k_ ≠ ((.slice Ao11 t450.length co11) : Value).ownBlock) v479 t478) ∧ Aside0 (Kd.R (Kd.int .i64) 3 wc w.heap.size (fun k_ => z16_V k_ v479) (.slice Ao11 t450.length co11) t450) ∧ Aside0 (wc.heap[gb460]? = some (.cells #[(.slice Ao11 t450.length co11), .int .i64 t453, .int .i64 t454, .int .i64 t455] 30 (0, 0))) ∧ Aside0 (wc.heap[gb461]? = some (.cells #[.int .i64 t456, .int .i64 t457, .int .i64 t458] 32 (0, 0))) ∧ Aside0 (Below w.heap.size w wc))
                 case first => as_aux_lemma =>
                  have H := HC77.out
                  clear HC77
                  by_cases c83 : t488 = t490
                  ·rw [if_pos c83] at H
                   have c83b0 : (t488 == t490) = true := beq_iff_eq.mpr c83
                   have c83b1 : (t488 != t490) = false := bne_eq_false_iff_eq.mpr c83
                   clear c83
                   (first | rw [c83b0] | (simp only [i64_w, i32_w]; rw [c83b0]) | skip)
                   by_cases c84 : (t489 != t491) = true
                   ·rw [if_pos c84] at H
                    exact absurd H z16_22
                   ·rw [if_neg c84] at H
                    have c84b0 : (t489 != t491) = false := by simpa using c84
                    (try (have c84b1 : decide (t489 = t491) = true := by simpa using c84))
                    (try (have c84b2 : (t489 == t491) = true := by simpa using c84))
                    clear c84
                    have H' := z16_A H
                    clear H
                    go_wp2
                    repeat (go_quiet (fail); try go_wp2)
                    go_meet
                    case rel => exact ⟨_, ((t489 != t481)), z16_15, H', ⟨by have := HJ6.out; have := HJ22.out; have := HJ35.out; have := HJ47.out; have := HJ58.out; first | omega | exact Nat.le_refl _⟩, ⟨z16_6⟩, ⟨z16_4⟩, ⟨z16_2⟩, ⟨z16_3⟩, ⟨z16_1⟩⟩
                  ·rw [if_neg c83] at H
                   exact absurd H z16_22
                 case rest => as_aux_lemma =>
                  clear HC77
                  (try clear c7); (try clear c8); (try clear c74); (try clear c78); (try clear c83); (try clear c83b0); (try clear c83b1); (try clear c84); (try clear c84b0); (try clear c84b1); (try clear c84b2); (try clear hcz79_0); (try clear hcz79_1); (try clear hcz79_2); (try clear hcz79_3); (try clear hcz81_0); (try clear hcz81_1); (try clear hcz81_2); (try clear hcz81_3); (try clear hfz79_0); (try clear hfz79_1); (try clear hfz79_2); (try clear hfz79_3); (try clear hfz81_0); (try clear hfz81_1); (try clear hfz81_2); (try clear hfz81_3)
                  obtain ⟨kq, x200_76, rfl, HA, HJ76, HO_22, HO_461000, BK460, BK461, HB⟩ := hcut
                  cases kq with
                  | zero => exact absurd HA.out (by simp [laws_FnProfits.j5])
                  | succ kj76 =>
                   have H := HA.out
                   clear HA
                   simp only [laws_FnProfits.j5] at H
                   by_cases c85 : x200_76 = true
                   ·subst c85
                    have H1 : (none) = some r := z16_18
                    clear H
                    have H := H1
                    clear H1
                    exact absurd H z16_22
                   ·replace c85 := Bool.eq_false_iff.mpr c85
                    subst c85
                    have H1 : ((impl_QuotientOrder.f kj76 t450 t453 t454 t455).bind fun bt492 => ((spec_QuotientOrder.f kj76 t450 t453 t454 t455).bind fun bt494 => (if bt492.1 = bt494.1 then (laws_FnProfits.j6 kj76 t462 t463 t466 t470 t478 t481 t488 bt492.1 bt492.2 (bt492.2 != bt494.2) t450 t453 t454 t455) else (none)))) = some r := z16_14
                    clear H
                    have H := H1
                    clear H1
                    replace H := Option.bind_eq_some_iff.mp H
                    obtain ⟨⟨t492, t493⟩, A860, H⟩ := H
                    (try dsimp only at H)
                    have A86 := z16_A A860
                    clear A860
                    replace H := Option.bind_eq_some_iff.mp H
                    obtain ⟨⟨t494, t495⟩, A870, H⟩ := H
                    (try dsimp only at H)
                    have A87 := z16_A A870
                    clear A870
                    have HC88 := z16_A H
                    clear H
                    have hnb89 := NB460_461.out
                    have hnc89 := NB461_460.out
                    have hcz90_0 : wc.cell? ⟨gb460, 0, none⟩ = some (.slice Ao11 t450.length co11) := bcz BK460.out 0 rfl
                    have hcz90_1 : wc.cell? ⟨gb460, 1, none⟩ = some (.int .i64 t453) := bcz BK460.out 1 rfl
                    have hcz90_2 : wc.cell? ⟨gb460, 2, none⟩ = some (.int .i64 t454) := bcz BK460.out 2 rfl
                    have hcz90_3 : wc.cell? ⟨gb460, 3, none⟩ = some (.int .i64 t455) := bcz BK460.out 3 rfl
                    obtain ⟨hfz90_0, hfz90_1, hfz90_2, hfz90_3⟩ := F4z (blk_frozen BK460.out)
                    go_upto_region 30 with (first | (go_at_call 57; (with_reducible refine (impl_QuotientOrder.calls kj76 _ _ t450 t453 t454 t455 t492 t493 _ ?side1 ?side2 A86.out).mono ?_); (case side1 => have zh := (Kd.R_reads' HO_461000.out).2.2; exact z16_C); (case side2 => exact (Kd.R_reads' HO_461000.out).2.1); rintro e w91 ⟨rfl, hb⟩; have n0_ := z16_A (Kd.R_below z16_6 hb); have n1_ := z16_A (Kd.R_below z16_4 hb); have n2_ := z16_A (blk_below (g := gb460) (o := .cells #[.slice Ao11 t450.length co11, .int .i64 t453, .int .i64 t454, .int .i64 t455] 30 (0, 0)) z16_2 hb); have n3_ := z16_A (blk_below (g := gb461) (o := .cells #[.int .i64 t456, .int .i64 t457, .int .i64 t458] 32 (0, 0)) z16_3 hb); have n4_ := z16_A (below_step z16_1 hb); clear HO_22 HO_461000 BK460 BK461 HB; revert n0_ n1_ n2_ n3_ n4_; intro HO_22 HO_461000 BK460 BK461 HB; (try clear hb); (try clear hb2); (try clear hk); (try clear hi); have hcz92_0 : w91.cell? ⟨gb460, 0, none⟩ = some (.slice Ao11 t450.length co11) := bcz BK460.out 0 rfl; have hcz92_1 : w91.cell? ⟨gb460, 1, none⟩ = some (.int .i64 t453) := bcz BK460.out 1 rfl; have hcz92_2 : w91.cell? ⟨gb460, 2, none⟩ = some (.int .i64 t454) := bcz BK460.out 2 rfl; have hcz92_3 : w91.cell? ⟨gb460, 3, none⟩ = some (.int .i64 t455) := bcz BK460.out 3 rfl; obtain ⟨hfz92_0, hfz92_1, hfz92_2, hfz92_3⟩ := F4z (blk_frozen BK460.out)) | (go_at_call 58; (with_reducible refine (spec_QuotientOrder.calls kj76 _ _ t450 t453 t454 t455 t494 t495 _ ?side1 ?side2 A87.out).mono ?_); (case side1 => have zh := (Kd.R_reads' HO_461000.out).2.2; exact z16_C); (case side2 => exact (Kd.R_reads' HO_461000.out).2.1); rintro e w93 ⟨rfl, hb⟩; have n0_ := z16_A (Kd.R_below z16_6 hb); have n1_ := z16_A (Kd.R_below z16_4 hb); have n2_ := z16_A (blk_below (g := gb460) (o := .cells #[.slice Ao11 t450.length co11, .int .i64 t453, .int .i64 t454, .int .i64 t455] 30 (0, 0)) z16_2 hb); have n3_ := z16_A (blk_below (g := gb461) (o := .cells #[.int .i64 t456, .int .i64 t457, .int .i64 t458] 32 (0, 0)) z16_3 hb); have n4_ := z16_A (below_step z16_1 hb); clear HO_22 HO_461000 BK460 BK461 HB; revert n0_ n1_ n2_ n3_ n4_; intro HO_22 HO_461000 BK460 BK461 HB; (try clear hb); (try clear hb2); (try clear hk); (try clear hi)))
                    repeat (go_quiet (first | (go_at_call 57; (with_reducible refine (impl_QuotientOrder.calls kj76 _ _ t450 t453 t454 t455 t492 t493 _ ?side1 ?side2 A86.out).mono ?_); (case side1 => have zh := (Kd.R_reads' HO_461000.out).2.2; exact z16_C); (case side2 => exact (Kd.R_reads' HO_461000.out).2.1); rintro e w91 ⟨rfl, hb⟩; have n0_ := z16_A (Kd.R_below z16_6 hb); have n1_ := z16_A (Kd.R_below z16_4 hb); have n2_ := z16_A (blk_below (g := gb460) (o := .cells #[.slice Ao11 t450.length co11, .int .i64 t453, .int .i64 t454, .int .i64 t455] 30 (0, 0)) z16_2 hb); have n3_ := z16_A (blk_below (g := gb461) (o := .cells #[.int .i64 t456, .int .i64 t457, .int .i64 t458] 32 (0, 0)) z16_3 hb); have n4_ := z16_A (below_step z16_1 hb); clear HO_22 HO_461000 BK460 BK461 HB; revert n0_ n1_ n2_ n3_ n4_; intro HO_22 HO_461000 BK460 BK461 HB; (try clear hb); (try clear hb2); (try clear hk); (try clear hi); have hcz92_0 : w91.cell? ⟨gb460, 0, none⟩ = some (.slice Ao11 t450.length co11) := bcz BK460.out 0 rfl; have hcz92_1 : w91.cell? ⟨gb460, 1, none⟩ = some (.int .i64 t453) := bcz BK460.out 1 rfl; have hcz92_2 : w91.cell? ⟨gb460, 2, none⟩ = some (.int .i64 t454) := bcz BK460.out 2 rfl; have hcz92_3 : w91.cell? ⟨gb460, 3, none⟩ = some (.int .i64 t455) := bcz BK460.out 3 rfl; obtain ⟨hfz92_0, hfz92_1, hfz92_2, hfz92_3⟩ := F4z (blk_frozen BK460.out)) | (go_at_call 58; (with_reducible refine (spec_QuotientOrder.calls kj76 _ _ t450 t453 t454 t455 t494 t495 _ ?side1 ?side2 A87.out).mono ?_); (case side1 => have zh := (Kd.R_reads' HO_461000.out).2.2; exact z16_C); (case side2 => exact (Kd.R_reads' HO_461000.out).2.1); rintro e w93 ⟨rfl, hb⟩; have n0_ := z16_A (Kd.R_below z16_6 hb); have n1_ := z16_A (Kd.R_below z16_4 hb); have n2_ := z16_A (blk_below (g := gb460) (o := .cells #[.slice Ao11 t450.length co11, .int .i64 t453, .int .i64 t454, .int .i64 t455] 30 (0, 0)) z16_2 hb); have n3_ := z16_A (blk_below (g := gb461) (o := .cells #[.int .i64 t456, .int .i64 t457, .int .i64 t458] 32 (0, 0)) z16_3 hb); have n4_ := z16_A (below_step z16_1 hb); clear HO_22 HO_461000 BK460 BK461 HB; revert n0_ n1_ n2_ n3_ n4_; intro HO_22 HO_461000 BK460 BK461 HB; (try clear hb); (try clear hb2); (try clear hk); (try clear hi))); go_upto_region 30 with (first | (go_at_call 57; (with_reducible refine (impl_QuotientOrder.calls kj76 _ _ t450 t453 t454 t455 t492 t493 _ ?side1 ?side2 A86.out).mono ?_); (case side1 => have zh := (Kd.R_reads' HO_461000.out).2.2; exact z16_C); (case side2 => exact (Kd.R_reads' HO_461000.out).2.1); rintro e w91 ⟨rfl, hb⟩; have n0_ := z16_A (Kd.R_below z16_6 hb); have n1_ := z16_A (Kd.R_below z16_4 hb); have n2_ := z16_A (blk_below (g := gb460) (o := .cells #[.slice Ao11 t450.length co11, .int .i64 t453, .int .i64 t454, .int .i64 t455] 30 (0, 0)) z16_2 hb); have n3_ := z16_A (blk_below (g := gb461) (o := .cells #[.int .i64 t456, .int .i64 t457, .int .i64 t458] 32 (0, 0)) z16_3 hb); have n4_ := z16_A (below_step z16_1 hb); clear HO_22 HO_461000 BK460 BK461 HB; revert n0_ n1_ n2_ n3_ n4_; intro HO_22 HO_461000 BK460 BK461 HB; (try clear hb); (try clear hb2); (try clear hk); (try clear hi); have hcz92_0 : w91.cell? ⟨gb460, 0, none⟩ = some (.slice Ao11 t450.length co11) := bcz BK460.out 0 rfl; have hcz92_1 : w91.cell? ⟨gb460, 1, none⟩ = some (.int .i64 t453) := bcz BK460.out 1 rfl; have hcz92_2 : w91.cell? ⟨gb460, 2, none⟩ = some (.int .i64 t454) := bcz BK460.out 2 rfl; have hcz92_3 : w91.cell? ⟨gb460, 3, none⟩ = some (.int .i64 t455) := bcz BK460.out 3 rfl; obtain ⟨hfz92_0, hfz92_1, hfz92_2, hfz92_3⟩ := F4z (blk_frozen BK460.out)) | (go_at_call 58; (with_reducible refine (spec_QuotientOrder.calls kj76 _ _ t450 t453 t454 t455 t494 t495 _ ?side1 ?side2 A87.out).mono ?_); (case side1 => have zh := (Kd.R_reads' HO_461000.out).2.2; exact z16_C); (case side2 => exact (Kd.R_reads' HO_461000.out).2.1); rintro e w93 ⟨rfl, hb⟩; have n0_ := z16_A (Kd.R_below z16_6 hb); have n1_ := z16_A (Kd.R_below z16_4 hb); have n2_ := z16_A (blk_below (g := gb460) (o := .cells #[.slice Ao11 t450.length co11, .int .i64 t453, .int .i64 t454, .int .i64 t455] 30 (0, 0)) z16_2 hb); have n3_ := z16_A (blk_below (g := gb461) (o := .cells #[.int .i64 t456, .int .i64 t457, .int .i64 t458] 32 (0, 0)) z16_3 hb); have n4_ := z16_A (below_step z16_1 hb); clear HO_22 HO_461000 BK460 BK461 HB; revert n0_ n1_ n2_ n3_ n4_; intro HO_22 HO_461000 BK460 BK461 HB; (try clear hb); (try clear hb2); (try clear hk); (try clear hi))))
                    (try simp only [Act.put, List.setIfInBounds_toArray, List.set_cons_zero, List.set_cons_succ])
                    go_cut [218] (fun v218 wc => ∃ (kq : Nat) (x218_87 : Bool), v218 = .bool x218_87 ∧ Aside0 (laws_FnProfits.j6 kq t462 t463 t466 t470 t478 t481 t488 t492 t493 x218_87 t450 t453 t454 t455 = some r) ∧ Aside0 (kq ≤ kj76) ∧ Aside0 (Kd.R (Kd.int .i64) 3 wc w.heap.size (fun k_ => some k_ ≠ ((.slice Ao11 t450.length co11) : Value).ownBlock) v479 t478) ∧ Aside0 (Kd.R (Kd.int .i64) 3 wc w.heap.size (fun k_ => z16_V k_ v479) (.slice Ao11 t450.length co11) t450) ∧ Aside0 (wc.heap[gb460]? = some (.cells #[(.slice Ao11 t450.length co11), .int .i64 t453, .int .i64 t454, .int .i64 t455] 30 (0, 0))) ∧ Aside0 (wc.heap[gb461]? = some (.cells #[.int .i64 t456, .int .i64 t457, .int .i64 t458] 32 (0, 0))) ∧ Aside0 (Below w.heap.size w wc))
                    case first => as_aux_lemma =>
                     have H := HC88.out
                     clear HC88
                     by_cases c94 : t492 = t494
                     ·rw [if_pos c94] at H
                      have c94b0 : (t492 == t494) = true := beq_iff_eq.mpr c94
                      have c94b1 : (t492 != t494) = false := bne_eq_false_iff_eq.mpr c94
                      clear c94
                      (first | rw [c94b0] | (simp only [i64_w, i32_w]; rw [c94b0]) | skip)
                      have H' := z16_A H
                      clear H
                      go_wp2
                      repeat (go_quiet (fail); try go_wp2)
                      go_meet
                      case rel => exact ⟨_, ((t493 != t495)), z16_15, H', ⟨by have := HJ6.out; have := HJ22.out; have := HJ35.out; have := HJ47.out; have := HJ58.out; have := HJ76.out; first | omega | exact Nat.le_refl _⟩, ⟨z16_6⟩, ⟨z16_4⟩, ⟨z16_2⟩, ⟨z16_3⟩, ⟨z16_1⟩⟩
                     ·rw [if_neg c94] at H
                      exact absurd H z16_22
                    case rest => as_aux_lemma =>
                     clear HC88
                     (try clear c85); (try clear c89); (try clear c94); (try clear c94b0); (try clear c94b1); (try clear hcz90_0); (try clear hcz90_1); (try clear hcz90_2); (try clear hcz90_3); (try clear hcz92_0); (try clear hcz92_1); (try clear hcz92_2); (try clear hcz92_3); (try clear hfz90_0); (try clear hfz90_1); (try clear hfz90_2); (try clear hfz90_3); (try clear hfz92_0); (try clear hfz92_1); (try clear hfz92_2); (try clear hfz92_3)
                     obtain ⟨kq, x218_87, rfl, HA, HJ87, HO_22, HO_461000, BK460, BK461, HB⟩ := hcut
                     cases kq with
                     | zero => exact absurd HA.out (by simp [laws_FnProfits.j6])
                     | succ kj87 =>
                      have H := HA.out
                      clear HA
                      simp only [laws_FnProfits.j6] at H
                      by_cases c95 : x218_87 = true
                      ·subst c95
                       have H1 : (none) = some r := z16_18
                       clear H
                       have H := H1
                       clear H1
                       exact absurd H z16_22
                      ·replace c95 := Bool.eq_false_iff.mpr c95
                       subst c95
                       have H1 : ((impl_PlainContracts.f kj87 t450 t453 t454 t455).bind fun bt496 => ((spec_PlainContracts.f kj87 t450 t453 t454 t455).bind fun bt500 => (if (bt496.2 != bt500.2) = true then (none) else (if (bt496.2 != t481) = true then (none) else ((laws_rPairs.f kj87 bt496.1 bt500.1).bind fun t504 => (laws_FnProfits.j7 kj87 t462 t463 t466 t470 t478 t481 t488 t492 t493 bt496.1 (!t504) t450 t453 t454 t455)))))) = some r := z16_14
                       clear H
                       have H := H1
                       clear H1
                       replace H := Option.bind_eq_some_iff.mp H
                       obtain ⟨⟨t496, t499⟩, A960, H⟩ := H
                       (try dsimp only at H)
                       have A96 := z16_A A960
                       clear A960
                       replace H := Option.bind_eq_some_iff.mp H
                       obtain ⟨⟨t500, t503⟩, A970, H⟩ := H
                       (try dsimp only at H)
                       have A97 := z16_A A970
                       clear A970
                       have HC98 := z16_A H
                       clear H
                       have hnb99 := NB460_461.out
                       have hnc99 := NB461_460.out
                       have hcz100_0 : wc.cell? ⟨gb460, 0, none⟩ = some (.slice Ao11 t450.length co11) := bcz BK460.out 0 rfl
                       have hcz100_1 : wc.cell? ⟨gb460, 1, none⟩ = some (.int .i64 t453) := bcz BK460.out 1 rfl
                       have hcz100_2 : wc.cell? ⟨gb460, 2, none⟩ = some (.int .i64 t454) := bcz BK460.out 2 rfl
                       have hcz100_3 : wc.cell? ⟨gb460, 3, none⟩ = some (.int .i64 t455) := bcz BK460.out 3 rfl
                       obtain ⟨hfz100_0, hfz100_1, hfz100_2, hfz100_3⟩ := F4z (blk_frozen BK460.out)
                       go_upto_region 34 with (first | (go_at_call 27; (with_reducible refine (impl_PlainContracts.calls kj87 _ _ t450 t453 t454 t455 t496 t499 _ ?side1 ?side2 A96.out).mono ?_); (case side1 => have zh := (Kd.R_reads' HO_461000.out).2.2; exact z16_C); (case side2 => exact (Kd.R_reads' HO_461000.out).2.1); rintro e w101 ⟨v497, rfl, ho0, hb⟩; have n0_ := z16_A (Kd.R_below z16_6 hb); have n1_ := z16_A (Kd.R_below z16_4 hb); have n2_ := z16_A (Kd.R_lower ho0 (below_size z16_1)); have n3_ := z16_A (blk_below (g := gb460) (o := .cells #[.slice Ao11 t450.length co11, .int .i64 t453, .int .i64 t454, .int .i64 t455] 30 (0, 0)) z16_2 hb); have n4_ := z16_A (blk_below (g := gb461) (o := .cells #[.int .i64 t456, .int .i64 t457, .int .i64 t458] 32 (0, 0)) z16_3 hb); have n5_ := z16_A (below_step z16_1 hb); clear HO_22 HO_461000 BK460 BK461 HB; revert n0_ n1_ n2_ n3_ n4_ n5_; intro HO_22 HO_461000 HO498 BK460 BK461 HB; (try clear hb); (try clear hb2); (try clear hk); (try clear hi); (try clear ho0); have hcz102_0 : w101.cell? ⟨gb460, 0, none⟩ = some (.slice Ao11 t450.length co11) := bcz BK460.out 0 rfl; have hcz102_1 : w101.cell? ⟨gb460, 1, none⟩ = some (.int .i64 t453) := bcz BK460.out 1 rfl; have hcz102_2 : w101.cell? ⟨gb460, 2, none⟩ = some (.int .i64 t454) := bcz BK460.out 2 rfl; have hcz102_3 : w101.cell? ⟨gb460, 3, none⟩ = some (.int .i64 t455) := bcz BK460.out 3 rfl; obtain ⟨hfz102_0, hfz102_1, hfz102_2, hfz102_3⟩ := F4z (blk_frozen BK460.out)) | (go_at_call 26; (with_reducible refine (spec_PlainContracts.calls kj87 _ _ t450 t453 t454 t455 t500 t503 _ ?side1 ?side2 A97.out).mono ?_); (case side1 => have zh := (Kd.R_reads' HO_461000.out).2.2; exact z16_C); (case side2 => exact (Kd.R_reads' HO_461000.out).2.1); rintro e w103 ⟨v501, rfl, ho0, hb⟩; have n0_ := z16_A (Kd.R_below z16_6 hb); have n1_ := z16_A (Kd.R_below z16_4 hb); have n2_ := z16_A (Kd.R_elder' z16_17 (Kd.R_base ho0) hb); have n3_ := z16_A (Kd.R_lower (Kd.R_new' ho0 (Kd.R_lt z16_17)) (below_size z16_1)); have n4_ := z16_A (blk_below (g := gb460) (o := .cells #[.slice Ao11 t450.length co11, .int .i64 t453, .int .i64 t454, .int .i64 t455] 30 (0, 0)) z16_2 hb); have n5_ := z16_A (blk_below (g := gb461) (o := .cells #[.int .i64 t456, .int .i64 t457, .int .i64 t458] 32 (0, 0)) z16_3 hb); have n6_ := z16_A (below_step z16_1 hb); clear HO_22 HO_461000 HO498 BK460 BK461 HB; revert n0_ n1_ n2_ n3_ n4_ n5_ n6_; intro HO_22 HO_461000 HO498 HO502 BK460 BK461 HB; (try clear hb); (try clear hb2); (try clear hk); (try clear hi); (try clear ho0)))
                       repeat (go_quiet (first | (go_at_call 27; (with_reducible refine (impl_PlainContracts.calls kj87 _ _ t450 t453 t454 t455 t496 t499 _ ?side1 ?side2 A96.out).mono ?_); (case side1 => have zh := (Kd.R_reads' HO_461000.out).2.2; exact z16_C); (case side2 => exact (Kd.R_reads' HO_461000.out).2.1); rintro e w101 ⟨v497, rfl, ho0, hb⟩; have n0_ := z16_A (Kd.R_below z16_6 hb); have n1_ := z16_A (Kd.R_below z16_4 hb); have n2_ := z16_A (Kd.R_lower ho0 (below_size z16_1)); have n3_ := z16_A (blk_below (g := gb460) (o := .cells #[.slice Ao11 t450.length co11, .int .i64 t453, .int .i64 t454, .int .i64 t455] 30 (0, 0)) z16_2 hb); have n4_ := z16_A (blk_below (g := gb461) (o := .cells #[.int .i64 t456, .int .i64 t457, .int .i64 t458] 32 (0, 0)) z16_3 hb); have n5_ := z16_A (below_step z16_1 hb); clear HO_22 HO_461000 BK460 BK461 HB; revert n0_ n1_ n2_ n3_ n4_ n5_; intro HO_22 HO_461000 HO498 BK460 BK461 HB; (try clear hb); (try clear hb2); (try clear hk); (try clear hi); (try clear ho0); have hcz102_0 : w101.cell? ⟨gb460, 0, none⟩ = some (.slice Ao11 t450.length co11) := bcz BK460.out 0 rfl; have hcz102_1 : w101.cell? ⟨gb460, 1, none⟩ = some (.int .i64 t453) := bcz BK460.out 1 rfl; have hcz102_2 : w101.cell? ⟨gb460, 2, none⟩ = some (.int .i64 t454) := bcz BK460.out 2 rfl; have hcz102_3 : w101.cell? ⟨gb460, 3, none⟩ = some (.int .i64 t455) := bcz BK460.out 3 rfl; obtain ⟨hfz102_0, hfz102_1, hfz102_2, hfz102_3⟩ := F4z (blk_frozen BK460.out)) | (go_at_call 26; (with_reducible refine (spec_PlainContracts.calls kj87 _ _ t450 t453 t454 t455 t500 t503 _ ?side1 ?side2 A97.out).mono ?_); (case side1 => have zh := (Kd.R_reads' HO_461000.out).2.2; exact z16_C); (case side2 => exact (Kd.R_reads' HO_461000.out).2.1); rintro e w103 ⟨v501, rfl, ho0, hb⟩; have n0_ := z16_A (Kd.R_below z16_6 hb); have n1_ := z16_A (Kd.R_below z16_4 hb); have n2_ := z16_A (Kd.R_elder' z16_17 (Kd.R_base ho0) hb); have n3_ := z16_A (Kd.R_lower (Kd.R_new' ho0 (Kd.R_lt z16_17)) (below_size z16_1)); have n4_ := z16_A (blk_below (g := gb460) (o := .cells #[.slice Ao11 t450.length co11, .int .i64 t453, .int .i64 t454, .int .i64 t455] 30 (0, 0)) z16_2 hb); have n5_ := z16_A (blk_below (g := gb461) (o := .cells #[.int .i64 t456, .int .i64 t457, .int .i64 t458] 32 (0, 0)) z16_3 hb); have n6_ := z16_A (below_step z16_1 hb); clear HO_22 HO_461000 HO498 BK460 BK461 HB; revert n0_ n1_ n2_ n3_ n4_ n5_ n6_; intro HO_22 HO_461000 HO498 HO502 BK460 BK461 HB; (try clear hb); (try clear hb2); (try clear hk); (try clear hi); (try clear ho0))); go_upto_region 34 with (first | (go_at_call 27; (with_reducible refine (impl_PlainContracts.calls kj87 _ _ t450 t453 t454 t455 t496 t499 _ ?side1 ?side2 A96.out).mono ?_); (case side1 => have zh := (Kd.R_reads' HO_461000.out).2.2; exact z16_C); (case side2 => exact (Kd.R_reads' HO_461000.out).2.1); rintro e w101 ⟨v497, rfl, ho0, hb⟩; have n0_ := z16_A (Kd.R_below z16_6 hb); have n1_ := z16_A (Kd.R_below z16_4 hb); have n2_ := z16_A (Kd.R_lower ho0 (below_size z16_1)); have n3_ := z16_A (blk_below (g := gb460) (o := .cells #[.slice Ao11 t450.length co11, .int .i64 t453, .int .i64 t454, .int .i64 t455] 30 (0, 0)) z16_2 hb); have n4_ := z16_A (blk_below (g := gb461) (o := .cells #[.int .i64 t456, .int .i64 t457, .int .i64 t458] 32 (0, 0)) z16_3 hb); have n5_ := z16_A (below_step z16_1 hb); clear HO_22 HO_461000 BK460 BK461 HB; revert n0_ n1_ n2_ n3_ n4_ n5_; intro HO_22 HO_461000 HO498 BK460 BK461 HB; (try clear hb); (try clear hb2); (try clear hk); (try clear hi); (try clear ho0); have hcz102_0 : w101.cell? ⟨gb460, 0, none⟩ = some (.slice Ao11 t450.length co11) := bcz BK460.out 0 rfl; have hcz102_1 : w101.cell? ⟨gb460, 1, none⟩ = some (.int .i64 t453) := bcz BK460.out 1 rfl; have hcz102_2 : w101.cell? ⟨gb460, 2, none⟩ = some (.int .i64 t454) := bcz BK460.out 2 rfl; have hcz102_3 : w101.cell? ⟨gb460, 3, none⟩ = some (.int .i64 t455) := bcz BK460.out 3 rfl; obtain ⟨hfz102_0, hfz102_1, hfz102_2, hfz102_3⟩ := F4z (blk_frozen BK460.out)) | (go_at_call 26; (with_reducible refine (spec_PlainContracts.calls kj87 _ _ t450 t453 t454 t455 t500 t503 _ ?side1 ?side2 A97.out).mono ?_); (case side1 => have zh := (Kd.R_reads' HO_461000.out).2.2; exact z16_C); (case side2 => exact (Kd.R_reads' HO_461000.out).2.1); rintro e w103 ⟨v501, rfl, ho0, hb⟩; have n0_ := z16_A (Kd.R_below z16_6 hb); have n1_ := z16_A (Kd.R_below z16_4 hb); have n2_ := z16_A (Kd.R_elder' z16_17 (Kd.R_base ho0) hb); have n3_ := z16_A (Kd.R_lower (Kd.R_new' ho0 (Kd.R_lt z16_17)) (below_size z16_1)); have n4_ := z16_A (blk_below (g := gb460) (o := .cells #[.slice Ao11 t450.length co11, .int .i64 t453, .int .i64 t454, .int .i64 t455] 30 (0, 0)) z16_2 hb); have n5_ := z16_A (blk_below (g := gb461) (o := .cells #[.int .i64 t456, .int .i64 t457, .int .i64 t458] 32 (0, 0)) z16_3 hb); have n6_ := z16_A (below_step z16_1 hb); clear HO_22 HO_461000 HO498 BK460 BK461 HB; revert n0_ n1_ n2_ n3_ n4_ n5_ n6_; intro HO_22 HO_461000 HO498 HO502 BK460 BK461 HB; (try clear hb); (try clear hb2); (try clear hk); (try clear hi); (try clear ho0))))
                       (try simp only [Act.put, List.setIfInBounds_toArray, List.set_cons_zero, List.set_cons_succ])
                       go_cut [242] (fun v242 wc => ∃ (kq : Nat) (x242_97 : Bool), v242 = .bool x242_97 ∧ Aside0 (laws_FnProfits.j7 kq t462 t463 t466 t470 t478 t481 t488 t492 t493 t496 x242_97 t450 t453 t454 t455 = some r) ∧ Aside0 (kq ≤ kj87) ∧ Aside0 (Kd.R (Kd.int .i64) 3 wc w.heap.size (fun k_ => some k_ ≠ ((.slice Ao11 t450.length co11) : Value).ownBlock) v479 t478) ∧ Aside0 (Kd.R k67 67 wc w.heap.size (fun _ => True) v497 t496) ∧ Aside0 (Kd.R (Kd.int .i64) 3 wc w.heap.size (fun k_ => z16_V k_ v479) (.slice Ao11 t450.length co11) t450) ∧ Aside0 (wc.heap[gb460]? = some (.cells #[(.slice Ao11 t450.length co11), .int .i64 t453, .int .i64 t454, .int .i64 t455] 30 (0, 0))) ∧ Aside0 (wc.heap[gb461]? = some (.cells #[.int .i64 t456, .int .i64 t457, .int .i64 t458] 32 (0, 0))) ∧ Aside0 (Below w.heap.size w wc))
                       case first => as_aux_lemma =>
                        have H := HC98.out
                        clear HC98
                        by_cases c104 : (t499 != t503) = true
                        ·rw [if_pos c104] at H
                         exact absurd H z16_22
                        ·rw [if_neg c104] at H
                         have c104b0 : (t499 != t503) = false := by simpa using c104
                         (try (have c104b1 : decide (t499 = t503) = true := by simpa using c104))
                         (try (have c104b2 : (t499 == t503) = true := by simpa using c104))
                         clear c104
                         (first | rw [c104b0] | (simp only [i64_w, i32_w]; rw [c104b0]) | skip)
                         by_cases c105 : (t499 != t481) = true
                         ·rw [if_pos c105] at H
                          exact absurd H z16_22
                         ·rw [if_neg c105] at H
                          have c105b0 : (t499 != t481) = false := by simpa using c105
                          (try (have c105b1 : decide (t499 = t481) = true := by simpa using c105))
                          (try (have c105b2 : (t499 == t481) = true := by simpa using c105))
                          clear c105
                          replace H := Option.bind_eq_some_iff.mp H
                          obtain ⟨t504, A1060, H⟩ := H
                          (try dsimp only at H)
                          have A106 := z16_A A1060
                          clear A1060
                          have H' := z16_A H
                          clear H
                          obtain ⟨Ao107, co107, eo107⟩ := Kd.R_slice HO498.out
                          subst eo107
                          obtain ⟨Ao108, co108, eo108⟩ := Kd.R_slice HO502.out
                          subst eo108
                          go_wp2_with (first | (go_at_call 59; (with_reducible refine (laws_rPairs.calls kj87 _ _ t496 _ _ t500 t504 _ ?side1 ?side2 ?side3 ?side4 A106.out).mono ?_); (case side1 => have zh := (Kd.R_reads' HO498.out).2.2; exact z16_C); (case side2 => exact (Kd.R_reads' HO498.out).2.1); (case side3 => have zh := (Kd.R_reads' HO502.out).2.2; exact z16_C); (case side4 => exact (Kd.R_reads' HO502.out).2.1); rintro e w' ⟨rfl, ⟨nd, rfl⟩⟩; (try first | exact ⟨rfl, _, World.drewN_drewN _ _ _⟩ | exact ⟨rfl, _, Eq.trans (World.drewN_drewN _ _ _) (congrArg (World.drewN _) (Nat.add_assoc _ _ _))⟩)))
                          repeat (go_quiet (first | (go_at_call 59; (with_reducible refine (laws_rPairs.calls kj87 _ _ t496 _ _ t500 t504 _ ?side1 ?side2 ?side3 ?side4 A106.out).mono ?_); (case side1 => have zh := (Kd.R_reads' HO498.out).2.2; exact z16_C); (case side2 => exact (Kd.R_reads' HO498.out).2.1); (case side3 => have zh := (Kd.R_reads' HO502.out).2.2; exact z16_C); (case side4 => exact (Kd.R_reads' HO502.out).2.1); rintro e w' ⟨rfl, ⟨nd, rfl⟩⟩; (try first | exact ⟨rfl, _, World.drewN_drewN _ _ _⟩ | exact ⟨rfl, _, Eq.trans (World.drewN_drewN _ _ _) (congrArg (World.drewN _) (Nat.add_assoc _ _ _))⟩))); try go_wp2_with (first | (go_at_call 59; (with_reducible refine (laws_rPairs.calls kj87 _ _ t496 _ _ t500 t504 _ ?side1 ?side2 ?side3 ?side4 A106.out).mono ?_); (case side1 => have zh := (Kd.R_reads' HO498.out).2.2; exact z16_C); (case side2 => exact (Kd.R_reads' HO498.out).2.1); (case side3 => have zh := (Kd.R_reads' HO502.out).2.2; exact z16_C); (case side4 => exact (Kd.R_reads' HO502.out).2.1); rintro e w' ⟨rfl, ⟨nd, rfl⟩⟩; (try first | exact ⟨rfl, _, World.drewN_drewN _ _ _⟩ | exact ⟨rfl, _, Eq.trans (World.drewN_drewN _ _ _) (congrArg (World.drewN _) (Nat.add_assoc _ _ _))⟩))))
                          go_meet
                          case rel => exact ⟨_, (!t504), z16_15, H', ⟨by have := HJ6.out; have := HJ22.out; have := HJ35.out; have := HJ47.out; have := HJ58.out; have := HJ76.out; have := HJ87.out; first | omega | exact Nat.le_refl _⟩, ⟨z16_6⟩, ⟨by (with_reducible repeat (first | apply Kd.R_alloc | apply Kd.R_drewN | apply Kd.R_drew)); exact Kd.R_mono HO498.out (fun _ hk => trivial)⟩, ⟨z16_4⟩, ⟨z16_2⟩, ⟨z16_3⟩, ⟨z16_1⟩⟩
                       case rest => as_aux_lemma =>
                        clear HC98
                        (try clear c10); (try clear c95); (try clear c99); (try clear c104); (try clear c104b0); (try clear c104b1); (try clear c104b2); (try clear c105); (try clear c105b0); (try clear c105b1); (try clear c105b2); (try clear hcz100_0); (try clear hcz100_1); (try clear hcz100_2); (try clear hcz100_3); (try clear hcz102_0); (try clear hcz102_1); (try clear hcz102_2); (try clear hcz102_3); (try clear hfz100_0); (try clear hfz100_1); (try clear hfz100_2); (try clear hfz100_3); (try clear hfz102_0); (try clear hfz102_1); (try clear hfz102_2); (try clear hfz102_3)
                        obtain ⟨kq, x242_97, rfl, HA, HJ97, HO_22, HO_34, HO_461000, BK460, BK461, HB⟩ := hcut
                        cases kq with
                        | zero => exact absurd HA.out (by simp [laws_FnProfits.j7])
                        | succ kj97 =>
                         have H := HA.out
                         clear HA
                         simp only [laws_FnProfits.j7] at H
                         by_cases c109 : x242_97 = true
                         ·subst c109
                          have H1 : (none) = some r := z16_18
                          clear H
                          have H := H1
                          clear H1
                          exact absurd H z16_22
                         ·replace c109 := Bool.eq_false_iff.mpr c109
                          subst c109
                          have H1 : ((impl_BestPlain.f kj97 t450 t453 t454 t455).bind fun bt505 => ((spec_BestPlain.f kj97 t450 t453 t454 t455).bind fun bt507 => (if bt505.1 = bt507.1 then (if (bt505.2 != bt507.2) = true then (none) else (laws_FnProfits.j8 kj97 t462 t463 t466 t470 t478 t481 t488 t492 t493 t496 bt505.1 (bt505.2 != t481) t450 t453 t454 t455)) else (none)))) = some r := z16_14
                          clear H
                          have H := H1
                          clear H1
                          replace H := Option.bind_eq_some_iff.mp H
                          obtain ⟨⟨t505, t506⟩, A1100, H⟩ := H
                          (try dsimp only at H)
                          have A110 := z16_A A1100
                          clear A1100
                          replace H := Option.bind_eq_some_iff.mp H
                          obtain ⟨⟨t507, t508⟩, A1110, H⟩ := H
                          (try dsimp only at H)
                          have A111 := z16_A A1110
                          clear A1110
                          have HC112 := z16_A H
                          clear H
                          have hnb113 := NB460_461.out
                          have hnc113 := NB461_460.out
                          have hcz114_0 : wc.cell? ⟨gb460, 0, none⟩ = some (.slice Ao11 t450.length co11) := bcz BK460.out 0 rfl
                          have hcz114_1 : wc.cell? ⟨gb460, 1, none⟩ = some (.int .i64 t453) := bcz BK460.out 1 rfl
                          have hcz114_2 : wc.cell? ⟨gb460, 2, none⟩ = some (.int .i64 t454) := bcz BK460.out 2 rfl
                          have hcz114_3 : wc.cell? ⟨gb460, 3, none⟩ = some (.int .i64 t455) := bcz BK460.out 3 rfl
                          obtain ⟨hfz114_0, hfz114_1, hfz114_2, hfz114_3⟩ := F4z (blk_frozen BK460.out)
                          go_upto_region 38 with (first | (go_at_call 19; (with_reducible refine (impl_BestPlain.calls kj97 _ _ t450 t453 t454 t455 t505 t506 _ ?side1 ?side2 A110.out).mono ?_); (case side1 => have zh := (Kd.R_reads' HO_461000.out).2.2; exact z16_C); (case side2 => exact (Kd.R_reads' HO_461000.out).2.1); rintro e w115 ⟨rfl, hb⟩; have n0_ := z16_A (Kd.R_below z16_6 hb); have n1_ := z16_A (Kd.R_below z16_10 hb); have n2_ := z16_A (Kd.R_below z16_4 hb); have n3_ := z16_A (blk_below (g := gb460) (o := .cells #[.slice Ao11 t450.length co11, .int .i64 t453, .int .i64 t454, .int .i64 t455] 30 (0, 0)) z16_2 hb); have n4_ := z16_A (blk_below (g := gb461) (o := .cells #[.int .i64 t456, .int .i64 t457, .int .i64 t458] 32 (0, 0)) z16_3 hb); have n5_ := z16_A (below_step z16_1 hb); clear HO_22 HO_34 HO_461000 BK460 BK461 HB; revert n0_ n1_ n2_ n3_ n4_ n5_; intro HO_22 HO_34 HO_461000 BK460 BK461 HB; (try clear hb); (try clear hb2); (try clear hk); (try clear hi); have hcz116_0 : w115.cell? ⟨gb460, 0, none⟩ = some (.slice Ao11 t450.length co11) := bcz BK460.out 0 rfl; have hcz116_1 : w115.cell? ⟨gb460, 1, none⟩ = some (.int .i64 t453) := bcz BK460.out 1 rfl; have hcz116_2 : w115.cell? ⟨gb460, 2, none⟩ = some (.int .i64 t454) := bcz BK460.out 2 rfl; have hcz116_3 : w115.cell? ⟨gb460, 3, none⟩ = some (.int .i64 t455) := bcz BK460.out 3 rfl; obtain ⟨hfz116_0, hfz116_1, hfz116_2, hfz116_3⟩ := F4z (blk_frozen BK460.out)) | (go_at_call 18; (with_reducible refine (spec_BestPlain.calls kj97 _ _ t450 t453 t454 t455 t507 t508 _ ?side1 ?side2 A111.out).mono ?_); (case side1 => have zh := (Kd.R_reads' HO_461000.out).2.2; exact z16_C); (case side2 => exact (Kd.R_reads' HO_461000.out).2.1); rintro e w117 ⟨rfl, hb⟩; have n0_ := z16_A (Kd.R_below z16_6 hb); have n1_ := z16_A (Kd.R_below z16_10 hb); have n2_ := z16_A (Kd.R_below z16_4 hb); have n3_ := z16_A (blk_below (g := gb460) (o := .cells #[.slice Ao11 t450.length co11, .int .i64 t453, .int .i64 t454, .int .i64 t455] 30 (0, 0)) z16_2 hb); have n4_ := z16_A (blk_below (g := gb461) (o := .cells #[.int .i64 t456, .int .i64 t457, .int .i64 t458] 32 (0, 0)) z16_3 hb); have n5_ := z16_A (below_step z16_1 hb); clear HO_22 HO_34 HO_461000 BK460 BK461 HB; revert n0_ n1_ n2_ n3_ n4_ n5_; intro HO_22 HO_34 HO_461000 BK460 BK461 HB; (try clear hb); (try clear hb2); (try clear hk); (try clear hi)))
                          repeat (go_quiet (first | (go_at_call 19; (with_reducible refine (impl_BestPlain.calls kj97 _ _ t450 t453 t454 t455 t505 t506 _ ?side1 ?side2 A110.out).mono ?_); (case side1 => have zh := (Kd.R_reads' HO_461000.out).2.2; exact z16_C); (case side2 => exact (Kd.R_reads' HO_461000.out).2.1); rintro e w115 ⟨rfl, hb⟩; have n0_ := z16_A (Kd.R_below z16_6 hb); have n1_ := z16_A (Kd.R_below z16_10 hb); have n2_ := z16_A (Kd.R_below z16_4 hb); have n3_ := z16_A (blk_below (g := gb460) (o := .cells #[.slice Ao11 t450.length co11, .int .i64 t453, .int .i64 t454, .int .i64 t455] 30 (0, 0)) z16_2 hb); have n4_ := z16_A (blk_below (g := gb461) (o := .cells #[.int .i64 t456, .int .i64 t457, .int .i64 t458] 32 (0, 0)) z16_3 hb); have n5_ := z16_A (below_step z16_1 hb); clear HO_22 HO_34 HO_461000 BK460 BK461 HB; revert n0_ n1_ n2_ n3_ n4_ n5_; intro HO_22 HO_34 HO_461000 BK460 BK461 HB; (try clear hb); (try clear hb2); (try clear hk); (try clear hi); have hcz116_0 : w115.cell? ⟨gb460, 0, none⟩ = some (.slice Ao11 t450.length co11) := bcz BK460.out 0 rfl; have hcz116_1 : w115.cell? ⟨gb460, 1, none⟩ = some (.int .i64 t453) := bcz BK460.out 1 rfl; have hcz116_2 : w115.cell? ⟨gb460, 2, none⟩ = some (.int .i64 t454) := bcz BK460.out 2 rfl; have hcz116_3 : w115.cell? ⟨gb460, 3, none⟩ = some (.int .i64 t455) := bcz BK460.out 3 rfl; obtain ⟨hfz116_0, hfz116_1, hfz116_2, hfz116_3⟩ := F4z (blk_frozen BK460.out)) | (go_at_call 18; (with_reducible refine (spec_BestPlain.calls kj97 _ _ t450 t453 t454 t455 t507 t508 _ ?side1 ?side2 A111.out).mono ?_); (case side1 => have zh := (Kd.R_reads' HO_461000.out).2.2; exact z16_C); (case side2 => exact (Kd.R_reads' HO_461000.out).2.1); rintro e w117 ⟨rfl, hb⟩; have n0_ := z16_A (Kd.R_below z16_6 hb); have n1_ := z16_A (Kd.R_below z16_10 hb); have n2_ := z16_A (Kd.R_below z16_4 hb); have n3_ := z16_A (blk_below (g := gb460) (o := .cells #[.slice Ao11 t450.length co11, .int .i64 t453, .int .i64 t454, .int .i64 t455] 30 (0, 0)) z16_2 hb); have n4_ := z16_A (blk_below (g := gb461) (o := .cells #[.int .i64 t456, .int .i64 t457, .int .i64 t458] 32 (0, 0)) z16_3 hb); have n5_ := z16_A (below_step z16_1 hb); clear HO_22 HO_34 HO_461000 BK460 BK461 HB; revert n0_ n1_ n2_ n3_ n4_ n5_; intro HO_22 HO_34 HO_461000 BK460 BK461 HB; (try clear hb); (try clear hb2); (try clear hk); (try clear hi))); go_upto_region 38 with (first | (go_at_call 19; (with_reducible refine (impl_BestPlain.calls kj97 _ _ t450 t453 t454 t455 t505 t506 _ ?side1 ?side2 A110.out).mono ?_); (case side1 => have zh := (Kd.R_reads' HO_461000.out).2.2; exact z16_C); (case side2 => exact (Kd.R_reads' HO_461000.out).2.1); rintro e w115 ⟨rfl, hb⟩; have n0_ := z16_A (Kd.R_below z16_6 hb); have n1_ := z16_A (Kd.R_below z16_10 hb); have n2_ := z16_A (Kd.R_below z16_4 hb); have n3_ := z16_A (blk_below (g := gb460) (o := .cells #[.slice Ao11 t450.length co11, .int .i64 t453, .int .i64 t454, .int .i64 t455] 30 (0, 0)) z16_2 hb); have n4_ := z16_A (blk_below (g := gb461) (o := .cells #[.int .i64 t456, .int .i64 t457, .int .i64 t458] 32 (0, 0)) z16_3 hb); have n5_ := z16_A (below_step z16_1 hb); clear HO_22 HO_34 HO_461000 BK460 BK461 HB; revert n0_ n1_ n2_ n3_ n4_ n5_; intro HO_22 HO_34 HO_461000 BK460 BK461 HB; (try clear hb); (try clear hb2); (try clear hk); (try clear hi); have hcz116_0 : w115.cell? ⟨gb460, 0, none⟩ = some (.slice Ao11 t450.length co11) := bcz BK460.out 0 rfl; have hcz116_1 : w115.cell? ⟨gb460, 1, none⟩ = some (.int .i64 t453) := bcz BK460.out 1 rfl; have hcz116_2 : w115.cell? ⟨gb460, 2, none⟩ = some (.int .i64 t454) := bcz BK460.out 2 rfl; have hcz116_3 : w115.cell? ⟨gb460, 3, none⟩ = some (.int .i64 t455) := bcz BK460.out 3 rfl; obtain ⟨hfz116_0, hfz116_1, hfz116_2, hfz116_3⟩ := F4z (blk_frozen BK460.out)) | (go_at_call 18; (with_reducible refine (spec_BestPlain.calls kj97 _ _ t450 t453 t454 t455 t507 t508 _ ?side1 ?side2 A111.out).mono ?_); (case side1 => have zh := (Kd.R_reads' HO_461000.out).2.2; exact z16_C); (case side2 => exact (Kd.R_reads' HO_461000.out).2.1); rintro e w117 ⟨rfl, hb⟩; have n0_ := z16_A (Kd.R_below z16_6 hb); have n1_ := z16_A (Kd.R_below z16_10 hb); have n2_ := z16_A (Kd.R_below z16_4 hb); have n3_ := z16_A (blk_below (g := gb460) (o := .cells #[.slice Ao11 t450.length co11, .int .i64 t453, .int .i64 t454, .int .i64 t455] 30 (0, 0)) z16_2 hb); have n4_ := z16_A (blk_below (g := gb461) (o := .cells #[.int .i64 t456, .int .i64 t457, .int .i64 t458] 32 (0, 0)) z16_3 hb); have n5_ := z16_A (below_step z16_1 hb); clear HO_22 HO_34 HO_461000 BK460 BK461 HB; revert n0_ n1_ n2_ n3_ n4_ n5_; intro HO_22 HO_34 HO_461000 BK460 BK461 HB; (try clear hb); (try clear hb2); (try clear hk); (try clear hi))))
                          (try simp only [Act.put, List.setIfInBounds_toArray, List.set_cons_zero, List.set_cons_succ])
                          go_cut [265] (fun v265 wc => ∃ (kq : Nat) (x265_111 : Bool), v265 = .bool x265_111 ∧ Aside0 (laws_FnProfits.j8 kq t462 t463 t466 t470 t478 t481 t488 t492 t493 t496 t505 x265_111 t450 t453 t454 t455 = some r) ∧ Aside0 (kq ≤ kj97) ∧ Aside0 (Kd.R (Kd.int .i64) 3 wc w.heap.size (fun k_ => some k_ ≠ ((.slice Ao11 t450.length co11) : Value).ownBlock) v479 t478) ∧ Aside0 (Kd.R k67 67 wc w.heap.size (fun _ => True) v497 t496) ∧ Aside0 (Kd.R (Kd.int .i64) 3 wc w.heap.size (fun k_ => z16_V k_ v479) (.slice Ao11 t450.length co11) t450) ∧ Aside0 (wc.heap[gb460]? = some (.cells #[(.slice Ao11 t450.length co11), .int .i64 t453, .int .i64 t454, .int .i64 t455] 30 (0, 0))) ∧ Aside0 (wc.heap[gb461]? = some (.cells #[.int .i64 t456, .int .i64 t457, .int .i64 t458] 32 (0, 0))) ∧ Aside0 (Below w.heap.size w wc))
                          case first => as_aux_lemma =>
                           have H := HC112.out
                           clear HC112
                           by_cases c118 : t505 = t507
                           ·rw [if_pos c118] at H
                            have c118b0 : (t505 == t507) = true := beq_iff_eq.mpr c118
                            have c118b1 : (t505 != t507) = false := bne_eq_false_iff_eq.mpr c118
                            clear c118
                            (first | rw [c118b0] | (simp only [i64_w, i32_w]; rw [c118b0]) | skip)
                            by_cases c119 : (t506 != t508) = true
                            ·rw [if_pos c119] at H
                             exact absurd H z16_22
                            ·rw [if_neg c119] at H
                             have c119b0 : (t506 != t508) = false := by simpa using c119
                             (try (have c119b1 : decide (t506 = t508) = true := by simpa using c119))
                             (try (have c119b2 : (t506 == t508) = true := by simpa using c119))
                             clear c119
                             have H' := z16_A H
                             clear H
                             go_wp2
                             repeat (go_quiet (fail); try go_wp2)
                             go_meet
                             case rel => exact ⟨_, ((t506 != t481)), z16_15, H', ⟨by have := HJ6.out; have := HJ22.out; have := HJ35.out; have := HJ47.out; have := HJ58.out; have := HJ76.out; have := HJ87.out; have := HJ97.out; first | omega | exact Nat.le_refl _⟩, ⟨z16_6⟩, ⟨z16_10⟩, ⟨z16_4⟩, ⟨z16_2⟩, ⟨z16_3⟩, ⟨z16_1⟩⟩
                           ·rw [if_neg c118] at H
                            exact absurd H z16_22
                          case rest => as_aux_lemma =>
                           clear HC112
                           (try clear c11); (try clear c109); (try clear c113); (try clear c118); (try clear c118b0); (try clear c118b1); (try clear c119); (try clear c119b0); (try clear c119b1); (try clear c119b2); (try clear hcz114_0); (try clear hcz114_1); (try clear hcz114_2); (try clear hcz114_3); (try clear hcz116_0); (try clear hcz116_1); (try clear hcz116_2); (try clear hcz116_3); (try clear hfz114_0); (try clear hfz114_1); (try clear hfz114_2); (try clear hfz114_3); (try clear hfz116_0); (try clear hfz116_1); (try clear hfz116_2); (try clear hfz116_3)
                           obtain ⟨kq, x265_111, rfl, HA, HJ111, HO_22, HO_34, HO_461000, BK460, BK461, HB⟩ := hcut
                           cases kq with
                           | zero => exact absurd HA.out (by simp [laws_FnProfits.j8])
                           | succ kj111 =>
                            have H := HA.out
                            clear HA
                            simp only [laws_FnProfits.j8] at H
                            by_cases c120 : x265_111 = true
                            ·subst c120
                             have H1 : (none) = some r := z16_18
                             clear H
                             have H := H1
                             clear H1
                             exact absurd H z16_22
                            ·replace c120 := Bool.eq_false_iff.mpr c120
                             subst c120
                             have H1 : (if t463 = true then (laws_FnProfits.j9 kj111 t478 t481 t488 t492 t493 t496 t505 ((wrap64 (t462 + t466)) != t470) t450 t453 t454 t455) else (laws_FnProfits.j9 kj111 t478 t481 t488 t492 t493 t496 t505 false t450 t453 t454 t455)) = some r := z16_14
                             clear H
                             have H := H1
                             clear H1
                             have HC121 := z16_A H
                             clear H
                             go_upto_region 40 with (fail)
                             repeat (go_quiet (fail); go_upto_region 40 with (fail))
                             go_cut [273] (fun v273 wc => ∃ (kq : Nat) (x273_120 : Bool), v273 = .bool x273_120 ∧ Aside0 (laws_FnProfits.j9 kq t478 t481 t488 t492 t493 t496 t505 x273_120 t450 t453 t454 t455 = some r) ∧ Aside0 (kq ≤ kj111) ∧ Aside0 (Kd.R (Kd.int .i64) 3 wc w.heap.size (fun k_ => some k_ ≠ ((.slice Ao11 t450.length co11) : Value).ownBlock) v479 t478) ∧ Aside0 (Kd.R k67 67 wc w.heap.size (fun _ => True) v497 t496) ∧ Aside0 (Kd.R (Kd.int .i64) 3 wc w.heap.size (fun k_ => z16_V k_ v479) (.slice Ao11 t450.length co11) t450) ∧ Aside0 (wc.heap[gb460]? = some (.cells #[(.slice Ao11 t450.length co11), .int .i64 t453, .int .i64 t454, .int .i64 t455] 30 (0, 0))) ∧ Aside0 (wc.heap[gb461]? = some (.cells #[.int .i64 t456, .int .i64 t457, .int .i64 t458] 32 (0, 0))) ∧ Aside0 (Below w.heap.size w wc))
                             case first => as_aux_lemma =>
                              have H := HC121.out
                              clear HC121
                              by_cases c122 : t463 = true
                              ·subst c122
                               have H1 : (laws_FnProfits.j9 kj111 t478 t481 t488 t492 t493 t496 t505 ((wrap64 (t462 + t466)) != t470) t450 t453 t454 t455) = some r := z16_18
                               clear H
                               have H := H1
                               clear H1
                               have H' := z16_A H
                               clear H
                               go_wp2
                               repeat (go_quiet (fail); try go_wp2)
                               go_meet
                               case rel => exact ⟨_, (((wrap64 (t462 + t466)) != t470)), z16_15, H', ⟨z16_26⟩, ⟨z16_6⟩, ⟨z16_10⟩, ⟨z16_4⟩, ⟨z16_2⟩, ⟨z16_3⟩, ⟨z16_1⟩⟩
                              ·replace c122 := Bool.eq_false_iff.mpr c122
                               subst c122
                               have H1 : (laws_FnProfits.j9 kj111 t478 t481 t488 t492 t493 t496 t505 false t450 t453 t454 t455) = some r := z16_14
                               clear H
                               have H := H1
                               clear H1
                               have H' := z16_A H
                               clear H
                               go_wp2
                               repeat (go_quiet (fail); try go_wp2)
                               go_meet
                               case rel => exact ⟨_, (false), z16_15, H', ⟨z16_26⟩, ⟨z16_6⟩, ⟨z16_10⟩, ⟨z16_4⟩, ⟨z16_2⟩, ⟨z16_3⟩, ⟨z16_1⟩⟩
                             case rest => as_aux_lemma =>
                              clear HC121
                              (try clear p6); (try clear p64); (try clear c120); (try clear c122)
                              obtain ⟨kq, x273_120, rfl, HA, HJ120, HO_22, HO_34, HO_461000, BK460, BK461, HB⟩ := hcut
                              cases kq with
                              | zero => exact absurd HA.out (by simp [laws_FnProfits.j9])
                              | succ kj120 =>
                               have H := HA.out
                               clear HA
                               simp only [laws_FnProfits.j9] at H
                               by_cases c123 : x273_120 = true
                               ·subst c123
                                have H1 : (none) = some r := z16_18
                                clear H
                                have H := H1
                                clear H1
                                exact absurd H z16_22
                               ·replace c123 := Bool.eq_false_iff.mpr c123
                                subst c123
                                have H1 : (if t481 = true then (if t493 = true then (laws_FnProfits.j10 kj120 t478 t488 t496 t505 (t492 != t488) t450 t453 t454 t455) else (laws_FnProfits.j10 kj120 t478 t488 t496 t505 false t450 t453 t454 t455)) else (some true)) = some r := z16_14
                                clear H
                                have H := H1
                                clear H1
                                by_cases c124 : t481 = true
                                ·subst c124
                                 have H1 : (if t493 = true then (laws_FnProfits.j10 kj120 t478 t488 t496 t505 (t492 != t488) t450 t453 t454 t455) else (laws_FnProfits.j10 kj120 t478 t488 t496 t505 false t450 t453 t454 t455)) = some r := z16_18
                                 clear H
                                 have H := H1
                                 clear H1
                                 have HC125 := z16_A H
                                 clear H
                                 go_upto_region 44 with (fail)
                                 repeat (go_quiet (fail); go_upto_region 44 with (fail))
                                 go_cut [281] (fun v281 wc => ∃ (kq : Nat) (x281_124 : Bool), v281 = .bool x281_124 ∧ Aside0 (laws_FnProfits.j10 kq t478 t488 t496 t505 x281_124 t450 t453 t454 t455 = some r) ∧ Aside0 (kq ≤ kj120) ∧ Aside0 (Kd.R (Kd.int .i64) 3 wc w.heap.size (fun k_ => some k_ ≠ ((.slice Ao11 t450.length co11) : Value).ownBlock) v479 t478) ∧ Aside0 (Kd.R k67 67 wc w.heap.size (fun _ => True) v497 t496) ∧ Aside0 (Kd.R (Kd.int .i64) 3 wc w.heap.size (fun k_ => z16_V k_ v479) (.slice Ao11 t450.length co11) t450) ∧ Aside0 (wc.heap[gb460]? = some (.cells #[(.slice Ao11 t450.length co11), .int .i64 t453, .int .i64 t454, .int .i64 t455] 30 (0, 0))) ∧ Aside0 (wc.heap[gb461]? = some (.cells #[.int .i64 t456, .int .i64 t457, .int .i64 t458] 32 (0, 0))) ∧ Aside0 (Below w.heap.size w wc))
                                 case first => as_aux_lemma =>
                                  have H := HC125.out
                                  clear HC125
                                  by_cases c126 : t493 = true
                                  ·subst c126
                                   have H1 : (laws_FnProfits.j10 kj120 t478 t488 t496 t505 (t492 != t488) t450 t453 t454 t455) = some r := z16_18
                                   clear H
                                   have H := H1
                                   clear H1
                                   have H' := z16_A H
                                   clear H
                                   go_wp2
                                   repeat (go_quiet (fail); try go_wp2)
                                   go_meet
                                   case rel => exact ⟨_, ((t492 != t488)), z16_15, H', ⟨z16_24⟩, ⟨z16_6⟩, ⟨z16_10⟩, ⟨z16_4⟩, ⟨z16_2⟩, ⟨z16_3⟩, ⟨z16_1⟩⟩
                                  ·replace c126 := Bool.eq_false_iff.mpr c126
                                   subst c126
                                   have H1 : (laws_FnProfits.j10 kj120 t478 t488 t496 t505 false t450 t453 t454 t455) = some r := z16_14
                                   clear H
                                   have H := H1
                                   clear H1
                                   have H' := z16_A H
                                   clear H
                                   go_wp2
                                   repeat (go_quiet (fail); try go_wp2)
                                   go_meet
                                   case rel => exact ⟨_, (false), z16_15, H', ⟨z16_24⟩, ⟨z16_6⟩, ⟨z16_10⟩, ⟨z16_4⟩, ⟨z16_2⟩, ⟨z16_3⟩, ⟨z16_1⟩⟩
                                 case rest => as_aux_lemma =>
                                  clear HC125
                                  (try clear c123); (try clear c124); (try clear c126)
                                  obtain ⟨kq, x281_124, rfl, HA, HJ124, HO_22, HO_34, HO_461000, BK460, BK461, HB⟩ := hcut
                                  cases kq with
                                  | zero => exact absurd HA.out (by simp [laws_FnProfits.j10])
                                  | succ kj124 =>
                                   have H := HA.out
                                   clear HA
                                   simp only [laws_FnProfits.j10] at H
                                   by_cases c127 : x281_124 = true
                                   ·subst c127
                                    have H1 : (none) = some r := z16_18
                                    clear H
                                    have H := H1
                                    clear H1
                                    exact absurd H z16_22
                                   ·replace c127 := Bool.eq_false_iff.mpr c127
                                    subst c127
                                    have H1 : (laws_FnProfits.l0 kj124 t478 t488 t496 t505 0 t450 t453 t454 t455) = some r := z16_14
                                    clear H
                                    have H := H1
                                    clear H1
                                    have H' := z16_A H
                                    clear H
                                    go_wp2
                                    repeat (go_quiet (fail); try go_wp2)
                                    go_loopg [42] kj124 (fun kq v42 w' => ∃ (x42_12 : Int), v42 = .int .i64 x42_12 ∧ Aside0 (laws_FnProfits.l0 kq t478 t488 t496 t505 x42_12 t450 t453 t454 t455 = some r) ∧ Aside0 (kq ≤ kj124) ∧ Aside0 (Kd.R (Kd.int .i64) 3 w' w.heap.size (fun k_ => some k_ ≠ ((.slice Ao11 t450.length co11) : Value).ownBlock) v479 t478) ∧ Aside0 (Kd.R k67 67 w' w.heap.size (fun _ => True) v497 t496) ∧ Aside0 (Kd.R (Kd.int .i64) 3 w' w.heap.size (fun k_ => z16_V k_ v479) (.slice Ao11 t450.length co11) t450) ∧ Aside0 (w'.heap[gb460]? = some (.cells #[(.slice Ao11 t450.length co11), .int .i64 t453, .int .i64 t454, .int .i64 t455] 30 (0, 0))) ∧ Aside0 (w'.heap[gb461]? = some (.cells #[.int .i64 t456, .int .i64 t457, .int .i64 t458] 32 (0, 0))) ∧ Aside0 (Below w.heap.size w w'))
                                    case atStart => exact ⟨(0), z16_15, H', ⟨Nat.le_refl _⟩, ⟨z16_6⟩, ⟨z16_10⟩, ⟨z16_4⟩, ⟨z16_2⟩, ⟨z16_3⟩, ⟨z16_1⟩⟩
                                    case round => as_aux_lemma =>
                                     clear H'
                                     (try clear c127)
                                     obtain ⟨x42_12, rfl, HA, HK12, HO_22, HO_34, HO_461000, BK460, BK461, HB⟩ := hrel
                                     cases gk with
                                     | zero => exact absurd HA.out (by simp [laws_FnProfits.l0])
                                     | succ k12 =>
                                      have H := HA.out
                                      clear HA
                                      simp only [laws_FnProfits.l0] at H
                                      by_cases c128 : x42_12 < (t478.length : Int)
                                      ·rw [if_pos c128] at H
                                       have c128b0 : decide (x42_12 < (t478.length : Int)) = true := decide_eq_true c128
                                       clear c128
                                       by_cases c129 : 0 ≤ x42_12
                                       ·rw [if_pos c129] at H
                                        have c129b0 : decide (0 ≤ x42_12) = true := decide_eq_true c129
                                        clear c129
                                        by_cases c130 : 0 ≤ t488
                                        ·rw [if_pos c130] at H
                                         have c130b0 : decide (0 ≤ t488) = true := decide_eq_true c130
                                         clear c130
                                         by_cases c131 : t488 < (t478.length : Int)
                                         ·rw [if_pos c131] at H
                                          have c131b0 : decide (t488 < (t478.length : Int)) = true := decide_eq_true c131
                                          clear c131
                                          by_cases c132 : (rd t478 x42_12) > (rd t478 t488)
                                          ·rw [if_pos c132] at H
                                           exact absurd H z16_22
                                          ·rw [if_neg c132] at H
                                           have c132b0 : decide ((rd t478 t488) < (rd t478 x42_12)) = false := decide_eq_false c132
                                           clear c132
                                           by_cases c133 : x42_12 > 1
                                           ·rw [if_pos c133] at H
                                            have c133b0 : decide (1 < x42_12) = true := decide_eq_true c133
                                            clear c133
                                            obtain ⟨ji134, hji134⟩ : ∃ j_ : Int, (wrap64 (x42_12 - 1)) = j_ := ⟨_, rfl⟩
                                            replace H : (if 0 ≤ (ji134) then (if (ji134) < (t478.length : Int) then (if 0 ≤ (wrap64 (x42_12 - 2)) then (if (wrap64 (x42_12 - 2)) < (t478.length : Int) then (if (wrap64 ((rd t478 x42_12) - (rd t478 (ji134)))) > (wrap64 ((rd t478 (ji134)) - (rd t478 (wrap64 (x42_12 - 2))))) then (none) else (laws_FnProfits.l0 k12 t478 t488 t496 t505 (wrap64 (x42_12 + 1)) t450 t453 t454 t455)) else (none)) else (none)) else (none)) else (none)) = some r := by first | (rw [hji134] at H; exact H) | (simp only [hji134] at H ⊢; exact H)
                                            have hji134w : (IntKind.i64.wrap (x42_12 - 1)) = ji134 := (i64_w _).trans hji134
                                            by_cases c135 : 0 ≤ (ji134)
                                            ·rw [if_pos c135] at H
                                             have c135b0 : decide (0 ≤ (ji134)) = true := decide_eq_true c135
                                             clear c135
                                             by_cases c136 : (ji134) < (t478.length : Int)
                                             ·rw [if_pos c136] at H
                                              have c136b0 : decide ((ji134) < (t478.length : Int)) = true := decide_eq_true c136
                                              clear c136
                                              obtain ⟨ji137, hji137⟩ : ∃ j_ : Int, (wrap64 (x42_12 - 2)) = j_ := ⟨_, rfl⟩
                                              replace H : (if 0 ≤ (ji137) then (if (ji137) < (t478.length : Int) then (if (wrap64 ((rd t478 x42_12) - (rd t478 (ji134)))) > (wrap64 ((rd t478 (ji134)) - (rd t478 (ji137)))) then (none) else (laws_FnProfits.l0 k12 t478 t488 t496 t505 (wrap64 (x42_12 + 1)) t450 t453 t454 t455)) else (none)) else (none)) = some r := by first | (rw [hji137] at H; exact H) | (simp only [hji137] at H ⊢; exact H)
                                              have hji137w : (IntKind.i64.wrap (x42_12 - 2)) = ji137 := (i64_w _).trans hji137
                                              by_cases c138 : 0 ≤ (ji137)
                                              ·rw [if_pos c138] at H
                                               have c138b0 : decide (0 ≤ (ji137)) = true := decide_eq_true c138
                                               clear c138
                                               by_cases c139 : (ji137) < (t478.length : Int)
                                               ·rw [if_pos c139] at H
                                                have c139b0 : decide ((ji137) < (t478.length : Int)) = true := decide_eq_true c139
                                                clear c139
                                                by_cases c140 : (wrap64 ((rd t478 x42_12) - (rd t478 (ji134)))) > (wrap64 ((rd t478 (ji134)) - (rd t478 (ji137))))
                                                ·rw [if_pos c140] at H
                                                 exact absurd H z16_22
                                                ·rw [if_neg c140] at H
                                                 have c140b0 : decide ((wrap64 ((rd t478 (ji134)) - (rd t478 (ji137)))) < (wrap64 ((rd t478 x42_12) - (rd t478 (ji134))))) = false := decide_eq_false c140
                                                 clear c140
                                                 have H' := z16_A H
                                                 clear H
                                                 obtain ⟨Ao141, co141, eo141⟩ := Kd.R_slice HO_22.out
                                                 subst eo141
                                                 have p509 : 0 ≤ (x42_12 : Int) := of_decide_eq_true z16_11
                                                 have q509 : x42_12 < (t478.length : Int) := of_decide_eq_true z16_11
                                                 obtain ⟨ad509, e509, hx509_0⟩ := Kd.at_int (Kd.R_reads' HO_22.out).2.2 x42_12 p509 q509
                                                 cases e509
                                                 replace p509 := eq_true p509
                                                 replace q509 := eq_true q509
                                                 have p510 : 0 ≤ (t488 : Int) := of_decide_eq_true z16_11
                                                 have q510 : t488 < (t478.length : Int) := of_decide_eq_true z16_11
                                                 obtain ⟨ad510, e510, hx510_0⟩ := Kd.at_int (Kd.R_reads' HO_22.out).2.2 t488 p510 q510
                                                 obtain rfl : ad509 = ad510 := (by injection e510)
                                                 replace p510 := eq_true p510
                                                 replace q510 := eq_true q510
                                                 have p511 : 0 ≤ (x42_12 : Int) := of_decide_eq_true z16_11
                                                 have q511 : x42_12 < (t478.length : Int) := of_decide_eq_true z16_11
                                                 obtain ⟨ad511, e511, hx511_0⟩ := Kd.at_int (Kd.R_reads' HO_22.out).2.2 x42_12 p511 q511
                                                 obtain rfl : ad509 = ad511 := (by injection e511)
                                                 replace p511 := eq_true p511
                                                 replace q511 := eq_true q511
                                                 have p512 : 0 ≤ ((ji134) : Int) := of_decide_eq_true z16_11
                                                 have q512 : (ji134) < (t478.length : Int) := of_decide_eq_true z16_11
                                                 obtain ⟨ad512, e512, hx512_0⟩ := Kd.at_int (Kd.R_reads' HO_22.out).2.2 (ji134) p512 q512
                                                 obtain rfl : ad509 = ad512 := (by injection e512)
                                                 replace p512 := eq_true p512
                                                 replace q512 := eq_true q512
                                                 have p513 : 0 ≤ ((ji134) : Int) := of_decide_eq_true z16_11
                                                 have q513 : (ji134) < (t478.length : Int) := of_decide_eq_true z16_11
                                                 obtain ⟨ad513, e513, hx513_0⟩ := Kd.at_int (Kd.R_reads' HO_22.out).2.2 (ji134) p513 q513
                                                 obtain rfl : ad509 = ad513 := (by injection e513)
                                                 replace p513 := eq_true p513
                                                 replace q513 := eq_true q513
                                                 have p514 : 0 ≤ ((ji137) : Int) := of_decide_eq_true z16_11
                                                 have q514 : (ji137) < (t478.length : Int) := of_decide_eq_true z16_11
                                                 obtain ⟨ad514, e514, hx514_0⟩ := Kd.at_int (Kd.R_reads' HO_22.out).2.2 (ji137) p514 q514
                                                 obtain rfl : ad509 = ad514 := (by injection e514)
                                                 replace p514 := eq_true p514
                                                 replace q514 := eq_true q514
                                                 go_wp2
                                                 repeat (go_quiet (fail); try go_wp2)
                                                 go_roundg k12
                                                 case measure => have := HJ6.out; have := HJ22.out; have := HJ35.out; have := HJ47.out; have := HJ58.out; have := HJ76.out; have := HJ87.out; have := HJ97.out; have := HJ111.out; have := HJ120.out; have := HJ124.out; have := HK12.out; omega
                                                 case rel => exact ⟨(wrap64 (x42_12 + 1)), z16_15, H', ⟨z16_23⟩, ⟨z16_6⟩, ⟨z16_10⟩, ⟨z16_4⟩, ⟨z16_2⟩, ⟨z16_3⟩, ⟨z16_1⟩⟩
                                               ·rw [if_neg c139] at H
                                                exact absurd H z16_22
                                              ·rw [if_neg c138] at H
                                               exact absurd H z16_22
                                             ·rw [if_neg c136] at H
                                              exact absurd H z16_22
                                            ·rw [if_neg c135] at H
                                             exact absurd H z16_22
                                           ·rw [if_neg c133] at H
                                            have c133b0 : decide (1 < x42_12) = false := decide_eq_false c133
                                            clear c133
                                            have H' := z16_A H
                                            clear H
                                            obtain ⟨Ao142, co142, eo142⟩ := Kd.R_slice HO_22.out
                                            subst eo142
                                            have p509 : 0 ≤ (x42_12 : Int) := of_decide_eq_true z16_11
                                            have q509 : x42_12 < (t478.length : Int) := of_decide_eq_true z16_11
                                            obtain ⟨ad509, e509, hx509_0⟩ := Kd.at_int (Kd.R_reads' HO_22.out).2.2 x42_12 p509 q509
                                            cases e509
                                            replace p509 := eq_true p509
                                            replace q509 := eq_true q509
                                            have p510 : 0 ≤ (t488 : Int) := of_decide_eq_true z16_11
                                            have q510 : t488 < (t478.length : Int) := of_decide_eq_true z16_11
                                            obtain ⟨ad510, e510, hx510_0⟩ := Kd.at_int (Kd.R_reads' HO_22.out).2.2 t488 p510 q510
                                            obtain rfl : ad509 = ad510 := (by injection e510)
                                            replace p510 := eq_true p510
                                            replace q510 := eq_true q510
                                            go_wp2
                                            repeat (go_quiet (fail); try go_wp2)
                                            go_roundg k12
                                            case measure => have := HJ6.out; have := HJ22.out; have := HJ35.out; have := HJ47.out; have := HJ58.out; have := HJ76.out; have := HJ87.out; have := HJ97.out; have := HJ111.out; have := HJ120.out; have := HJ124.out; have := HK12.out; omega
                                            case rel => exact ⟨(wrap64 (x42_12 + 1)), z16_15, H', ⟨z16_23⟩, ⟨z16_6⟩, ⟨z16_10⟩, ⟨z16_4⟩, ⟨z16_2⟩, ⟨z16_3⟩, ⟨z16_1⟩⟩
                                         ·rw [if_neg c131] at H
                                          exact absurd H z16_22
                                        ·rw [if_neg c130] at H
                                         exact absurd H z16_22
                                       ·rw [if_neg c129] at H
                                        exact absurd H z16_22
                                      ·rw [if_neg c128] at H
                                       have c128b0 : decide (x42_12 < (t478.length : Int)) = false := decide_eq_false c128
                                       clear c128
                                       have H' := z16_A H
                                       clear H
                                       obtain ⟨Ao143, co143, eo143⟩ := Kd.R_slice HO_22.out
                                       subst eo143
                                       go_wp2
                                       repeat (go_quiet (fail); try go_wp2)
                                       go_loopg [43] k12 (fun kq v43 w' => ∃ (x43_13 : Int), v43 = .int .i64 x43_13 ∧ Aside0 (laws_FnProfits.l1 kq t488 t496 t505 x43_13 t450 t453 t454 t455 = some r) ∧ Aside0 (kq ≤ k12) ∧ Aside0 (Kd.R k67 67 w' w.heap.size (fun _ => True) v497 t496) ∧ Aside0 (Kd.R (Kd.int .i64) 3 w' w.heap.size (fun _ => True) (.slice Ao11 t450.length co11) t450) ∧ Aside0 (w'.heap[gb460]? = some (.cells #[(.slice Ao11 t450.length co11), .int .i64 t453, .int .i64 t454, .int .i64 t455] 30 (0, 0))) ∧ Aside0 (w'.heap[gb461]? = some (.cells #[.int .i64 t456, .int .i64 t457, .int .i64 t458] 32 (0, 0))) ∧ Aside0 (Below w.heap.size w w'))
                                       case atStart => exact ⟨(0), z16_15, H', ⟨Nat.le_refl _⟩, ⟨z16_10⟩, ⟨by (with_reducible repeat (first | apply Kd.R_alloc | apply Kd.R_drewN | apply Kd.R_drew)); exact Kd.R_mono HO_461000.out (fun _ hk => trivial)⟩, ⟨z16_2⟩, ⟨z16_3⟩, ⟨z16_1⟩⟩
                                       case round => as_aux_lemma =>
                                        clear H'
                                        (try clear p5); (try clear q5); (try clear hx5); (try clear c13); (try clear c14); (try clear p50); (try clear q50); (try clear hx50); (try clear p51); (try clear q51); (try clear hx51); (try clear c128); (try clear c128b0); (try clear c129); (try clear c129b0); (try clear c130); (try clear c130b0); (try clear c131); (try clear c131b0); (try clear c132); (try clear c132b0); (try clear c133); (try clear c133b0); (try clear c135); (try clear c135b0); (try clear c136); (try clear c136b0); (try clear c138); (try clear c138b0); (try clear c139); (try clear c139b0); (try clear c140); (try clear c140b0); (try clear hx509_0); (try clear hx510_0); (try clear hx511_0); (try clear hx512_0); (try clear hx513_0); (try clear hx514_0); (try clear p509); (try clear p510); (try clear p511); (try clear p512); (try clear p513); (try clear p514); (try clear q509); (try clear q510); (try clear q511); (try clear q512); (try clear q513); (try clear q514)
                                        obtain ⟨x43_13, rfl, HA, HK13, HO_34, HO_461000, BK460, BK461, HB⟩ := hrel
                                        cases gk with
                                        | zero => exact absurd HA.out (by simp [laws_FnProfits.l1])
                                        | succ k13 =>
                                         have H := HA.out
                                         clear HA
                                         simp only [laws_FnProfits.l1] at H
                                         by_cases c144 : x43_13 < (t496.length : Int)
                                         ·rw [if_pos c144] at H
                                          have c144b0 : decide (x43_13 < (t496.length : Int)) = true := decide_eq_true c144
                                          clear c144
                                          by_cases c145 : 0 ≤ x43_13
                                          ·rw [if_pos c145] at H
                                           have c145b0 : decide (0 ≤ x43_13) = true := decide_eq_true c145
                                           clear c145
                                           by_cases c146 : ((rd_T67 t496 x43_13).f0) > t488
                                           ·rw [if_pos c146] at H
                                            exact absurd H z16_22
                                           ·rw [if_neg c146] at H
                                            have c146b0 : decide (t488 < ((rd_T67 t496 x43_13).f0)) = false := decide_eq_false c146
                                            clear c146
                                            by_cases c147 : x43_13 > 0
                                            ·rw [if_pos c147] at H
                                             have c147b0 : decide (0 < x43_13) = true := decide_eq_true c147
                                             clear c147
                                             obtain ⟨ji148, hji148⟩ : ∃ j_ : Int, (wrap64 (x43_13 - 1)) = j_ := ⟨_, rfl⟩
                                             replace H : (if 0 ≤ (ji148) then (if (ji148) < (t496.length : Int) then (if ((rd_T67 t496 x43_13).f0) > ((rd_T67 t496 (ji148)).f0) then (none) else (if 0 ≤ (wrap64 (t505 - t454)) then (if (wrap64 (t505 - t454)) < (t496.length : Int) then (if ((rd_T67 t496 x43_13).f1) > ((rd_T67 t496 (wrap64 (t505 - t454))).f1) then (none) else (laws_FnProfits.l1 k13 t488 t496 t505 (wrap64 (x43_13 + 1)) t450 t453 t454 t455)) else (none)) else (none))) else (none)) else (none)) = some r := by first | (rw [hji148] at H; exact H) | (simp only [hji148] at H ⊢; exact H)
                                             have hji148w : (IntKind.i64.wrap (x43_13 - 1)) = ji148 := (i64_w _).trans hji148
                                             by_cases c149 : 0 ≤ (ji148)
                                             ·rw [if_pos c149] at H
                                              have c149b0 : decide (0 ≤ (ji148)) = true := decide_eq_true c149
                                              clear c149
                                              by_cases c150 : (ji148) < (t496.length : Int)
                                              ·rw [if_pos c150] at H
                                               have c150b0 : decide ((ji148) < (t496.length : Int)) = true := decide_eq_true c150
                                               clear c150
                                               by_cases c151 : ((rd_T67 t496 x43_13).f0) > ((rd_T67 t496 (ji148)).f0)
                                               ·rw [if_pos c151] at H
                                                exact absurd H z16_22
                                               ·rw [if_neg c151] at H
                                                have c151b0 : decide (((rd_T67 t496 (ji148)).f0) < ((rd_T67 t496 x43_13).f0)) = false := decide_eq_false c151
                                                clear c151
                                                obtain ⟨ji152, hji152⟩ : ∃ j_ : Int, (wrap64 (t505 - t454)) = j_ := ⟨_, rfl⟩
                                                replace H : (if 0 ≤ (ji152) then (if (ji152) < (t496.length : Int) then (if ((rd_T67 t496 x43_13).f1) > ((rd_T67 t496 (ji152)).f1) then (none) else (laws_FnProfits.l1 k13 t488 t496 t505 (wrap64 (x43_13 + 1)) t450 t453 t454 t455)) else (none)) else (none)) = some r := by first | (rw [hji152] at H; exact H) | (simp only [hji152] at H ⊢; exact H)
                                                have hji152w : (IntKind.i64.wrap (t505 - t454)) = ji152 := (i64_w _).trans hji152
                                                by_cases c153 : 0 ≤ (ji152)
                                                ·rw [if_pos c153] at H
                                                 have c153b0 : decide (0 ≤ (ji152)) = true := decide_eq_true c153
                                                 clear c153
                                                 by_cases c154 : (ji152) < (t496.length : Int)
                                                 ·rw [if_pos c154] at H
                                                  have c154b0 : decide ((ji152) < (t496.length : Int)) = true := decide_eq_true c154
                                                  clear c154
                                                  by_cases c155 : ((rd_T67 t496 x43_13).f1) > ((rd_T67 t496 (ji152)).f1)
                                                  ·rw [if_pos c155] at H
                                                   exact absurd H z16_22
                                                  ·rw [if_neg c155] at H
                                                   have c155b0 : decide (((rd_T67 t496 (ji152)).f1) < ((rd_T67 t496 x43_13).f1)) = false := decide_eq_false c155
                                                   clear c155
                                                   have H' := z16_A H
                                                   clear H
                                                   obtain ⟨Ao156, co156, eo156⟩ := Kd.R_slice HO_34.out
                                                   subst eo156
                                                   have p515 : 0 ≤ (x43_13 : Int) := of_decide_eq_true z16_11
                                                   have q515 : x43_13 < (t496.length : Int) := of_decide_eq_true z16_11
                                                   obtain ⟨ad515, e515, hx515_0, hx515_1⟩ := at_T67 (Kd.R_reads' HO_34.out).2.2 x43_13 p515 q515
                                                   cases e515
                                                   replace p515 := eq_true p515
                                                   replace q515 := eq_true q515
                                                   have p516 : 0 ≤ (x43_13 : Int) := of_decide_eq_true z16_11
                                                   have q516 : x43_13 < (t496.length : Int) := of_decide_eq_true z16_11
                                                   obtain ⟨ad516, e516, hx516_0, hx516_1⟩ := at_T67 (Kd.R_reads' HO_34.out).2.2 x43_13 p516 q516
                                                   obtain rfl : ad515 = ad516 := (by injection e516)
                                                   replace p516 := eq_true p516
                                                   replace q516 := eq_true q516
                                                   have p517 : 0 ≤ ((ji148) : Int) := of_decide_eq_true z16_11
                                                   have q517 : (ji148) < (t496.length : Int) := of_decide_eq_true z16_11
                                                   obtain ⟨ad517, e517, hx517_0, hx517_1⟩ := at_T67 (Kd.R_reads' HO_34.out).2.2 (ji148) p517 q517
                                                   obtain rfl : ad515 = ad517 := (by injection e517)
                                                   replace p517 := eq_true p517
                                                   replace q517 := eq_true q517
                                                   have p518 : 0 ≤ (x43_13 : Int) := of_decide_eq_true z16_11
                                                   have q518 : x43_13 < (t496.length : Int) := of_decide_eq_true z16_11
                                                   obtain ⟨ad518, e518, hx518_0, hx518_1⟩ := at_T67 (Kd.R_reads' HO_34.out).2.2 x43_13 p518 q518
                                                   obtain rfl : ad515 = ad518 := (by injection e518)
                                                   replace p518 := eq_true p518
                                                   replace q518 := eq_true q518
                                                   have hnb157 := NB460_461.out
                                                   have hnc157 := NB461_460.out
                                                   have hcz158_0 : wr.cell? ⟨gb460, 0, none⟩ = some (.slice Ao11 t450.length co11) := bcz BK460.out 0 rfl
                                                   have hcz158_1 : wr.cell? ⟨gb460, 1, none⟩ = some (.int .i64 t453) := bcz BK460.out 1 rfl
                                                   have hcz158_2 : wr.cell? ⟨gb460, 2, none⟩ = some (.int .i64 t454) := bcz BK460.out 2 rfl
                                                   have hcz158_3 : wr.cell? ⟨gb460, 3, none⟩ = some (.int .i64 t455) := bcz BK460.out 3 rfl
                                                   obtain ⟨hfz158_0, hfz158_1, hfz158_2, hfz158_3⟩ := F4z (blk_frozen BK460.out)
                                                   have p519 : 0 ≤ ((ji152) : Int) := of_decide_eq_true z16_11
                                                   have q519 : (ji152) < (t496.length : Int) := of_decide_eq_true z16_11
                                                   obtain ⟨ad519, e519, hx519_0, hx519_1⟩ := at_T67 (Kd.R_reads' HO_34.out).2.2 (ji152) p519 q519
                                                   obtain rfl : ad515 = ad519 := (by injection e519)
                                                   replace p519 := eq_true p519
                                                   replace q519 := eq_true q519
                                                   go_wp2
                                                   repeat (go_quiet (fail); try go_wp2)
                                                   go_roundg k13
                                                   case measure => have := HJ6.out; have := HJ22.out; have := HJ35.out; have := HJ47.out; have := HJ58.out; have := HJ76.out; have := HJ87.out; have := HJ97.out; have := HJ111.out; have := HJ120.out; have := HJ124.out; have := HK12.out; have := HK13.out; omega
                                                   case rel => exact ⟨(wrap64 (x43_13 + 1)), z16_15, H', ⟨z16_21⟩, ⟨z16_10⟩, ⟨z16_4⟩, ⟨z16_2⟩, ⟨z16_3⟩, ⟨z16_1⟩⟩
                                                 ·rw [if_neg c154] at H
                                                  exact absurd H z16_22
                                                ·rw [if_neg c153] at H
                                                 exact absurd H z16_22
                                              ·rw [if_neg c150] at H
                                               exact absurd H z16_22
                                             ·rw [if_neg c149] at H
                                              exact absurd H z16_22
                                            ·rw [if_neg c147] at H
                                             have c147b0 : decide (0 < x43_13) = false := decide_eq_false c147
                                             clear c147
                                             obtain ⟨ji159, hji159⟩ : ∃ j_ : Int, (wrap64 (t505 - t454)) = j_ := ⟨_, rfl⟩
                                             replace H : (if 0 ≤ (ji159) then (if (ji159) < (t496.length : Int) then (if ((rd_T67 t496 x43_13).f1) > ((rd_T67 t496 (ji159)).f1) then (none) else (laws_FnProfits.l1 k13 t488 t496 t505 (wrap64 (x43_13 + 1)) t450 t453 t454 t455)) else (none)) else (none)) = some r := by first | (rw [hji159] at H; exact H) | (simp only [hji159] at H ⊢; exact H)
                                             have hji159w : (IntKind.i64.wrap (t505 - t454)) = ji159 := (i64_w _).trans hji159
                                             by_cases c160 : 0 ≤ (ji159)
                                             ·rw [if_pos c160] at H
                                              have c160b0 : decide (0 ≤ (ji159)) = true := decide_eq_true c160
                                              clear c160
                                              by_cases c161 : (ji159) < (t496.length : Int)
                                              ·rw [if_pos c161] at H
                                               have c161b0 : decide ((ji159) < (t496.length : Int)) = true := decide_eq_true c161
                                               clear c161
                                               by_cases c162 : ((rd_T67 t496 x43_13).f1) > ((rd_T67 t496 (ji159)).f1)
                                               ·rw [if_pos c162] at H
                                                exact absurd H z16_22
                                               ·rw [if_neg c162] at H
                                                have c162b0 : decide (((rd_T67 t496 (ji159)).f1) < ((rd_T67 t496 x43_13).f1)) = false := decide_eq_false c162
                                                clear c162
                                                have H' := z16_A H
                                                clear H
                                                obtain ⟨Ao163, co163, eo163⟩ := Kd.R_slice HO_34.out
                                                subst eo163
                                                have p515 : 0 ≤ (x43_13 : Int) := of_decide_eq_true z16_11
                                                have q515 : x43_13 < (t496.length : Int) := of_decide_eq_true z16_11
                                                obtain ⟨ad515, e515, hx515_0, hx515_1⟩ := at_T67 (Kd.R_reads' HO_34.out).2.2 x43_13 p515 q515
                                                cases e515
                                                replace p515 := eq_true p515
                                                replace q515 := eq_true q515
                                                have p520 : 0 ≤ (x43_13 : Int) := of_decide_eq_true z16_11
                                                have q520 : x43_13 < (t496.length : Int) := of_decide_eq_true z16_11
                                                obtain ⟨ad520, e520, hx520_0, hx520_1⟩ := at_T67 (Kd.R_reads' HO_34.out).2.2 x43_13 p520 q520
                                                obtain rfl : ad515 = ad520 := (by injection e520)
                                                replace p520 := eq_true p520
                                                replace q520 := eq_true q520
                                                have hnb164 := NB460_461.out
                                                have hnc164 := NB461_460.out
                                                have hcz165_0 : wr.cell? ⟨gb460, 0, none⟩ = some (.slice Ao11 t450.length co11) := bcz BK460.out 0 rfl
                                                have hcz165_1 : wr.cell? ⟨gb460, 1, none⟩ = some (.int .i64 t453) := bcz BK460.out 1 rfl
                                                have hcz165_2 : wr.cell? ⟨gb460, 2, none⟩ = some (.int .i64 t454) := bcz BK460.out 2 rfl
                                                have hcz165_3 : wr.cell? ⟨gb460, 3, none⟩ = some (.int .i64 t455) := bcz BK460.out 3 rfl
                                                obtain ⟨hfz165_0, hfz165_1, hfz165_2, hfz165_3⟩ := F4z (blk_frozen BK460.out)
                                                have p521 : 0 ≤ ((ji159) : Int) := of_decide_eq_true z16_11
                                                have q521 : (ji159) < (t496.length : Int) := of_decide_eq_true z16_11
                                                obtain ⟨ad521, e521, hx521_0, hx521_1⟩ := at_T67 (Kd.R_reads' HO_34.out).2.2 (ji159) p521 q521
                                                obtain rfl : ad515 = ad521 := (by injection e521)
                                                replace p521 := eq_true p521
                                                replace q521 := eq_true q521
                                                go_wp2
                                                repeat (go_quiet (fail); try go_wp2)
                                                go_roundg k13
                                                case measure => have := HJ6.out; have := HJ22.out; have := HJ35.out; have := HJ47.out; have := HJ58.out; have := HJ76.out; have := HJ87.out; have := HJ97.out; have := HJ111.out; have := HJ120.out; have := HJ124.out; have := HK12.out; have := HK13.out; omega
                                                case rel => exact ⟨(wrap64 (x43_13 + 1)), z16_15, H', ⟨z16_21⟩, ⟨z16_10⟩, ⟨z16_4⟩, ⟨z16_2⟩, ⟨z16_3⟩, ⟨z16_1⟩⟩
                                              ·rw [if_neg c161] at H
                                               exact absurd H z16_22
                                             ·rw [if_neg c160] at H
                                              exact absurd H z16_22
                                          ·rw [if_neg c145] at H
                                           exact absurd H z16_22
                                         ·rw [if_neg c144] at H
                                          have c144b0 : decide (x43_13 < (t496.length : Int)) = false := decide_eq_false c144
                                          clear c144
                                          obtain rfl := Option.some.inj H
                                          obtain ⟨Ao166, co166, eo166⟩ := Kd.R_slice HO_34.out
                                          subst eo166
                                          go_wp2
                                          repeat (go_quiet (fail); try go_wp2)
                                          go_ret
                                          exact ⟨z16_27, z16_1⟩
                                ·replace c124 := Bool.eq_false_iff.mpr c124
                                 subst c124
                                 have H1 : (some true) = some r := z16_14
                                 clear H
                                 have H := H1
                                 clear H1
                                 obtain rfl := Option.some.inj H
                                 go_wp2
                                 repeat (go_quiet (fail); try go_wp2)
                                 go_ret
                                 exact ⟨z16_27, z16_1⟩

/-- THE ONE PURE STATEMENT of laws_FnProfits: yours. -/
def laws_FnProfits.Pure : Prop := ∀ (l0 : List Int), l0.length ≤ maxLen → l0.length * 1 ≤ 140737488351232 → (∀ x ∈ l0, (Lit.int .u8 x).wf = true) → ∃ k, laws_FnProfits.f k l0 = some true
theorem laws_FnProfits.walk (P : laws_FnProfits.Pure) (a0 : Option Addr) (len0 cap0 : Nat) (z0 : List Int) (w : World) (w0 : (a0 = none ∧ len0 = 0 ∧ cap0 = 0 ∧ z0 = []) ∨ ∃ x, a0 = some x ∧ len0 ≤ cap0 ∧ cap0 ≤ maxLen ∧ z0.length = cap0 ∧ (∀ i, i < z0.length → w.cell? (x.add i) = some (.int .u8 (z0.getD i 0))) ∧ ∀ n ∈ z0, (Lit.int .u8 n).wf = true) (y0 : len0 * 1 ≤ 140737488351232) :
  Calls Try.prog 9 #[.slice a0 len0 cap0] w fun e w' => e = .returned (.bool true) ∧ Below w.heap.size w w' := by
 obtain ⟨l0, rfl, hr0, hm0, hw0, hc0⟩ := ReadsInt.ofRowC w0
 obtain ⟨k, h⟩ := P l0 hm0 y0 hw0
 refine (laws_FnProfits.calls k _ _ l0 true w (Kd.C_of_reads (d := (0 : Int)) (h1 := fun _ => rfl) hr0) hc0 h).mono ?_
 rintro e w' ⟨rfl, hd⟩
 exact ⟨rfl, hd⟩


end Go.Proofs.Ytiniocecpgjikaa.PFnProfits
