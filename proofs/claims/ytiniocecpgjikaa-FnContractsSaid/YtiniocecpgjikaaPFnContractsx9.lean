-- A text of this session (its program hook.py, over the kit's print.py): not a print of print.sh
-- THIN: one blank for two
import Derived.Test.YtiniocecpgjikaaPFnContractsx0
import Derived.Test.YtiniocecpgjikaaPFnContractsx2
import Derived.Test.YtiniocecpgjikaaPFnContractsx8
namespace Go.Proofs.Ytiniocecpgjikaa.PFnContracts
open Go.RowKit Go.Proofs.YtiniocecpgjikaaW.PrintWords Go.Proofs.YtiniocecpgjikaaW.PrintLast Go.Proofs.YtiniocecpgjikaaW.PrintMore
attribute [local go_sem] max2_int min2_int max_two min_two max_three min_three max_four min_four   -- for this text's walks alone
set_option linter.unusedVariables false
set_option linter.unusedSimpArgs false

-- SQUEEZED
abbrev z9_S (k : Nat) (A : Option Addr) (n c : Nat) : Prop := some k ≠ (.slice A n c : Value).ownBlock
theorem z9_A {p : Prop} (h : p) : Aside0 p := Aside0.mk h
theorem z9_C {p : Prop} (h : p := by repeat (first | exact zh | (with_reducible refine Kd.C_alloc ?_ _) | (with_reducible refine Kd.C_drewN ?_ _) | (with_reducible refine Kd.C_drew ?_))) : p := h
theorem z9_1 {p : Prop} (h : p := by repeat (first | (with_reducible first | exact HK.out | apply KeepBut.set_ | apply keep_drewN | apply keep_drew | apply keep_alloc | refine keep_far ?_ GW229.out _ | refine keep_far ?_ GW244.out _) | exact HK.out)) : p := h
theorem z9_2 {p : Prop} (h : p := by repeat (first | (with_reducible first | exact HI0.out | apply IsS82.alloc | apply IsS82.drewN | apply IsS82.drew | apply IsS82.set_1 | apply IsS82.set_2 | refine IsS82.far ?_ NB0_229.out _ | refine IsS82.far ?_ NB0_244.out _) | exact HI0.out)) : p := h
theorem z9_3 {p : Prop} (h : p := by repeat (first | (with_reducible first | exact HB.out | apply below_alloc | apply pw_below_drewN | apply below_drew1 | refine below_set ?_ (IsS82.ge HI0.out) | refine below_set ?_ GE229.out | refine below_set ?_ GE244.out) | exact HB.out)) : p := h
theorem z9_4 {p : Prop} (h : p := by (with_reducible repeat (first | refine blk_drewN ?_ _ | refine blk_drew ?_ | refine blk_alloc ?_ _)); exact BK229.out) : p := h
theorem z9_5 {p : Prop} (h : p := by (with_reducible repeat (first | apply Kd.R_alloc | apply Kd.R_drewN | apply Kd.R_drew)); exact HO_245000.out) : p := h
theorem z9_6 {p : Prop} (h : p := by (with_reducible repeat (first | refine blk_drewN ?_ _ | refine blk_drew ?_ | refine blk_alloc ?_ _)); exact BK244.out) : p := h
theorem z9_7 {p : Prop} (h : p := by (try simp only [List.map_toArray, List.map_cons, List.map_nil]); first | done | rfl | (simp only [List.length_drop, List.length_take]; rfl)) : p := h
theorem z9_8 {p : Prop} (h : p := by repeat (first | (with_reducible first | exact HK.out | apply KeepBut.set_ | apply keep_drewN | apply keep_drew | apply keep_alloc | refine keep_far ?_ GW229.out _) | exact HK.out)) : p := h
theorem z9_9 {p : Prop} (h : p := by repeat (first | (with_reducible first | exact HI0.out | apply IsS82.alloc | apply IsS82.drewN | apply IsS82.drew | apply IsS82.set_1 | apply IsS82.set_2 | refine IsS82.far ?_ NB0_229.out _) | exact HI0.out)) : p := h
theorem z9_10 {p : Prop} (h : p := by repeat (first | (with_reducible first | exact HB.out | apply below_alloc | apply pw_below_drewN | apply below_drew1 | refine below_set ?_ (IsS82.ge HI0.out) | refine below_set ?_ GE229.out) | exact HB.out)) : p := h
theorem z9_11 {p : Prop} (h : p := by (with_reducible repeat (first | apply Kd.R_alloc | apply Kd.R_drewN | apply Kd.R_drew)); exact HO232.out) : p := h
theorem z9_12 {p : Prop} (h : p := by kernel_rfl) : p := h
theorem z9_13 {p : Prop} (h : p := by first | rfl | (simp [errW_none, errW_some] <;> rfl) | (simp [*, errW_none, errW_some] <;> rfl)) : p := h
theorem z9_14 {p : Prop} (h : p := by decide) : p := h
theorem z9_15 {p : Prop} (h : p := by repeat (first | (with_reducible first | exact HK.out | apply KeepBut.set_ | apply keep_drewN | apply keep_drew | apply keep_alloc) | exact HK.out)) : p := h
theorem z9_16 {p : Prop} (h : p := by (with_reducible repeat (first | refine blk_drewN ?_ _ | refine blk_drew ?_ | refine blk_alloc ?_ _)); refine blk_far ?_ NB229_244.out _; (with_reducible repeat (first | refine blk_drewN ?_ _ | refine blk_drew ?_ | refine blk_alloc ?_ _)); exact BK229.out) : p := h
theorem z9_17 {p : Prop} (h : p := by (with_reducible repeat (first | apply Kd.R_alloc | apply Kd.R_drewN | apply Kd.R_drew)); exact HO251.out) : p := h
theorem z9_18 {p : Prop} (h : p := by simp) : p := h

/-! ### spec_l1Cur_market: function 81 -/
mutual
def spec_l1Cur_market.l0 : Nat → Int → List Int → Int → Int → List Int → Int → Int → Int → Option (List Int × Int × Int × Int × Int × Int)
 | 0, _, _, _, _, _, _, _, _ => none
 | k + 1, x6, x1000, x1001, x1002, x245000, x245001, x245002, x245003 => if x6 > 0 then ((spec_l1Cur_among.f x1000 x1001 x1002 (([1, 2, 1, 0, 3, 4] : List Int))).bind fun bt252 => (if x245000.length < 17592186044416 then (spec_l1Cur_market.l0 k (wrap64 (x6 - 1)) x1000 bt252.2.1 bt252.2.2 (x245000 ++ [bt252.1]) x245001 x245002 x245003) else (none))) else ((spec_l2Sum.f k x245000).bind fun t258 => (if t258 = 0 then (if 0 < (x245000.length : Int) then (spec_l1Cur_market.j1 k x1000 x1001 x1002 (x245000.set (0 : Int).toNat 1) x245001 x245002 x245003) else (none)) else (spec_l1Cur_market.j1 k x1000 x1001 x1002 x245000 x245001 x245002 x245003)))
def spec_l1Cur_market.j1 : Nat → List Int → Int → Int → List Int → Int → Int → Int → Option (List Int × Int × Int × Int × Int × Int)
 | 0, _, _, _, _, _, _, _ => none
 | k + 1, x1000, x1001, x1002, x245000, x245001, x245002, x245003 => (spec_l1Cur_pick.f x1000 x1001 x1002 40).bind fun bt260 => (if bt260.1 = 0 then ((spec_l1Cur_among.f x1000 bt260.2.1 bt260.2.2 (([0, 99, 100] : List Int))).bind fun bt266 => (some (x245000, bt266.1, x245002, x245003, bt266.2.1, bt266.2.2))) else (if bt260.1 = 1 then ((spec_l1Cur_among.f x1000 bt260.2.1 bt260.2.2 (([(-1), x245001, wrap64 (x245001 + 1)] : List Int))).bind fun bt272 => (some (x245000, x245001, bt272.1, x245003, bt272.2.1, bt272.2.2))) else (if bt260.1 = 2 then ((spec_l1Cur_among.f x1000 bt260.2.1 bt260.2.2 (([(-1), x245002, wrap64 (x245002 + 1)] : List Int))).bind fun bt278 => (some (x245000, x245001, x245002, bt278.1, bt278.2.1, bt278.2.2))) else (if bt260.1 = 3 then ((spec_l1Cur_among.f x1000 bt260.2.1 bt260.2.2 (([(-1), 5] : List Int))).bind fun bt284 => (if 0 < (x245000.length : Int) then (some ((x245000.set (0 : Int).toNat bt284.1), x245001, x245002, x245003, bt284.2.1, bt284.2.2)) else (none))) else (if bt260.1 = 4 then (spec_l1Cur_market.l1 k x1000 bt260.2.1 bt260.2.2 x245000 x245001 x245002 x245003) else (some (x245000, x245001, x245002, x245003, bt260.2.1, bt260.2.2)))))))
def spec_l1Cur_market.l1 : Nat → List Int → Int → Int → List Int → Int → Int → Int → Option (List Int × Int × Int × Int × Int × Int)
 | 0, _, _, _, _, _, _, _ => none
 | k + 1, x1000, x1001, x1002, x245000, x245001, x245002, x245003 => if (x245000.length : Int) < 10 then (if x245000.length < 17592186044416 then (spec_l1Cur_market.l1 k x1000 x1001 x1002 (x245000 ++ [1]) x245001 x245002 x245003) else (none)) else (some (x245000, x245001, x245002, x245003, x1001, x1002))
end
def spec_l1Cur_market.f (k : Nat) (s0_0 : List Int) (s0_1 : Int) (s0_2 : Int) : Option (List Int × Int × Int × Int × Int × Int) := (spec_l1Cur_among.f s0_0 s0_1 s0_2 (([10, 12, 20, 6, 30, 99, 1] : List Int))).bind fun bt233 => ((spec_l1Cur_pick.f s0_0 bt233.2.1 bt233.2.2 3).bind fun bt236 => ((spec_l1Cur_pick.f s0_0 bt236.2.1 bt236.2.2 bt233.1).bind fun bt239 => ((spec_l1Least.f (wrap64 (bt236.1 + bt239.1)) bt233.1).bind fun t242 => ((spec_l1Least.f bt236.1 bt233.1).bind fun t243 => ((spec_l1Least.f t243 t242).bind fun t245 => ((spec_l1Cur_pick.f s0_0 bt239.2.1 bt239.2.2 9).bind fun bt246 => (spec_l1Cur_market.l0 k (wrap64 (1 + bt246.1)) s0_0 bt246.2.1 bt246.2.2 ([] : List Int) bt233.1 t242 t245)))))))
theorem spec_l1Cur_market.mono_l : ∀ k, (∀ y0 y1 y2 y3 y4 y5 y6 y7, LeO (spec_l1Cur_market.l0 k y0 y1 y2 y3 y4 y5 y6 y7) (spec_l1Cur_market.l0 (k + 1) y0 y1 y2 y3 y4 y5 y6 y7)) ∧ (∀ y0 y1 y2 y3 y4 y5 y6, LeO (spec_l1Cur_market.j1 k y0 y1 y2 y3 y4 y5 y6) (spec_l1Cur_market.j1 (k + 1) y0 y1 y2 y3 y4 y5 y6)) ∧ (∀ y0 y1 y2 y3 y4 y5 y6, LeO (spec_l1Cur_market.l1 k y0 y1 y2 y3 y4 y5 y6) (spec_l1Cur_market.l1 (k + 1) y0 y1 y2 y3 y4 y5 y6))
 | 0 => ⟨fun _ _ _ _ _ _ _ _ r h => by simp [spec_l1Cur_market.l0] at h, fun _ _ _ _ _ _ _ r h => by simp [spec_l1Cur_market.j1] at h, fun _ _ _ _ _ _ _ r h => by simp [spec_l1Cur_market.l1] at h⟩
 | k + 1 => by
  obtain ⟨ih0, ih1, ih2⟩ := spec_l1Cur_market.mono_l k
  refine ⟨?_, ?_, ?_⟩
  ·intro y0 y1 y2 y3 y4 y5 y6 y7
   unfold spec_l1Cur_market.l0
   repeat' first
   | (with_reducible exact ih0 _ _ _ _ _ _ _ _)
   | (with_reducible exact ih1 _ _ _ _ _ _ _)
   | (with_reducible exact ih2 _ _ _ _ _ _ _)
   | (with_reducible exact spec_l2Sum.mono _ _)
   | (with_reducible exact LeO.refl _)
   | (with_reducible exact LeO.none _)
   | (with_reducible refine LeO.ite ?_ ?_)
   | (with_reducible refine LeO.bind ?_ (fun _ => ?_))
   | exact ih0 _ _ _ _ _ _ _ _
   | exact ih1 _ _ _ _ _ _ _
   | exact ih2 _ _ _ _ _ _ _
   | exact spec_l2Sum.mono _ _
   | exact LeO.none _
   | refine LeO.ite ?_ ?_
   | refine LeO.bind ?_ (fun _ => ?_)
  ·intro y0 y1 y2 y3 y4 y5 y6
   unfold spec_l1Cur_market.j1
   repeat' first
   | (with_reducible exact ih0 _ _ _ _ _ _ _ _)
   | (with_reducible exact ih1 _ _ _ _ _ _ _)
   | (with_reducible exact ih2 _ _ _ _ _ _ _)
   | (with_reducible exact spec_l2Sum.mono _ _)
   | (with_reducible exact LeO.refl _)
   | (with_reducible exact LeO.none _)
   | (with_reducible refine LeO.ite ?_ ?_)
   | (with_reducible refine LeO.bind ?_ (fun _ => ?_))
   | exact ih0 _ _ _ _ _ _ _ _
   | exact ih1 _ _ _ _ _ _ _
   | exact ih2 _ _ _ _ _ _ _
   | exact spec_l2Sum.mono _ _
   | exact LeO.none _
   | refine LeO.ite ?_ ?_
   | refine LeO.bind ?_ (fun _ => ?_)
  ·intro y0 y1 y2 y3 y4 y5 y6
   unfold spec_l1Cur_market.l1
   repeat' first
   | (with_reducible exact ih0 _ _ _ _ _ _ _ _)
   | (with_reducible exact ih1 _ _ _ _ _ _ _)
   | (with_reducible exact ih2 _ _ _ _ _ _ _)
   | (with_reducible exact spec_l2Sum.mono _ _)
   | (with_reducible exact LeO.refl _)
   | (with_reducible exact LeO.none _)
   | (with_reducible refine LeO.ite ?_ ?_)
   | (with_reducible refine LeO.bind ?_ (fun _ => ?_))
   | exact ih0 _ _ _ _ _ _ _ _
   | exact ih1 _ _ _ _ _ _ _
   | exact ih2 _ _ _ _ _ _ _
   | exact spec_l2Sum.mono _ _
   | exact LeO.none _
   | refine LeO.ite ?_ ?_
   | refine LeO.bind ?_ (fun _ => ?_)
theorem spec_l1Cur_market.mono : ∀ a0 a1 a2 k, LeO (spec_l1Cur_market.f k a0 a1 a2) (spec_l1Cur_market.f (k + 1) a0 a1 a2) := by
 intro a0 a1 a2 k
 obtain ⟨ih0, ih1, ih2⟩ := spec_l1Cur_market.mono_l k
 unfold spec_l1Cur_market.f
 repeat' first
   | (with_reducible exact ih0 _ _ _ _ _ _ _ _)
   | (with_reducible exact ih1 _ _ _ _ _ _ _)
   | (with_reducible exact ih2 _ _ _ _ _ _ _)
   | (with_reducible exact spec_l2Sum.mono _ _)
   | (with_reducible exact LeO.refl _)
   | (with_reducible exact LeO.none _)
   | (with_reducible refine LeO.ite ?_ ?_)
   | (with_reducible refine LeO.bind ?_ (fun _ => ?_))
   | exact ih0 _ _ _ _ _ _ _ _
   | exact ih1 _ _ _ _ _ _ _
   | exact ih2 _ _ _ _ _ _ _
   | exact spec_l2Sum.mono _ _
   | exact LeO.none _
   | refine LeO.ite ?_ ?_
   | refine LeO.bind ?_ (fun _ => ?_)
def spec_l1Cur_market.T8 : Bool × List (List Nat × List Nat) := (true, [([], []), ([0], [0]), ([], []), ([], []), ([2, 3], [2, 3]), ([4], [4]), ([1, 5, 4], [1, 5]), ([0, 1, 2, 3, 4, 5, 6], []), ([7, 6, 6, 0, 1, 2, 3, 4, 5, 6], [6, 7])])
def spec_l1Cur_market.B8 : List Nat := [0, 1, 0, 0, 12, 28, 63, 127, 255]
theorem spec_l1Cur_market.tab8 : rtab .any (opsOf Try.f81 8) = spec_l1Cur_market.T8 := z9_12
theorem spec_l1Cur_market.bits8 : waitsOk spec_l1Cur_market.T8.2 spec_l1Cur_market.B8 = true := z9_12
set_option maxHeartbeats 8000000 in
set_option maxRecDepth 100000 in
theorem spec_l1Cur_market.calls (k : Nat) (g : Nat) (s0_0 : List Int) (s0_1 : Int) (s0_2 : Int) (r1 : List Int) (r2 : Int) (r3 : Int) (r4 : Int) (r5 : Int) (r6 : Int) (w0 w : World) (hI : IsS82 w0 w g s0_0 s0_1 s0_2) (hB : Below w0.heap.size w0 w) (h : spec_l1Cur_market.f k s0_0 s0_1 s0_2 = some (r1, r2, r3, r4, r5, r6)) :
  Calls Try.prog 81 #[.pointer (some ⟨g, 0, none⟩)] w fun e w' => ∃ v0_ : Value, e = .returned (.agg #[v0_, .int .i64 r2, .int .i64 r3, .int .i64 r4]) ∧ Kd.R (Kd.int .i64) 3 w' w.heap.size (fun _ => True) v0_ r1 ∧ IsS82 w0 w' g s0_0 r5 r6 ∧ Below w0.heap.size w0 w' ∧ KeepBut w w' g none := by
 have hu30 := Try.underlying30
 have HI0 := z9_A hI
 have HK := z9_A (KeepBut.refl w g none)
 have HL := z9_A hB.size
 clear hI
 have HW0 := z9_A hB.size
 have HB := z9_A hB
 clear hB
 have H : ((spec_l1Cur_among.f s0_0 s0_1 s0_2 (([10, 12, 20, 6, 30, 99, 1] : List Int))).bind fun bt233 => ((spec_l1Cur_pick.f s0_0 bt233.2.1 bt233.2.2 3).bind fun bt236 => ((spec_l1Cur_pick.f s0_0 bt236.2.1 bt236.2.2 bt233.1).bind fun bt239 => ((spec_l1Least.f (wrap64 (bt236.1 + bt239.1)) bt233.1).bind fun t242 => ((spec_l1Least.f bt236.1 bt233.1).bind fun t243 => ((spec_l1Least.f t243 t242).bind fun t245 => ((spec_l1Cur_pick.f s0_0 bt239.2.1 bt239.2.2 9).bind fun bt246 => (spec_l1Cur_market.l0 k (wrap64 (1 + bt246.1)) s0_0 bt246.2.1 bt246.2.2 ([] : List Int) bt233.1 t242 t245)))))))) = some (r1, r2, r3, r4, r5, r6) := h
 clear h
 obtain ⟨y230, hy230⟩ : ∃ y_ : List Int, y_ = (([10, 12, 20, 6, 30, 99, 1] : List Int)) := ⟨_, rfl⟩
 replace H : ((spec_l1Cur_among.f s0_0 s0_1 s0_2 y230).bind fun bt233 => ((spec_l1Cur_pick.f s0_0 bt233.2.1 bt233.2.2 3).bind fun bt236 => ((spec_l1Cur_pick.f s0_0 bt236.2.1 bt236.2.2 bt233.1).bind fun bt239 => ((spec_l1Least.f (wrap64 (bt236.1 + bt239.1)) bt233.1).bind fun t242 => ((spec_l1Least.f bt236.1 bt233.1).bind fun t243 => ((spec_l1Least.f t243 t242).bind fun t245 => ((spec_l1Cur_pick.f s0_0 bt239.2.1 bt239.2.2 9).bind fun bt246 => (spec_l1Cur_market.l0 k (wrap64 (1 + bt246.1)) s0_0 bt246.2.1 bt246.2.2 ([] : List Int) bt233.1 t242 t245)))))))) = some (r1, r2, r3, r4, r5, r6) := by first | (rw [hy230]; with_reducible exact H) | (have H2_ := (Option.bind_some _ _).symm.trans H; rw [hy230]; with_reducible exact H2_) | (have H2_ := (Option.bind_some _ _).symm.trans H; with_reducible exact H2_) | with_reducible exact H | (rw [hy230]; exact H) | exact H
 have Ny230 := z9_A hy230
 clear hy230
 replace H := Option.bind_eq_some_iff.mp H
 obtain ⟨⟨t233, t234, t235⟩, A20, H⟩ := H
 (try dsimp only at H)
 have A2 := z9_A A20
 clear A20
 replace H := Option.bind_eq_some_iff.mp H
 obtain ⟨⟨t236, t237, t238⟩, A30, H⟩ := H
 (try dsimp only at H)
 have A3 := z9_A A30
 clear A30
 replace H := Option.bind_eq_some_iff.mp H
 obtain ⟨⟨t239, t240, t241⟩, A40, H⟩ := H
 (try dsimp only at H)
 have A4 := z9_A A40
 clear A40
 replace H := Option.bind_eq_some_iff.mp H
 obtain ⟨t242, A50, H⟩ := H
 (try dsimp only at H)
 have A5 := z9_A A50
 clear A50
 replace H := Option.bind_eq_some_iff.mp H
 obtain ⟨t243, A60, H⟩ := H
 (try dsimp only at H)
 have A6 := z9_A A60
 clear A60
 replace H := Option.bind_eq_some_iff.mp H
 obtain ⟨t245, A70, H⟩ := H
 (try dsimp only at H)
 have A7 := z9_A A70
 clear A70
 replace H := Option.bind_eq_some_iff.mp H
 obtain ⟨⟨t246, t247, t248⟩, A80, H⟩ := H
 (try dsimp only at H)
 have A8 := z9_A A80
 clear A80
 have H' := z9_A H
 clear H
 go_enter Try.func81, Try.ntmps81
 go_wp2_with (first | ((with_reducible refine gate_dst (N := 2) rfl ?_); refine box_event ?hg (N := 2) ?hd (cs := #[.slice none 0 0, .int .i64 0, .int .i64 0, .int .i64 0]) (t := 30) ?hr ?_; (case hd => rfl); (case hg => rfl); (case hr => first | (go_simp; done) | (go_simp; rfl)); intro gb229 hg w9 hbox hb; have n0_ := z9_A (IsS82.below (by repeat (first | (with_reducible first | exact HI0.out | apply IsS82.alloc | apply IsS82.drewN | apply IsS82.drew | apply IsS82.set_1 | apply IsS82.set_2) | exact HI0.out)) hb); have n1_ := z9_A (KeepBut.trans z9_15 (KeepBut.of_below hb g none) (.inl rfl)); have n2_ := z9_A (below_step (by repeat (first | (with_reducible first | exact HB.out | apply below_alloc | apply pw_below_drewN | apply below_drew1 | refine below_set ?_ (IsS82.ge HI0.out)) | exact HB.out)) hb); have n3_ := z9_A (hbox); have n4_ := z9_A ((by rw [hg]; exact (keep_size (w := w) (g := g) (row := none) z9_15) : w.heap.size ≤ gb229)); have n5_ := z9_A ((Nat.le_trans HW0.out (by rw [hg]; exact (keep_size (w := w) (g := g) (row := none) z9_15) : w.heap.size ≤ gb229) : w0.heap.size ≤ gb229)); have n6_ := z9_A ((by rw [hg]; exact Nat.ne_of_lt (IsS82.lt (show IsS82 w0 _ g s0_0 s0_1 s0_2 from by repeat (first | (with_reducible first | exact HI0.out | apply IsS82.alloc | apply IsS82.drewN | apply IsS82.drew | apply IsS82.set_1 | apply IsS82.set_2) | exact HI0.out))) : g ≠ gb229)); have n7_ := z9_A ((by rw [hg]; exact Nat.ne_of_gt (IsS82.lt (show IsS82 w0 _ g s0_0 s0_1 s0_2 from by repeat (first | (with_reducible first | exact HI0.out | apply IsS82.alloc | apply IsS82.drewN | apply IsS82.drew | apply IsS82.set_1 | apply IsS82.set_2) | exact HI0.out))) : gb229 ≠ g)); clear HI0 HK HB; revert n0_ n1_ n2_ n3_ n4_ n5_ n6_ n7_; intro HI0 HK HB BK229 GW229 GE229 NB0_229 NB229_0; clear hb hbox hg) | ((with_reducible refine gate_dst (N := 8) rfl ?_); refine Kd.R_lit (Kd.int .i64) _ 3 ?hg (N := 8) ?hd (xs := ([10, 12, 20, 6, 30, 99, 1] : List Int)) (inner := [.int .i64 10, .int .i64 12, .int .i64 20, .int .i64 6, .int .i64 30, .int .i64 99, .int .i64 1]) (ok := fun _ => True) (okp := fun _ => True) ?hr ?hp (fun _ hk => hk) trivial (Below.refl _ _) (Nat.le_refl _) z9_18 ?_; (case hd => rfl); (case hg => rfl); (case hr => first | (go_simp; done) | (go_simp; rfl)); (case hp => exact (Reps.one (show Kd.M (Kd.int .i64) _ _ _ 10 [.int .i64 10] from rfl) (Reps.one (show Kd.M (Kd.int .i64) _ _ _ 12 [.int .i64 12] from rfl) (Reps.one (show Kd.M (Kd.int .i64) _ _ _ 20 [.int .i64 20] from rfl) (Reps.one (show Kd.M (Kd.int .i64) _ _ _ 6 [.int .i64 6] from rfl) (Reps.one (show Kd.M (Kd.int .i64) _ _ _ 30 [.int .i64 30] from rfl) (Reps.one (show Kd.M (Kd.int .i64) _ _ _ 99 [.int .i64 99] from rfl) (Reps.one (show Kd.M (Kd.int .i64) _ _ _ 1 [.int .i64 1] from rfl) (Reps.none _ _))))))))); intro v231 w10 ho11 hb hg_ hnew_; clear hg_ hnew_; (first | rw [← Ny230.out] at ho11 | (simp only [Int.reduceToNat] at ho11; rw [← Ny230.out] at ho11)); have n0_ := z9_A (Kd.R_lower ho11 (keep_size (w := w) (g := g) (row := none) z9_8)); have n1_ := z9_A (IsS82.below z9_9 hb); have n2_ := z9_A (blk_below (g := gb229) (o := .cells #[.slice none 0 0, .int .i64 0, .int .i64 0, .int .i64 0] 30 (0, 0)) z9_4 hb); have n3_ := z9_A (KeepBut.trans z9_8 (KeepBut.of_below hb g none) (.inl rfl)); have n4_ := z9_A (below_step z9_10 hb); clear HI0 BK229 HK HB; revert n0_ n1_ n2_ n3_ n4_; intro HO232 HI0 BK229 HK HB; clear hb ho11; obtain ⟨Ao12, co12, eo12⟩ := Kd.R_slice HO232.out; subst eo12) | ((with_reducible refine gate_callee (f := 82) rfl ?_); refine goesL_ (some 9) rfl rfl Try.func82 z9_12 rfl #[.pointer (some ⟨g, 0, none⟩), .slice Ao12 y230.length co12] rfl z9_7 ?_; (with_reducible refine (spec_l1Cur_among.calls g s0_0 s0_1 s0_2 _ _ y230 t233 t234 t235 w0 _ ?side1 ?side2 ?side3 ?side4 ?side5 A2.out).mono ?_); (case side1 => repeat (first | (with_reducible first | exact HI0.out | apply IsS82.alloc | apply IsS82.drewN | apply IsS82.drew | apply IsS82.set_1 | apply IsS82.set_2 | refine IsS82.far ?_ NB0_229.out _) | exact HI0.out)); (case side2 => repeat (first | (with_reducible first | exact HB.out | apply below_alloc | apply pw_below_drewN | apply below_drew1 | refine below_set ?_ (IsS82.ge HI0.out) | refine below_set ?_ GE229.out) | exact HB.out)); (case side3 => have zh := (Kd.R_reads' HO232.out).2.2; exact z9_C); (case side4 => exact (Kd.R_reads' HO232.out).2.1); (case side5 => exact far_slice (IsS82.own_ne HI0.out HO232.out z9_14)); rintro e w13 ⟨rfl, hi, hb, hk⟩; refine ⟨_, rfl, ?_⟩; have n0_ := z9_A (KeepBut.blk hk (g' := gb229) (o := .cells #[.slice none 0 0, .int .i64 0, .int .i64 0, .int .i64 0] 30 (0, 0)) z9_4 NB229_0.out z9_18); have n1_ := z9_A (Kd.R_mono (Kd.R_keep (IsS82.apart (show IsS82 w0 _ g s0_0 s0_1 s0_2 from by repeat (first | (with_reducible first | exact HI0.out | apply IsS82.alloc | apply IsS82.drewN | apply IsS82.drew | apply IsS82.set_1 | apply IsS82.set_2 | refine IsS82.far ?_ NB0_229.out _) | exact HI0.out)) z9_11 z9_14) hk (fun _ h => h.2)) (fun _ h => h.1)); have n2_ := z9_A (KeepBut.trans z9_8 hk (.inl rfl)); have n3_ := z9_A (hb); have n4_ := z9_A (hi); clear BK229 HO232 HK HB HI0; revert n0_ n1_ n2_ n3_ n4_; intro BK229 HO232 HK HB HI0; (try clear hb); (try clear hb2); (try clear hk); (try clear hi)) | ((with_reducible refine gate_callee (f := 105) rfl ?_); refine goesL_ (some 11) rfl rfl Try.func105 z9_12 rfl #[.pointer (some ⟨g, 0, none⟩), .int .i64 3] rfl z9_7 ?_; (with_reducible refine (spec_l1Cur_pick.calls g s0_0 t234 t235 3 t236 t237 t238 w0 _ ?side1 ?side2 A3.out).mono ?_); (case side1 => repeat (first | (with_reducible first | exact HI0.out | apply IsS82.alloc | apply IsS82.drewN | apply IsS82.drew | apply IsS82.set_1 | apply IsS82.set_2 | refine IsS82.far ?_ NB0_229.out _) | exact HI0.out)); (case side2 => repeat (first | (with_reducible first | exact HB.out | apply below_alloc | apply pw_below_drewN | apply below_drew1 | refine below_set ?_ (IsS82.ge HI0.out) | refine below_set ?_ GE229.out) | exact HB.out)); rintro e w14 ⟨rfl, hi, hb, hk⟩; refine ⟨_, rfl, ?_⟩; have n0_ := z9_A (KeepBut.blk hk (g' := gb229) (o := .cells #[.slice none 0 0, .int .i64 0, .int .i64 0, .int .i64 0] 30 (0, 0)) z9_4 NB229_0.out z9_18); have n1_ := z9_A (Kd.R_mono (Kd.R_keep (IsS82.apart (show IsS82 w0 _ g s0_0 t234 t235 from by repeat (first | (with_reducible first | exact HI0.out | apply IsS82.alloc | apply IsS82.drewN | apply IsS82.drew | apply IsS82.set_1 | apply IsS82.set_2 | refine IsS82.far ?_ NB0_229.out _) | exact HI0.out)) z9_11 z9_14) hk (fun _ h => h.2)) (fun _ h => h.1)); have n2_ := z9_A (KeepBut.trans z9_8 hk (.inl rfl)); have n3_ := z9_A (hb); have n4_ := z9_A (hi); clear BK229 HO232 HK HB HI0; revert n0_ n1_ n2_ n3_ n4_; intro BK229 HO232 HK HB HI0; (try clear hb); (try clear hb2); (try clear hk); (try clear hi)) | ((with_reducible refine gate_callee (f := 105) rfl ?_); refine goesL_ (some 16) rfl rfl Try.func105 z9_12 rfl #[.pointer (some ⟨g, 0, none⟩), .int .i64 t233] rfl z9_7 ?_; (with_reducible refine (spec_l1Cur_pick.calls g s0_0 t237 t238 t233 t239 t240 t241 w0 _ ?side1 ?side2 A4.out).mono ?_); (case side1 => repeat (first | (with_reducible first | exact HI0.out | apply IsS82.alloc | apply IsS82.drewN | apply IsS82.drew | apply IsS82.set_1 | apply IsS82.set_2 | refine IsS82.far ?_ NB0_229.out _) | exact HI0.out)); (case side2 => repeat (first | (with_reducible first | exact HB.out | apply below_alloc | apply pw_below_drewN | apply below_drew1 | refine below_set ?_ (IsS82.ge HI0.out) | refine below_set ?_ GE229.out) | exact HB.out)); rintro e w15 ⟨rfl, hi, hb, hk⟩; refine ⟨_, rfl, ?_⟩; have n0_ := z9_A (KeepBut.blk hk (g' := gb229) (o := .cells #[.slice none 0 0, .int .i64 0, .int .i64 0, .int .i64 0] 30 (0, 0)) z9_4 NB229_0.out z9_18); have n1_ := z9_A (Kd.R_mono (Kd.R_keep (IsS82.apart (show IsS82 w0 _ g s0_0 t237 t238 from by repeat (first | (with_reducible first | exact HI0.out | apply IsS82.alloc | apply IsS82.drewN | apply IsS82.drew | apply IsS82.set_1 | apply IsS82.set_2 | refine IsS82.far ?_ NB0_229.out _) | exact HI0.out)) z9_11 z9_14) hk (fun _ h => h.2)) (fun _ h => h.1)); have n2_ := z9_A (KeepBut.trans z9_8 hk (.inl rfl)); have n3_ := z9_A (hb); have n4_ := z9_A (hi); clear BK229 HO232 HK HB HI0; revert n0_ n1_ n2_ n3_ n4_; intro BK229 HO232 HK HB HI0; (try clear hb); (try clear hb2); (try clear hk); (try clear hi)) | ((with_reducible refine gate_callee (f := 106) rfl ?_); refine goesL_ (some 19) rfl rfl Try.func106 z9_12 rfl #[.int .i64 (wrap64 (t236 + t239)), .int .i64 t233] rfl z9_7 ?_; (with_reducible refine (spec_l1Least.calls (wrap64 (t236 + t239)) t233 t242 _ A5.out).mono ?_); rintro e w' ⟨rfl, ⟨nd, rfl⟩⟩; refine ⟨_, rfl, ?_⟩; (try (rw [drewN_self w15]; generalize hq_ : World.drewN w15 _ = w15; have n0_ : Aside0 (Kd.R (Kd.int .i64) 3 w15 w.heap.size (fun _ => True) (.slice Ao12 y230.length co12) y230) := ⟨by rw [← hq_]; exact z9_11⟩; have n1_ : Aside0 (w15.heap[gb229]? = some (.cells #[.slice none 0 0, .int .i64 0, .int .i64 0, .int .i64 0] 30 (0, 0))) := ⟨by rw [← hq_]; exact z9_4⟩; have n2_ : Aside0 (IsS82 w0 w15 g s0_0 t240 t241) := ⟨by rw [← hq_]; exact z9_9⟩; have n3_ : Aside0 (KeepBut w w15 g none) := ⟨by rw [← hq_]; exact z9_8⟩; have n4_ : Aside0 (Below w0.heap.size w0 w15) := ⟨by rw [← hq_]; exact z9_10⟩; clear HO232 BK229 HI0 HK HB hq_; revert n0_ n1_ n2_ n3_ n4_; intro HO232 BK229 HI0 HK HB))) | ((with_reducible refine gate_callee (f := 106) rfl ?_); refine goesL_ (some 22) rfl rfl Try.func106 z9_12 rfl #[.int .i64 t236, .int .i64 t233] rfl z9_7 ?_; (with_reducible refine (spec_l1Least.calls t236 t233 t243 _ A6.out).mono ?_); rintro e w' ⟨rfl, ⟨nd, rfl⟩⟩; refine ⟨_, rfl, ?_⟩; (try (rw [drewN_self w15]; generalize hq_ : World.drewN w15 _ = w15; have n0_ : Aside0 (Kd.R (Kd.int .i64) 3 w15 w.heap.size (fun _ => True) (.slice Ao12 y230.length co12) y230) := ⟨by rw [← hq_]; exact z9_11⟩; have n1_ : Aside0 (w15.heap[gb229]? = some (.cells #[.slice none 0 0, .int .i64 0, .int .i64 0, .int .i64 0] 30 (0, 0))) := ⟨by rw [← hq_]; exact z9_4⟩; have n2_ : Aside0 (IsS82 w0 w15 g s0_0 t240 t241) := ⟨by rw [← hq_]; exact z9_9⟩; have n3_ : Aside0 (KeepBut w w15 g none) := ⟨by rw [← hq_]; exact z9_8⟩; have n4_ : Aside0 (Below w0.heap.size w0 w15) := ⟨by rw [← hq_]; exact z9_10⟩; clear HO232 BK229 HI0 HK HB hq_; revert n0_ n1_ n2_ n3_ n4_; intro HO232 BK229 HI0 HK HB))) | ((with_reducible refine gate_dst (N := 5) rfl ?_); refine box_event ?hg (N := 5) ?hd (cs := #[.slice none 0 0, .int .i64 0, .int .i64 0, .int .i64 0]) (t := 30) ?hr ?_; (case hd => rfl); (case hg => rfl); (case hr => first | (go_simp; done) | (go_simp; rfl)); intro gb244 hg w16 hbox hb; have n0_ := z9_A (Kd.R_below z9_11 hb); have n1_ := z9_A (IsS82.below z9_9 hb); have n2_ := z9_A (blk_below (g := gb229) (o := .cells #[.slice none 0 0, .int .i64 0, .int .i64 0, .int .i64 0] 30 (0, 0)) z9_4 hb); have n3_ := z9_A (KeepBut.trans z9_8 (KeepBut.of_below hb g none) (.inl rfl)); have n4_ := z9_A (below_step z9_10 hb); have n5_ := z9_A (hbox); have n6_ := z9_A ((by rw [hg]; exact (keep_size (w := w) (g := g) (row := none) z9_8) : w.heap.size ≤ gb244)); have n7_ := z9_A ((Nat.le_trans HW0.out (by rw [hg]; exact (keep_size (w := w) (g := g) (row := none) z9_8) : w.heap.size ≤ gb244) : w0.heap.size ≤ gb244)); have n8_ := z9_A ((by rw [hg]; exact Nat.ne_of_lt (blk_lt (g := gb229) (o := .cells #[.slice none 0 0, .int .i64 0, .int .i64 0, .int .i64 0] 30 (0, 0)) z9_4) : gb229 ≠ gb244)); have n9_ := z9_A ((by rw [hg]; exact Nat.ne_of_gt (blk_lt (g := gb229) (o := .cells #[.slice none 0 0, .int .i64 0, .int .i64 0, .int .i64 0] 30 (0, 0)) z9_4) : gb244 ≠ gb229)); have n10_ := z9_A ((by rw [hg]; exact Nat.ne_of_lt (IsS82.lt (show IsS82 w0 _ g s0_0 t240 t241 from by repeat (first | (with_reducible first | exact HI0.out | apply IsS82.alloc | apply IsS82.drewN | apply IsS82.drew | apply IsS82.set_1 | apply IsS82.set_2 | refine IsS82.far ?_ NB0_229.out _) | exact HI0.out))) : g ≠ gb244)); have n11_ := z9_A ((by rw [hg]; exact Nat.ne_of_gt (IsS82.lt (show IsS82 w0 _ g s0_0 t240 t241 from by repeat (first | (with_reducible first | exact HI0.out | apply IsS82.alloc | apply IsS82.drewN | apply IsS82.drew | apply IsS82.set_1 | apply IsS82.set_2 | refine IsS82.far ?_ NB0_229.out _) | exact HI0.out))) : gb244 ≠ g)); clear HO232 HI0 BK229 HK HB; revert n0_ n1_ n2_ n3_ n4_ n5_ n6_ n7_ n8_ n9_ n10_ n11_; intro HO232 HI0 BK229 HK HB BK244 GW244 GE244 NB229_244 NB244_229 NB0_244 NB244_0; clear hb hbox hg; have hnb17 := NB244_229.out; have hnc17 := NB229_244.out; have hnb18 := NB244_0.out; have hnc18 := NB0_244.out; have hcz19_0 : w16.cell? ⟨gb244, 0, none⟩ = some (.slice none 0 0) := (blk_cell BK244.out 0).trans rfl; have hcz19_1 : w16.cell? ⟨gb244, 1, none⟩ = some (.int .i64 0) := (blk_cell BK244.out 1).trans rfl; have hcz19_2 : w16.cell? ⟨gb244, 2, none⟩ = some (.int .i64 0) := (blk_cell BK244.out 2).trans rfl; have hcz19_3 : w16.cell? ⟨gb244, 3, none⟩ = some (.int .i64 0) := (blk_cell BK244.out 3).trans rfl; have hfz19_0 := blk_frozen BK244.out 0; have hfz19_1 := blk_frozen BK244.out 1; have hfz19_2 := blk_frozen BK244.out 2; have hfz19_3 := blk_frozen BK244.out 3) | ((with_reducible refine gate_callee (f := 106) rfl ?_); refine goesL_ (some 28) rfl rfl Try.func106 z9_12 rfl #[.int .i64 t243, .int .i64 t242] rfl z9_7 ?_; (with_reducible refine (spec_l1Least.calls t243 t242 t245 _ A7.out).mono ?_); rintro e w' ⟨rfl, ⟨nd, rfl⟩⟩; refine ⟨_, rfl, ?_⟩) | ((with_reducible refine gate_callee (f := 105) rfl ?_); refine goesL_ (some 31) rfl rfl Try.func105 z9_12 rfl #[.pointer (some ⟨g, 0, none⟩), .int .i64 9] rfl z9_7 ?_; (with_reducible refine (spec_l1Cur_pick.calls g s0_0 t240 t241 9 t246 t247 t248 w0 _ ?side1 ?side2 A8.out).mono ?_); (case side1 => repeat (first | (with_reducible first | exact HI0.out | apply IsS82.alloc | apply IsS82.drewN | apply IsS82.drew | apply IsS82.set_1 | apply IsS82.set_2 | refine IsS82.far ?_ NB0_229.out _ | refine IsS82.far ?_ NB0_244.out _) | exact HI0.out)); (case side2 => repeat (first | (with_reducible first | exact HB.out | apply below_alloc | apply pw_below_drewN | apply below_drew1 | refine below_set ?_ (IsS82.ge HI0.out) | refine below_set ?_ GE229.out | refine below_set ?_ GE244.out) | exact HB.out)); rintro e w20 ⟨rfl, hi, hb, hk⟩; refine ⟨_, rfl, ?_⟩; have n0_ := z9_A (KeepBut.blk hk (g' := gb229) (o := .cells #[.slice none 0 0, .int .i64 0, .int .i64 0, .int .i64 0] 30 (0, 0)) (by (with_reducible repeat (first | refine blk_drewN ?_ _ | refine blk_drew ?_ | refine blk_alloc ?_ _)); refine blk_far ?_ NB229_244.out _; (with_reducible repeat (first | refine blk_drewN ?_ _ | refine blk_drew ?_ | refine blk_alloc ?_ _)); refine blk_far ?_ NB229_244.out _; (with_reducible repeat (first | refine blk_drewN ?_ _ | refine blk_drew ?_ | refine blk_alloc ?_ _)); refine blk_far ?_ NB229_244.out _; (with_reducible repeat (first | refine blk_drewN ?_ _ | refine blk_drew ?_ | refine blk_alloc ?_ _)); refine blk_far ?_ NB229_244.out _; (with_reducible repeat (first | refine blk_drewN ?_ _ | refine blk_drew ?_ | refine blk_alloc ?_ _)); refine blk_far ?_ NB229_244.out _; (with_reducible repeat (first | refine blk_drewN ?_ _ | refine blk_drew ?_ | refine blk_alloc ?_ _)); exact BK229.out) NB229_0.out z9_18); have n1_ := z9_A (Kd.R_mono (Kd.R_keep (IsS82.apart (show IsS82 w0 _ g s0_0 t240 t241 from by repeat (first | (with_reducible first | exact HI0.out | apply IsS82.alloc | apply IsS82.drewN | apply IsS82.drew | apply IsS82.set_1 | apply IsS82.set_2 | refine IsS82.far ?_ NB0_229.out _ | refine IsS82.far ?_ NB0_244.out _) | exact HI0.out)) (by (with_reducible repeat (first | apply Kd.R_alloc | apply Kd.R_drewN | apply Kd.R_drew)); exact (Kd.R_mono (Kd.R_far (p := ⟨gb244, 3, none⟩) (Kd.R_far (p := ⟨gb244, 3, none⟩) (Kd.R_far (p := ⟨gb244, 2, none⟩) (Kd.R_far (p := ⟨gb244, 1, none⟩) (Kd.R_far (p := ⟨gb244, 0, none⟩) (Kd.R_types HO232.out BK244.out z9_14) (fun _ hk => hk.2) (.slice none 0 0)) (fun _ hk => hk.2) (.int .i64 t233)) (fun _ hk => hk.2) (.int .i64 t242)) (fun _ hk => hk.2) (.int .i64 t243)) (fun _ hk => hk.2) (.int .i64 t245)) (fun _ h_ => h_.1))) z9_14) hk (fun _ h => h.2)) (fun _ h => h.1)); have n2_ := z9_A (KeepBut.blk hk (g' := gb244) (o := .cells #[.slice none 0 0, .int .i64 t233, .int .i64 t242, .int .i64 t245] 30 (0, 0)) (by (with_reducible repeat (first | refine blk_drewN ?_ _ | refine blk_drew ?_ | refine blk_alloc ?_ _)); refine blk_put (cs := #[.slice none 0 0, .int .i64 t233, .int .i64 t242, .int .i64 t243]) ?_ 3 _ rfl; (with_reducible repeat (first | refine blk_drewN ?_ _ | refine blk_drew ?_ | refine blk_alloc ?_ _)); refine blk_put (cs := #[.slice none 0 0, .int .i64 t233, .int .i64 t242, .int .i64 0]) ?_ 3 _ rfl; (with_reducible repeat (first | refine blk_drewN ?_ _ | refine blk_drew ?_ | refine blk_alloc ?_ _)); refine blk_put (cs := #[.slice none 0 0, .int .i64 t233, .int .i64 0, .int .i64 0]) ?_ 2 _ rfl; (with_reducible repeat (first | refine blk_drewN ?_ _ | refine blk_drew ?_ | refine blk_alloc ?_ _)); refine blk_put (cs := #[.slice none 0 0, .int .i64 0, .int .i64 0, .int .i64 0]) ?_ 1 _ rfl; (with_reducible repeat (first | refine blk_drewN ?_ _ | refine blk_drew ?_ | refine blk_alloc ?_ _)); refine blk_put (cs := #[.slice none 0 0, .int .i64 0, .int .i64 0, .int .i64 0]) ?_ 0 _ rfl; (with_reducible repeat (first | refine blk_drewN ?_ _ | refine blk_drew ?_ | refine blk_alloc ?_ _)); exact BK244.out) NB244_0.out z9_18); have n3_ := z9_A (KeepBut.trans z9_1 hk (.inl rfl)); have n4_ := z9_A (hb); have n5_ := z9_A (hi); clear BK229 HO232 BK244 HK HB HI0; revert n0_ n1_ n2_ n3_ n4_ n5_; intro BK229 HO232 BK244 HK HB HI0; (try clear hb); (try clear hb2); (try clear hk); (try clear hi)))
 go_loopg [6] k (fun kq v6 w' => ∃ (x6_1 : Int) (x1001_1 : Int) (x1002_1 : Int) (x245000_1 : List Int) (u245000 : Value), v6 = .int .i64 x6_1 ∧ Aside0 (spec_l1Cur_market.l0 kq x6_1 s0_0 x1001_1 x1002_1 x245000_1 t233 t242 t245 = some (r1, r2, r3, r4, r5, r6)) ∧ Aside0 (kq ≤ k) ∧ Aside0 (Kd.R (Kd.int .i64) 3 w' w.heap.size (fun _ => True) u245000 x245000_1) ∧ Aside0 (w'.heap[gb229]? = some (.cells #[(.slice none 0 0), .int .i64 0, .int .i64 0, .int .i64 0] 30 (0, 0))) ∧ Aside0 (w'.heap[gb244]? = some (.cells #[u245000, .int .i64 t233, .int .i64 t242, .int .i64 t245] 30 (0, 0))) ∧ Aside0 (IsS82 w0 w' g s0_0 x1001_1 x1002_1) ∧ Aside0 (KeepBut w w' g none) ∧ Aside0 (Below w0.heap.size w0 w'))
 case atStart => exact ⟨(wrap64 (1 + t246)), (t247), (t248), (([] : List Int)), (.slice none 0 0), (by first | rfl | (simp; done) | (simp [*]; done)), H', ⟨Nat.le_refl _⟩, ⟨by first | exact Kd.R_nil _ _ _ _ _ | exact Kd.N_nil _ _ _ _ _ | exact Kd.V_nil _ _ _ _ _ | exact Kd.Q_nil _ _ _ _ _ | exact Kd.S_nil _ _ _ _ _⟩, ⟨z9_4⟩, ⟨z9_6⟩, ⟨z9_2⟩, ⟨z9_1⟩, ⟨z9_3⟩⟩
 case round =>
  clear H'
  (try clear hcz19_0); (try clear hcz19_1); (try clear hcz19_2); (try clear hcz19_3); (try clear hfz19_0); (try clear hfz19_1); (try clear hfz19_2); (try clear hfz19_3)
  obtain ⟨x6_1, x1001_1, x1002_1, x245000_1, u245000, rfl, HA, HK1, HO_245000, BK229, BK244, HI0, HK, HB⟩ := hrel
  cases gk with
  | zero => exact absurd HA.out (by simp [spec_l1Cur_market.l0])
  | succ k1 =>
   have H := HA.out
   clear HA
   simp only [spec_l1Cur_market.l0] at H
   by_cases c21 : x6_1 > 0
   ·rw [if_pos c21] at H
    have c21b0 : decide (0 < x6_1) = true := decide_eq_true c21
    clear c21
    obtain ⟨y249, hy249⟩ : ∃ y_ : List Int, y_ = (([1, 2, 1, 0, 3, 4] : List Int)) := ⟨_, rfl⟩
    replace H : ((spec_l1Cur_among.f s0_0 x1001_1 x1002_1 y249).bind fun bt252 => (if x245000_1.length < 17592186044416 then (spec_l1Cur_market.l0 k1 (wrap64 (x6_1 - 1)) s0_0 bt252.2.1 bt252.2.2 (x245000_1 ++ [bt252.1]) t233 t242 t245) else (none))) = some (r1, r2, r3, r4, r5, r6) := by first | (rw [hy249]; with_reducible exact H) | (have H2_ := (Option.bind_some _ _).symm.trans H; rw [hy249]; with_reducible exact H2_) | (have H2_ := (Option.bind_some _ _).symm.trans H; with_reducible exact H2_) | with_reducible exact H | (rw [hy249]; exact H) | exact H
    have Ny249 := z9_A hy249
    clear hy249
    replace H := Option.bind_eq_some_iff.mp H
    obtain ⟨⟨t252, t253, t254⟩, A220, H⟩ := H
    (try dsimp only at H)
    have A22 := z9_A A220
    clear A220
    by_cases c23 : x245000_1.length < 17592186044416
    ·rw [if_pos c23] at H
     have LMc23 := z9_A c23
     clear c23
     obtain ⟨y255, hy255⟩ : ∃ y_ : List Int, y_ = (x245000_1 ++ [t252]) := ⟨_, rfl⟩
     replace H : (spec_l1Cur_market.l0 k1 (wrap64 (x6_1 - 1)) s0_0 t253 t254 y255 t233 t242 t245) = some (r1, r2, r3, r4, r5, r6) := by first | (rw [hy255]; with_reducible exact H) | (have H2_ := (Option.bind_some _ _).symm.trans H; rw [hy255]; with_reducible exact H2_) | (have H2_ := (Option.bind_some _ _).symm.trans H; with_reducible exact H2_) | with_reducible exact H | (rw [hy255]; exact H) | exact H
     have Ny255 := z9_A hy255
     clear hy255
     have H' := z9_A H
     clear H
     try go_wp2
     have n0_ := z9_A (Kd.R_drew HO_245000.out)
     have n1_ := z9_A (blk_drew BK229.out)
     have n2_ := z9_A (blk_drew BK244.out)
     have n3_ := z9_A (IsS82.drew HI0.out)
     have n4_ := z9_A (keep_drew HK.out)
     have n5_ := z9_A (below_drew1 HB.out)
     clear HO_245000
     clear BK229
     clear BK244
     clear HI0
     clear HK
     clear HB
     have HO_245000 := n0_
     have BK229 := n1_
     have BK244 := n2_
     have HI0 := n3_
     have HK := n4_
     have HB := n5_
     clear n0_ n1_ n2_ n3_ n4_ n5_
     refine start_ (n := 9) (S := fun w' => w'.cell? ⟨gb244, 0, none⟩ = some (u245000) ∧ w'.cell? ⟨gb244, 1, none⟩ = some (.int .i64 t233) ∧ w'.cell? ⟨gb244, 2, none⟩ = some (.int .i64 t242) ∧ w'.cell? ⟨gb244, 3, none⟩ = some (.int .i64 t245)) (ds := [8]) #[false, false, false, false, false, false, false, false, false] z9_12 rfl rfl ⟨(blk_cell BK244.out 0).trans rfl, (blk_cell BK244.out 1).trans rfl, (blk_cell BK244.out 2).trans rfl, (blk_cell BK244.out 3).trans rfl⟩ (fun hHeld => ?_); refine with_tabW spec_l1Cur_market.tab8 spec_l1Cur_market.bits8 (fun HT_ HW_ => ?_)
     generalize wr.drew = w24 at HO_245000 BK229 BK244 HI0 HK HB hHeld ⊢
     refine pure_ (i := 0) (N := some 37) (v := ?_) (a' := ?_) #[true, false, false, false, false, false, false, false, false] rfl rfl (any_of HT_.out z9_12) (fun _ _ _ h => h) (Or.inl ⟨by rfl, ?_⟩) ?_ ?_
     rotate_left
     ·intro w'
      go_simp
      with_reducible rfl
     rotate_left
     ·simp only [Act.put, List.setIfInBounds_toArray, List.set_cons_zero, List.set_cons_succ, i64_w, i32_w]
      rfl
     refine pure_ (i := 2) (N := some 39) (v := ?_) (a' := ?_) #[true, false, true, false, false, false, false, false, false] rfl rfl (any_of HT_.out z9_12) (fun _ _ _ h => h) (Or.inl ⟨by rfl, ?_⟩) ?_ ?_
     rotate_left
     ·intro w'
      go_simp
      with_reducible rfl
     rotate_left
     ·simp only [Act.put, List.setIfInBounds_toArray, List.set_cons_zero, List.set_cons_succ, i64_w, i32_w]
      rfl
     refine take_ (i := 1) (N := some 38) (v := ?_) (a' := ?_) #[true, true, true, false, false, false, false, false, false] rfl rfl (take_ofW HT_.out HW_.out z9_12) (fun _ _ _ h => h) (Or.inl ⟨by rfl, ?_⟩) hHeld ?_ ?_
     rotate_left
     ·rintro w' ⟨s0, s1, s2, s3⟩
      go_simp
      with_reducible rfl
     rotate_left
     ·simp only [Act.put, List.setIfInBounds_toArray, List.set_cons_zero, List.set_cons_succ, i64_w, i32_w]
      rfl
     refine one_ (i := 3) (N := some 40) #[true, true, true, true, false, false, false, false, false] rfl rfl (one_of HT_.out z9_12) z9_14 (fun K hK => ?_)
     refine Kd.R_lit_step (Kd.int .i64) _ 3 ?hg (N := 40) ?hd (xs := ([1, 2, 1, 0, 3, 4] : List Int)) (inner := [.int .i64 1, .int .i64 2, .int .i64 1, .int .i64 0, .int .i64 3, .int .i64 4]) (ok := fun _ => True) (okp := fun _ => True) ?hr ?hp (fun _ hk => hk) trivial (Below.refl _ _) (Nat.le_refl _) z9_18 ?_; (case hd => rfl); (case hg => rfl); (case hr => first | (go_simp; done) | (go_simp; rfl)); (case hp => exact (Reps.one (show Kd.M (Kd.int .i64) _ _ _ 1 [.int .i64 1] from rfl) (Reps.one (show Kd.M (Kd.int .i64) _ _ _ 2 [.int .i64 2] from rfl) (Reps.one (show Kd.M (Kd.int .i64) _ _ _ 1 [.int .i64 1] from rfl) (Reps.one (show Kd.M (Kd.int .i64) _ _ _ 0 [.int .i64 0] from rfl) (Reps.one (show Kd.M (Kd.int .i64) _ _ _ 3 [.int .i64 3] from rfl) (Reps.one (show Kd.M (Kd.int .i64) _ _ _ 4 [.int .i64 4] from rfl) (Reps.none _ _))))))))
     intro v250 w25 ho26 hb hg_ hnew_
     clear hg_ hnew_
     (first | rw [← Ny249.out] at ho26 | (simp only [Int.reduceToNat] at ho26; rw [← Ny249.out] at ho26))
     have n0_ := z9_A (Kd.R_elder' z9_5 (Kd.R_base ho26) hb)
     have n1_ := z9_A (Kd.R_lower (Kd.R_new' ho26 (Kd.R_lt z9_5)) (keep_size (w := w) (g := g) (row := none) z9_1))
     have n2_ := z9_A (blk_below (g := gb229) (o := .cells #[.slice none 0 0, .int .i64 0, .int .i64 0, .int .i64 0] 30 (0, 0)) z9_4 hb)
     have n3_ := z9_A (blk_below (g := gb244) (o := .cells #[u245000, .int .i64 t233, .int .i64 t242, .int .i64 t245] 30 (0, 0)) z9_6 hb)
     have n4_ := z9_A (IsS82.below z9_2 hb)
     have n5_ := z9_A (KeepBut.trans z9_1 (KeepBut.of_below hb g none) (.inl rfl))
     have n6_ := z9_A (below_step z9_3 hb)
     clear HO_245000
     clear BK229
     clear BK244
     clear HI0
     clear HK
     clear HB
     have HO_245000 := n0_
     have HO251 := n1_
     have BK229 := n2_
     have BK244 := n3_
     have HI0 := n4_
     have HK := n5_
     have HB := n6_
     clear n0_ n1_ n2_ n3_ n4_ n5_ n6_
     clear hb ho26
     obtain ⟨Ao27, co27, eo27⟩ := Kd.R_slice HO251.out
     (first | subst eo27 | (injection eo27 with f1_ f2_ f3_; have f4_ := f1_.symm; have f5_ := f3_.symm; clear f1_ f2_ f3_; subst f4_; subst f5_))
     refine hK.out _ _ ⟨(blk_cell BK244.out 0).trans rfl, (blk_cell BK244.out 1).trans rfl, (blk_cell BK244.out 2).trans rfl, (blk_cell BK244.out 3).trans rfl⟩ (fun hHeld => ?_)
     clear hK K
     refine norm_ (a' := ?_) ?_ ?_
     rotate_left
     ·show Act.put _ (some 40) _ = _
      simp only [Act.put, List.setIfInBounds_toArray, List.set_cons_zero, List.set_cons_succ, i64_w, i32_w]
      rfl
     refine one_ (i := 4) (N := some 41) #[true, true, true, true, true, false, false, false, false] rfl rfl (one_of HT_.out z9_12) z9_14 (fun K hK => ?_)
     refine goes_ Try.func82 z9_12 rfl #[.pointer (some ⟨g, 0, none⟩), .slice Ao27 y249.length co27] (by rfl) rfl rfl z9_7 ?_
     with_reducible refine (spec_l1Cur_among.calls g s0_0 x1001_1 x1002_1 _ _ y249 t252 t253 t254 w0 _ ?side1 ?side2 ?side3 ?side4 ?side5 A22.out).mono ?_
     (case side1 => repeat (first | (with_reducible first | exact HI0.out | apply IsS82.alloc | apply IsS82.drewN | apply IsS82.drew | apply IsS82.set_1 | apply IsS82.set_2 | refine IsS82.far ?_ NB0_229.out _ | refine IsS82.far ?_ NB0_244.out _) | exact HI0.out))
     (case side2 => repeat (first | (with_reducible first | exact HB.out | apply below_alloc | apply pw_below_drewN | apply below_drew1 | refine below_set ?_ (IsS82.ge HI0.out) | refine below_set ?_ GE229.out | refine below_set ?_ GE244.out) | exact HB.out))
     (case side3 => have zh := (Kd.R_reads' HO251.out).2.2; exact z9_C)
     (case side4 => exact (Kd.R_reads' HO251.out).2.1)
     (case side5 => exact far_slice (IsS82.own_ne HI0.out HO251.out z9_14))
     rintro e w28 ⟨rfl, hi, hb, hk⟩
     refine ⟨_, rfl, ?_⟩
     have n0_ := z9_A (Kd.R_mono (Kd.R_keep (IsS82.apart (show IsS82 w0 _ g s0_0 x1001_1 x1002_1 from by repeat (first | (with_reducible first | exact HI0.out | apply IsS82.alloc | apply IsS82.drewN | apply IsS82.drew | apply IsS82.set_1 | apply IsS82.set_2 | refine IsS82.far ?_ NB0_229.out _ | refine IsS82.far ?_ NB0_244.out _) | exact HI0.out)) z9_5 z9_14) hk (fun _ h => h.2)) (fun _ h => h.1))
     have n1_ := z9_A (KeepBut.blk hk (g' := gb229) (o := .cells #[.slice none 0 0, .int .i64 0, .int .i64 0, .int .i64 0] 30 (0, 0)) z9_4 NB229_0.out z9_18)
     have n2_ := z9_A (KeepBut.blk hk (g' := gb244) (o := .cells #[u245000, .int .i64 t233, .int .i64 t242, .int .i64 t245] 30 (0, 0)) z9_6 NB244_0.out z9_18)
     have n3_ := z9_A (Kd.R_mono (Kd.R_keep (IsS82.apart (show IsS82 w0 _ g s0_0 x1001_1 x1002_1 from by repeat (first | (with_reducible first | exact HI0.out | apply IsS82.alloc | apply IsS82.drewN | apply IsS82.drew | apply IsS82.set_1 | apply IsS82.set_2 | refine IsS82.far ?_ NB0_229.out _ | refine IsS82.far ?_ NB0_244.out _) | exact HI0.out)) z9_17 z9_14) hk (fun _ h => h.2)) (fun _ h => h.1))
     have n4_ := z9_A (KeepBut.trans z9_1 hk (.inl rfl))
     have n5_ := z9_A (hb)
     have n6_ := z9_A (hi)
     clear HO_245000
     clear BK229
     clear BK244
     clear HO251
     clear HK
     clear HB
     clear HI0
     have HO_245000 := n0_
     have BK229 := n1_
     have BK244 := n2_
     have HO251 := n3_
     have HK := n4_
     have HB := n5_
     have HI0 := n6_
     clear n0_ n1_ n2_ n3_ n4_ n5_ n6_
     (try clear hb)
     (try clear hb2)
     (try clear hk)
     (try clear hi)
     refine hK.out _ _ ⟨(blk_cell BK244.out 0).trans rfl, (blk_cell BK244.out 1).trans rfl, (blk_cell BK244.out 2).trans rfl, (blk_cell BK244.out 3).trans rfl⟩ (fun hHeld => ?_)
     clear hK K
     refine norm_ (a' := ?_) ?_ ?_
     rotate_left
     ·show Act.put _ (some 41) _ = _
      simp only [Act.put, List.setIfInBounds_toArray, List.set_cons_zero, List.set_cons_succ, i64_w, i32_w]
      rfl
     refine one_ (i := 5) (N := some 42) #[true, true, true, true, true, true, false, false, false] rfl rfl (one_of HT_.out z9_12) z9_14 (fun K hK => ?_)
     refine value_ (w1 := ?_) (v := ?_) (by rfl) rfl ?_ ?_
     rotate_left 2
     ·go_simp
      constructor
      ·rfl
      ·rfl
     refine hK.out _ _ ⟨(blk_cell (blk_alloc BK244.out _) 0).trans rfl, (blk_cell (blk_alloc BK244.out _) 1).trans rfl, (blk_cell (blk_alloc BK244.out _) 2).trans rfl, (blk_cell (blk_alloc BK244.out _) 3).trans rfl⟩ (fun hHeld => ?_)
     clear hK K
     refine norm_ (a' := ?_) ?_ ?_
     rotate_left
     ·show Act.put _ (some 42) _ = _
      simp only [Act.put, List.setIfInBounds_toArray, List.set_cons_zero, List.set_cons_succ, i64_w, i32_w]
      rfl
     refine one_ (i := 6) (N := some 43) #[true, true, true, true, true, true, true, false, false] rfl rfl (one_of HT_.out z9_12) z9_14 (fun K hK => ?_)
     refine Kd.R_append_step (Kd.int .i64) w.heap.size (by rfl) (.tmp 38) (.tmp 42) 22 3 (.int .i64 0) 8 rfl Try.underlying22 info3 rfl z9_14 (by omega) u245000 x245000_1 t252 [.int .i64 t252] (fun k_ => z9_S k_ Ao27 y249.length co27) (fun _ => False) rfl rfl ?aP (fun _ hk => hk.elim) ?aF ?aO (Below.refl _ _) ?aS ?aL ?_
     (case aP => exact rfl)
     (case aF => exact (fun k_ hk => Kd.fresh' (Kd.R_lt z9_17) k_ hk))
     (case aO => exact (by (with_reducible repeat (first | apply Kd.R_alloc | apply Kd.R_drewN | apply Kd.R_drew)); exact Kd.R_mono HO_245000.out (fun _ hk => hk.2)))
     (case aS => exact (keep_size (w := w) (g := g) (row := none) z9_1))
     (case aL => have := LMc23.out; omega)
     intro v256 w29 ho hb hg hat
     rw [← Ny255.out] at ho
     have n0_ := z9_A (blk_grown (g := gb229) (o := .cells #[.slice none 0 0, .int .i64 0, .int .i64 0, .int .i64 0] 30 (0, 0)) z9_4 hg (Kd.R_ne HO_245000.out BK229.out z9_14))
     have n1_ := z9_A (blk_grown (g := gb244) (o := .cells #[u245000, .int .i64 t233, .int .i64 t242, .int .i64 t245] 30 (0, 0)) z9_6 hg (Kd.R_ne HO_245000.out BK244.out z9_14))
     have n2_ := z9_A (IsS82.grown z9_2 hg (IsS82.own_ne HI0.out HO_245000.out z9_14))
     have n3_ := z9_A (Kd.R_after (ok := (fun _ => True)) z9_17 hg hat)
     have n4_ := z9_A (below_weaken z9_3 HL.out hb)
     have n5_ := z9_A (KeepBut.trans z9_1 (KeepBut.of_grown hg g) (Kd.R_base2 HO_245000.out))
     have n6_ := z9_A (ho)
     clear BK229
     clear BK244
     clear HI0
     clear HO251
     clear HB
     clear HK
     clear HO_245000
     have BK229 := n0_
     have BK244 := n1_
     have HI0 := n2_
     have HO251 := n3_
     have HB := n4_
     have HK := n5_
     have HO257 := n6_
     clear n0_ n1_ n2_ n3_ n4_ n5_ n6_
     clear ho hb hg hat
     obtain ⟨Ao30, co30, eo30⟩ := Kd.R_slice HO257.out
     (first | subst eo30 | (injection eo30 with f1_ f2_ f3_; have f4_ := f1_.symm; have f5_ := f3_.symm; clear f1_ f2_ f3_; subst f4_; subst f5_))
     refine hK.out _ _ ⟨(blk_cell BK244.out 0).trans rfl, (blk_cell BK244.out 1).trans rfl, (blk_cell BK244.out 2).trans rfl, (blk_cell BK244.out 3).trans rfl⟩ (fun hHeld => ?_)
     clear hK K
     refine norm_ (a' := ?_) ?_ ?_
     rotate_left
     ·show Act.put _ (some 43) _ = _
      simp only [Act.put, List.setIfInBounds_toArray, List.set_cons_zero, List.set_cons_succ, i64_w, i32_w]
      rfl
     refine pure_ (i := 7) (N := some 44) (v := ?_) (a' := ?_) #[true, true, true, true, true, true, true, true, false] rfl rfl (any_of HT_.out z9_12) (fun _ _ _ h => h) (Or.inl ⟨by rfl, ?_⟩) ?_ ?_
     rotate_left
     ·intro w'
      go_simp
      with_reducible rfl
     rotate_left
     ·simp only [Act.put, List.setIfInBounds_toArray, List.set_cons_zero, List.set_cons_succ, i64_w, i32_w]
      rfl
     refine last_ (i := 8) (N := none) #[true, true, true, true, true, true, true, true, true] rfl rfl (one_of HT_.out z9_12) z9_14 (fun K hK => ?_)
     have hs31 : w29.cell? ⟨gb244, 0, none⟩ = some (u245000) := (blk_cell BK244.out 0).trans rfl
     have hfs31 := blk_frozen BK244.out 0
     have hns31_0 := NB229_244.out
     have hms31_0 := NB244_229.out
     refine skip_ (w1 := ?_) (by rfl) rfl ?_ ?_
     rotate_left
     ·go_simp
      rfl
     refine hK.out _ _ ?_
     clear hK K
     refine done_ (done_of HT_.out z9_12) ?_
     try go_wp2
     go_roundg k1
     case measure => have := HK1.out; omega
     case rel => exact ⟨(wrap64 (x6_1 - 1)), (t253), (t254), (y255), (.slice Ao30 y255.length co30), (by first | rfl | (simp; done) | (simp [*]; done)), H', ⟨by have := HK1.out; omega⟩, ⟨by (with_reducible repeat (first | apply Kd.R_alloc | apply Kd.R_drewN | apply Kd.R_drew)); exact Kd.R_mono (Kd.R_far (p := ⟨gb244, 0, none⟩) (Kd.R_types HO257.out BK244.out z9_14) (fun _ hk => hk.2) (.slice Ao30 y255.length co30)) (fun _ hk => trivial)⟩, ⟨z9_16⟩, ⟨by (with_reducible repeat (first | refine blk_drewN ?_ _ | refine blk_drew ?_ | refine blk_alloc ?_ _)); refine blk_put (cs := #[u245000, .int .i64 t233, .int .i64 t242, .int .i64 t245]) ?_ 0 _ rfl; (with_reducible repeat (first | refine blk_drewN ?_ _ | refine blk_drew ?_ | refine blk_alloc ?_ _)); exact BK244.out⟩, ⟨z9_2⟩, ⟨z9_1⟩, ⟨z9_3⟩⟩
    ·rw [if_neg c23] at H
     exact absurd H z9_18
   ·rw [if_neg c21] at H
    have c21b0 : decide (0 < x6_1) = false := decide_eq_false c21
    clear c21
    replace H := Option.bind_eq_some_iff.mp H
    obtain ⟨t258, A320, H⟩ := H
    (try dsimp only at H)
    have A32 := z9_A A320
    clear A320
    have HC33 := z9_A H
    clear H
    have hnb34 := NB244_229.out
    have hnc34 := NB229_244.out
    have hnb35 := NB244_0.out
    have hnc35 := NB0_244.out
    have hcz36_0 : wr.cell? ⟨gb244, 0, none⟩ = some (u245000) := (blk_cell BK244.out 0).trans rfl
    have hcz36_1 : wr.cell? ⟨gb244, 1, none⟩ = some (.int .i64 t233) := (blk_cell BK244.out 1).trans rfl
    have hcz36_2 : wr.cell? ⟨gb244, 2, none⟩ = some (.int .i64 t242) := (blk_cell BK244.out 2).trans rfl
    have hcz36_3 : wr.cell? ⟨gb244, 3, none⟩ = some (.int .i64 t245) := (blk_cell BK244.out 3).trans rfl
    have hfz36_0 := blk_frozen BK244.out 0
    have hfz36_1 := blk_frozen BK244.out 1
    have hfz36_2 := blk_frozen BK244.out 2
    have hfz36_3 := blk_frozen BK244.out 3
    obtain ⟨Ao37, co37, eo37⟩ := Kd.R_slice HO_245000.out
    subst eo37
    go_upto_if 48 with (first | ((with_reducible refine gate_callee (f := 101) rfl ?_); refine goesL_ (some 47) rfl rfl Try.func101 z9_12 rfl #[.slice Ao37 x245000_1.length co37] rfl z9_7 ?_; (with_reducible refine (spec_l2Sum.calls k1 _ _ x245000_1 t258 _ ?side1 ?side2 A32.out).mono ?_); (case side1 => have zh := (Kd.R_reads' HO_245000.out).2.2; exact z9_C); (case side2 => exact (Kd.R_reads' HO_245000.out).2.1); rintro e w' ⟨rfl, ⟨nd, rfl⟩⟩; refine ⟨_, rfl, ?_⟩))
    (try simp only [Act.put, List.setIfInBounds_toArray, List.set_cons_zero, List.set_cons_succ])
    go_cut [] (fun wc => ∃ (kq : Nat) (x245000_32 : List Int) (u245000 : Value), Aside0 (spec_l1Cur_market.j1 kq s0_0 x1001_1 x1002_1 x245000_32 t233 t242 t245 = some (r1, r2, r3, r4, r5, r6)) ∧ Aside0 (kq ≤ k1) ∧ Aside0 (Kd.R (Kd.int .i64) 3 wc w.heap.size (fun _ => True) u245000 x245000_32) ∧ Aside0 (wc.heap[gb229]? = some (.cells #[(.slice none 0 0), .int .i64 0, .int .i64 0, .int .i64 0] 30 (0, 0))) ∧ Aside0 (wc.heap[gb244]? = some (.cells #[u245000, .int .i64 t233, .int .i64 t242, .int .i64 t245] 30 (0, 0))) ∧ Aside0 (IsS82 w0 wc g s0_0 x1001_1 x1002_1) ∧ Aside0 (KeepBut w wc g none) ∧ Aside0 (Below w0.heap.size w0 wc))
    case first =>
     have H := HC33.out
     clear HC33
     by_cases c38 : t258 = 0
     ·rw [if_pos c38] at H
      have c38b0 : (t258 == 0) = true := beq_iff_eq.mpr c38
      have c38b1 : (t258 != 0) = false := bne_eq_false_iff_eq.mpr c38
      clear c38
      (first | rw [c38b0] | (simp only [i64_w, i32_w]; rw [c38b0]) | skip)
      by_cases c39 : 0 < (x245000_1.length : Int)
      ·rw [if_pos c39] at H
       have c39b0 : decide (0 < (x245000_1.length : Int)) = true := decide_eq_true c39
       have c39b1 : decide (0 < x245000_1.length) = true := decide_eq_true (by omega)
       clear c39
       obtain ⟨y259, hy259⟩ : ∃ y_ : List Int, y_ = (x245000_1.set (0 : Int).toNat 1) := ⟨_, rfl⟩
       replace H : (spec_l1Cur_market.j1 k1 s0_0 x1001_1 x1002_1 y259 t233 t242 t245) = some (r1, r2, r3, r4, r5, r6) := by first | (rw [hy259]; with_reducible exact H) | (have H2_ := (Option.bind_some _ _).symm.trans H; rw [hy259]; with_reducible exact H2_) | (have H2_ := (Option.bind_some _ _).symm.trans H; with_reducible exact H2_) | with_reducible exact H | (rw [hy259]; exact H) | exact H
       have Ny259 := z9_A hy259
       clear hy259
       have H' := z9_A H
       clear H
       have hnb41 := NB244_229.out
       have hnc41 := NB229_244.out
       have hnb42 := NB244_0.out
       have hnc42 := NB0_244.out
       have hcz43_0 : (wr.drewN nd).cell? ⟨gb244, 0, none⟩ = some (.slice Ao37 x245000_1.length co37) := (blk_cell BK244.out 0).trans rfl
       have hcz43_1 : (wr.drewN nd).cell? ⟨gb244, 1, none⟩ = some (.int .i64 t233) := (blk_cell BK244.out 1).trans rfl
       have hcz43_2 : (wr.drewN nd).cell? ⟨gb244, 2, none⟩ = some (.int .i64 t242) := (blk_cell BK244.out 2).trans rfl
       have hcz43_3 : (wr.drewN nd).cell? ⟨gb244, 3, none⟩ = some (.int .i64 t245) := (blk_cell BK244.out 3).trans rfl
       have hfz43_0 := blk_frozen BK244.out 0
       have hfz43_1 := blk_frozen BK244.out 1
       have hfz43_2 := blk_frozen BK244.out 2
       have hfz43_3 := blk_frozen BK244.out 3
       have p40 : 0 ≤ (0 : Int) := (by omega)
       have q40 : (0 : Int) < ((x245000_1.length : Int) : Int) := of_decide_eq_true (by first | (with_reducible assumption) | assumption)
       have qi40 : (0 < x245000_1.length) = True := eq_true (by omega)
       obtain ⟨go40, co40, eo40, gb40, gl40, cl40, HG40⟩ := Kd.R_form HO_245000.out (by omega)
       (first | cases eo40 | (injection eo40 with ea_ en_ ec_; (first | subst ea_ | (injection ea_ with ea_; subst ea_)); subst ec_; clear en_))
       have GB40 := z9_A gb40
       have GG40 := z9_A HG40
       clear gb40 gl40 HG40
       obtain ⟨hx40_0, hf40_0⟩ := Kd.R_celln 0 HO_245000.out (0 : Int) p40 q40
       (try rw [show ((0 : Int)).toNat = 0 from rfl] at hx40_0)
       (try simp only [Nat.reduceMul, Nat.zero_mul, Nat.zero_add, Nat.reduceAdd] at hx40_0)
       (try rw [show ((0 : Int)).toNat = 0 from rfl] at hf40_0)
       (try simp only [Nat.reduceMul, Nat.zero_mul, Nat.zero_add, Nat.reduceAdd] at hf40_0)
       replace p40 := eq_true p40
       replace q40 := eq_true q40
       have HP44 := Kd.R_putg (show Kd.R (Kd.int .i64) 3 (wr.drewN nd) w.heap.size (fun _ => True) (.slice (some ⟨go40, 0, none⟩) x245000_1.length co37) x245000_1 from by apply Kd.R_drewN; exact HO_245000.out) (0 : Int) 1
       go_wp2_with (first | ((with_reducible refine gate_store (t := 3) (p := 51) rfl ?_); refine store_event (t := 3) (p := 51) (v := ?vo_w45) (w1 := ((wr.drewN nd).setCell ⟨go40, (0 : Int).toNat, none⟩ (.int .i64 1))) ?hg ?ho ?hn ?hr ?_; (case ho => rfl); (case hg => rfl); (case hn => rfl); (case hr => first | (go_simp; done) | (go_simp; rfl)); intro w45 hw; have hg : (wr.drewN nd).grownBy w45 (some go40) := (by rw [hw]; exact HP44.2); have hp_ : Kd.R (Kd.int .i64) 3 w45 w.heap.size (fun _ => True) (.slice (some ⟨go40, 0, none⟩) x245000_1.length co37) y259 := (by rw [hw, Ny259.out]; exact HP44.1); clear HP44; have n0_ := z9_A (hp_); have n1_ := z9_A (blk_grown (g := gb229) (o := .cells #[.slice none 0 0, .int .i64 0, .int .i64 0, .int .i64 0] 30 (0, 0)) z9_4 hg (Kd.R_ne HO_245000.out BK229.out z9_14)); have n2_ := z9_A (blk_grown (g := gb244) (o := .cells #[.slice (some ⟨go40, 0, none⟩) x245000_1.length co37, .int .i64 t233, .int .i64 t242, .int .i64 t245] 30 (0, 0)) z9_6 hg (Kd.R_ne HO_245000.out BK244.out z9_14)); have n3_ := z9_A (IsS82.grown z9_2 hg (IsS82.own_ne HI0.out HO_245000.out z9_14)); have n4_ := z9_A ((by rw [hw]; exact below_set (pw_below_drewN HB.out nd) (Nat.le_trans HL.out GB40.out) : Below w0.heap.size w0 w45)); have n5_ := z9_A (KeepBut.trans z9_1 (KeepBut.of_grown hg g) (Kd.R_base2 HO_245000.out)); clear HO_245000 BK229 BK244 HI0 HB HK; revert n0_ n1_ n2_ n3_ n4_ n5_; intro HO_245000 BK229 BK244 HI0 HB HK; clear hg hw hp_))
       go_meet
       case rel => exact ⟨_, (y259), (.slice (some ⟨go40, 0, none⟩) x245000_1.length co37), H', ⟨by have := HK1.out; first | omega | exact Nat.le_refl _⟩, ⟨z9_5⟩, ⟨z9_4⟩, ⟨z9_6⟩, ⟨z9_2⟩, ⟨z9_1⟩, ⟨z9_3⟩⟩
      ·rw [if_neg c39] at H
       exact absurd H z9_18
     ·rw [if_neg c38] at H
      have c38b0 : (t258 == 0) = false := beq_eq_false_iff_ne.mpr c38
      have c38b1 : (t258 != 0) = true := bne_iff_ne.mpr c38
      (first | rw [c38b0] | (simp only [i64_w, i32_w]; rw [c38b0]) | skip)
      have H' := z9_A H
      clear H
      go_wp2
      go_meet
      case rel => exact ⟨_, (x245000_1), (.slice Ao37 x245000_1.length co37), H', ⟨by have := HK1.out; first | omega | exact Nat.le_refl _⟩, ⟨z9_5⟩, ⟨z9_4⟩, ⟨z9_6⟩, ⟨z9_2⟩, ⟨z9_1⟩, ⟨z9_3⟩⟩
    case rest =>
     clear HC33
     (try clear c2); (try clear c3); (try clear c4); (try clear p4); (try clear q4); (try clear hx4); (try clear qi4); (try clear hf4); (try clear c21); (try clear c21b0); (try clear c23); (try clear c34); (try clear c35); (try clear c38); (try clear c38b0); (try clear c38b1); (try clear c39); (try clear c39b0); (try clear c39b1); (try clear p40); (try clear q40); (try clear hx40); (try clear qi40); (try clear hf40); (try clear c41); (try clear c42); (try clear hcz36_0); (try clear hcz36_1); (try clear hcz36_2); (try clear hcz36_3); (try clear hcz43_0); (try clear hcz43_1); (try clear hcz43_2); (try clear hcz43_3); (try clear hfz36_0); (try clear hfz36_1); (try clear hfz36_2); (try clear hfz36_3); (try clear hfz43_0); (try clear hfz43_1); (try clear hfz43_2); (try clear hfz43_3); (try clear hx40_0); (try clear p40); (try clear q40)
     obtain ⟨kq, x245000_32, u245000, HA, HJ32, HO_245000, BK229, BK244, HI0, HK, HB⟩ := hcut
     cases kq with
     | zero => exact absurd HA.out (by simp [spec_l1Cur_market.j1])
     | succ kj32 =>
      have H := HA.out
      clear HA
      simp only [spec_l1Cur_market.j1] at H
      replace H := Option.bind_eq_some_iff.mp H
      obtain ⟨⟨t260, t261, t262⟩, A460, H⟩ := H
      (try dsimp only at H)
      have A46 := z9_A A460
      clear A460
      by_cases c47 : t260 = 0
      ·rw [if_pos c47] at H
       have c47b0 : (t260 == 0) = true := beq_iff_eq.mpr c47
       have c47b1 : (t260 != 0) = false := bne_eq_false_iff_eq.mpr c47
       clear c47
       obtain ⟨y263, hy263⟩ : ∃ y_ : List Int, y_ = (([0, 99, 100] : List Int)) := ⟨_, rfl⟩
       replace H : ((spec_l1Cur_among.f s0_0 t261 t262 y263).bind fun bt266 => (some (x245000_32, bt266.1, t242, t245, bt266.2.1, bt266.2.2))) = some (r1, r2, r3, r4, r5, r6) := by first | (rw [hy263]; with_reducible exact H) | (have H2_ := (Option.bind_some _ _).symm.trans H; rw [hy263]; with_reducible exact H2_) | (have H2_ := (Option.bind_some _ _).symm.trans H; with_reducible exact H2_) | with_reducible exact H | (rw [hy263]; exact H) | exact H
       have Ny263 := z9_A hy263
       clear hy263
       replace H := Option.bind_eq_some_iff.mp H
       obtain ⟨⟨t266, t267, t268⟩, A480, H⟩ := H
       (try dsimp only at H)
       have A48 := z9_A A480
       clear A480
       simp only [Option.some.injEq, Prod.mk.injEq] at H
       obtain ⟨rfl, rfl, rfl, rfl, rfl, rfl⟩ := H
       go_wp2_with (first | ((with_reducible refine gate_callee (f := 105) rfl ?_); refine goesL_ (some 53) rfl rfl Try.func105 z9_12 rfl #[.pointer (some ⟨g, 0, none⟩), .int .i64 40] rfl z9_7 ?_; (with_reducible refine (spec_l1Cur_pick.calls g s0_0 x1001_1 x1002_1 40 t260 t261 t262 w0 _ ?side1 ?side2 A46.out).mono ?_); (case side1 => repeat (first | (with_reducible first | exact HI0.out | apply IsS82.alloc | apply IsS82.drewN | apply IsS82.drew | apply IsS82.set_1 | apply IsS82.set_2 | refine IsS82.far ?_ NB0_229.out _ | refine IsS82.far ?_ NB0_244.out _) | exact HI0.out)); (case side2 => repeat (first | (with_reducible first | exact HB.out | apply below_alloc | apply pw_below_drewN | apply below_drew1 | refine below_set ?_ (IsS82.ge HI0.out) | refine below_set ?_ GE229.out | refine below_set ?_ GE244.out) | exact HB.out)); rintro e w49 ⟨rfl, hi, hb, hk⟩; refine ⟨_, rfl, ?_⟩; have n0_ := z9_A (Kd.R_mono (Kd.R_keep (IsS82.apart (show IsS82 w0 _ g s0_0 x1001_1 x1002_1 from by repeat (first | (with_reducible first | exact HI0.out | apply IsS82.alloc | apply IsS82.drewN | apply IsS82.drew | apply IsS82.set_1 | apply IsS82.set_2 | refine IsS82.far ?_ NB0_229.out _ | refine IsS82.far ?_ NB0_244.out _) | exact HI0.out)) z9_5 z9_14) hk (fun _ h => h.2)) (fun _ h => h.1)); have n1_ := z9_A (KeepBut.blk hk (g' := gb229) (o := .cells #[.slice none 0 0, .int .i64 0, .int .i64 0, .int .i64 0] 30 (0, 0)) z9_4 NB229_0.out z9_18); have n2_ := z9_A (KeepBut.blk hk (g' := gb244) (o := .cells #[u245000, .int .i64 t233, .int .i64 t242, .int .i64 t245] 30 (0, 0)) z9_6 NB244_0.out z9_18); have n3_ := z9_A (KeepBut.trans z9_1 hk (.inl rfl)); have n4_ := z9_A (hb); have n5_ := z9_A (hi); clear HO_245000 BK229 BK244 HK HB HI0; revert n0_ n1_ n2_ n3_ n4_ n5_; intro HO_245000 BK229 BK244 HK HB HI0; (try clear hb); (try clear hb2); (try clear hk); (try clear hi)) | ((with_reducible refine gate_dst (N := 57) rfl ?_); refine Kd.R_lit (Kd.int .i64) _ 3 ?hg (N := 57) ?hd (xs := ([0, 99, 100] : List Int)) (inner := [.int .i64 0, .int .i64 99, .int .i64 100]) (ok := fun _ => True) (okp := fun _ => True) ?hr ?hp (fun _ hk => hk) trivial (Below.refl _ _) (Nat.le_refl _) z9_18 ?_; (case hd => rfl); (case hg => rfl); (case hr => first | (go_simp; done) | (go_simp; rfl)); (case hp => exact (Reps.one (show Kd.M (Kd.int .i64) _ _ _ 0 [.int .i64 0] from rfl) (Reps.one (show Kd.M (Kd.int .i64) _ _ _ 99 [.int .i64 99] from rfl) (Reps.one (show Kd.M (Kd.int .i64) _ _ _ 100 [.int .i64 100] from rfl) (Reps.none _ _))))); intro v264 w50 ho51 hb hg_ hnew_; clear hg_ hnew_; (first | rw [← Ny263.out] at ho51 | (simp only [Int.reduceToNat] at ho51; rw [← Ny263.out] at ho51)); have n0_ := z9_A (Kd.R_elder' z9_5 (Kd.R_base ho51) hb); have n1_ := z9_A (Kd.R_lower (Kd.R_new' ho51 (Kd.R_lt z9_5)) (keep_size (w := w) (g := g) (row := none) z9_1)); have n2_ := z9_A (blk_below (g := gb229) (o := .cells #[.slice none 0 0, .int .i64 0, .int .i64 0, .int .i64 0] 30 (0, 0)) z9_4 hb); have n3_ := z9_A (blk_below (g := gb244) (o := .cells #[u245000, .int .i64 t233, .int .i64 t242, .int .i64 t245] 30 (0, 0)) z9_6 hb); have n4_ := z9_A (IsS82.below z9_2 hb); have n5_ := z9_A (KeepBut.trans z9_1 (KeepBut.of_below hb g none) (.inl rfl)); have n6_ := z9_A (below_step z9_3 hb); clear HO_245000 BK229 BK244 HI0 HK HB; revert n0_ n1_ n2_ n3_ n4_ n5_ n6_; intro HO_245000 HO265 BK229 BK244 HI0 HK HB; clear hb ho51; obtain ⟨Ao52, co52, eo52⟩ := Kd.R_slice HO265.out; subst eo52) | ((with_reducible refine gate_callee (f := 82) rfl ?_); refine goesL_ (some 58) rfl rfl Try.func82 z9_12 rfl #[.pointer (some ⟨g, 0, none⟩), .slice Ao52 y263.length co52] rfl z9_7 ?_; (with_reducible refine (spec_l1Cur_among.calls g s0_0 t261 t262 _ _ y263 t266 t267 t268 w0 _ ?side1 ?side2 ?side3 ?side4 ?side5 A48.out).mono ?_); (case side1 => repeat (first | (with_reducible first | exact HI0.out | apply IsS82.alloc | apply IsS82.drewN | apply IsS82.drew | apply IsS82.set_1 | apply IsS82.set_2 | refine IsS82.far ?_ NB0_229.out _ | refine IsS82.far ?_ NB0_244.out _) | exact HI0.out)); (case side2 => repeat (first | (with_reducible first | exact HB.out | apply below_alloc | apply pw_below_drewN | apply below_drew1 | refine below_set ?_ (IsS82.ge HI0.out) | refine below_set ?_ GE229.out | refine below_set ?_ GE244.out) | exact HB.out)); (case side3 => have zh := (Kd.R_reads' HO265.out).2.2; exact z9_C); (case side4 => exact (Kd.R_reads' HO265.out).2.1); (case side5 => exact far_slice (IsS82.own_ne HI0.out HO265.out z9_14)); rintro e w53 ⟨rfl, hi, hb, hk⟩; refine ⟨_, rfl, ?_⟩; have n0_ := z9_A (Kd.R_mono (Kd.R_keep (IsS82.apart (show IsS82 w0 _ g s0_0 t261 t262 from by repeat (first | (with_reducible first | exact HI0.out | apply IsS82.alloc | apply IsS82.drewN | apply IsS82.drew | apply IsS82.set_1 | apply IsS82.set_2 | refine IsS82.far ?_ NB0_229.out _ | refine IsS82.far ?_ NB0_244.out _) | exact HI0.out)) z9_5 z9_14) hk (fun _ h => h.2)) (fun _ h => h.1)); have n1_ := z9_A (KeepBut.blk hk (g' := gb229) (o := .cells #[.slice none 0 0, .int .i64 0, .int .i64 0, .int .i64 0] 30 (0, 0)) z9_4 NB229_0.out z9_18); have n2_ := z9_A (KeepBut.blk hk (g' := gb244) (o := .cells #[u245000, .int .i64 t233, .int .i64 t242, .int .i64 t245] 30 (0, 0)) z9_6 NB244_0.out z9_18); have n3_ := z9_A (Kd.R_mono (Kd.R_keep (IsS82.apart (show IsS82 w0 _ g s0_0 t261 t262 from by repeat (first | (with_reducible first | exact HI0.out | apply IsS82.alloc | apply IsS82.drewN | apply IsS82.drew | apply IsS82.set_1 | apply IsS82.set_2 | refine IsS82.far ?_ NB0_229.out _ | refine IsS82.far ?_ NB0_244.out _) | exact HI0.out)) (by (with_reducible repeat (first | apply Kd.R_alloc | apply Kd.R_drewN | apply Kd.R_drew)); exact HO265.out) z9_14) hk (fun _ h => h.2)) (fun _ h => h.1)); have n4_ := z9_A (KeepBut.trans z9_1 hk (.inl rfl)); have n5_ := z9_A (hb); have n6_ := z9_A (hi); clear HO_245000 BK229 BK244 HO265 HK HB HI0; revert n0_ n1_ n2_ n3_ n4_ n5_ n6_; intro HO_245000 BK229 BK244 HO265 HK HB HI0; (try clear hb); (try clear hb2); (try clear hk); (try clear hi); have hnb54 := NB244_229.out; have hnc54 := NB229_244.out; have hnb55 := NB244_0.out; have hnc55 := NB0_244.out; have hcz56_0 : w53.cell? ⟨gb244, 0, none⟩ = some (u245000) := (blk_cell BK244.out 0).trans rfl; have hcz56_1 : w53.cell? ⟨gb244, 1, none⟩ = some (.int .i64 t233) := (blk_cell BK244.out 1).trans rfl; have hcz56_2 : w53.cell? ⟨gb244, 2, none⟩ = some (.int .i64 t242) := (blk_cell BK244.out 2).trans rfl; have hcz56_3 : w53.cell? ⟨gb244, 3, none⟩ = some (.int .i64 t245) := (blk_cell BK244.out 3).trans rfl; have hfz56_0 := blk_frozen BK244.out 0; have hfz56_1 := blk_frozen BK244.out 1; have hfz56_2 := blk_frozen BK244.out 2; have hfz56_3 := blk_frozen BK244.out 3; obtain ⟨Ao57, co57, eo57⟩ := Kd.R_slice HO_245000.out; subst eo57; have hnb58 := NB229_0.out; have hnc58 := NB0_229.out; have hcz59_0 : w53.cell? ⟨gb229, 0, none⟩ = some (.slice none 0 0) := (blk_cell BK229.out 0).trans rfl; have hcz59_1 : w53.cell? ⟨gb229, 1, none⟩ = some (.int .i64 0) := (blk_cell BK229.out 1).trans rfl; have hcz59_2 : w53.cell? ⟨gb229, 2, none⟩ = some (.int .i64 0) := (blk_cell BK229.out 2).trans rfl; have hcz59_3 : w53.cell? ⟨gb229, 3, none⟩ = some (.int .i64 0) := (blk_cell BK229.out 3).trans rfl; have hfz59_0 := blk_frozen BK229.out 0; have hfz59_1 := blk_frozen BK229.out 1; have hfz59_2 := blk_frozen BK229.out 2; have hfz59_3 := blk_frozen BK229.out 3))
       refine bodyPost_ret (results_cell_row rfl _ _ gb229 30 #[.slice Ao57 x245000_32.length co57, .int .i64 t266, .int .i64 t242, .int .i64 t245] (0, 0) _ rfl (by (with_reducible repeat (first | refine blk_drewN ?_ _ | refine blk_drew ?_ | refine blk_alloc ?_ _)); refine blk_put (cs := #[.slice Ao57 x245000_32.length co57, .int .i64 t266, .int .i64 t242, .int .i64 0]) ?_ 3 _ rfl; (with_reducible repeat (first | refine blk_drewN ?_ _ | refine blk_drew ?_ | refine blk_alloc ?_ _)); refine blk_put (cs := #[.slice Ao57 x245000_32.length co57, .int .i64 t266, .int .i64 0, .int .i64 0]) ?_ 2 _ rfl; (with_reducible repeat (first | refine blk_drewN ?_ _ | refine blk_drew ?_ | refine blk_alloc ?_ _)); refine blk_put (cs := #[.slice Ao57 x245000_32.length co57, .int .i64 0, .int .i64 0, .int .i64 0]) ?_ 1 _ rfl; (with_reducible repeat (first | refine blk_drewN ?_ _ | refine blk_drew ?_ | refine blk_alloc ?_ _)); refine blk_put (cs := #[.slice none 0 0, .int .i64 0, .int .i64 0, .int .i64 0]) ?_ 0 _ rfl; (with_reducible repeat (first | refine blk_drewN ?_ _ | refine blk_drew ?_ | refine blk_alloc ?_ _)); refine blk_far ?_ NB229_244.out _; (with_reducible repeat (first | refine blk_drewN ?_ _ | refine blk_drew ?_ | refine blk_alloc ?_ _)); exact BK229.out) Try.underlying30 rfl z9_12) rfl ?_
       exact ⟨_, z9_13, by (with_reducible repeat (first | apply Kd.R_alloc | apply Kd.R_drewN | apply Kd.R_drew)); exact Kd.R_mono (Kd.R_far (p := ⟨gb229, 3, none⟩) (Kd.R_far (p := ⟨gb229, 2, none⟩) (Kd.R_far (p := ⟨gb229, 1, none⟩) (Kd.R_far (p := ⟨gb229, 0, none⟩) (Kd.R_far (p := ⟨gb244, 1, none⟩) (Kd.R_types (Kd.R_types HO_245000.out BK244.out z9_14) BK229.out z9_14) (fun _ hk => hk.1.2) (.int .i64 t266)) (fun _ hk => hk.2) (.slice Ao57 x245000_32.length co57)) (fun _ hk => hk.2) (.int .i64 t266)) (fun _ hk => hk.2) (.int .i64 t242)) (fun _ hk => hk.2) (.int .i64 t245)) (fun _ hk => trivial), z9_2, z9_3, z9_1⟩
      ·rw [if_neg c47] at H
       have c47b0 : (t260 == 0) = false := beq_eq_false_iff_ne.mpr c47
       have c47b1 : (t260 != 0) = true := bne_iff_ne.mpr c47
       by_cases c60 : t260 = 1
       ·rw [if_pos c60] at H
        have c60b0 : (t260 == 1) = true := beq_iff_eq.mpr c60
        have c60b1 : (t260 != 1) = false := bne_eq_false_iff_eq.mpr c60
        clear c60
        obtain ⟨y269, hy269⟩ : ∃ y_ : List Int, y_ = (([(-1), t233, wrap64 (t233 + 1)] : List Int)) := ⟨_, rfl⟩
        replace H : ((spec_l1Cur_among.f s0_0 t261 t262 y269).bind fun bt272 => (some (x245000_32, t233, bt272.1, t245, bt272.2.1, bt272.2.2))) = some (r1, r2, r3, r4, r5, r6) := by first | (rw [hy269]; with_reducible exact H) | (have H2_ := (Option.bind_some _ _).symm.trans H; rw [hy269]; with_reducible exact H2_) | (have H2_ := (Option.bind_some _ _).symm.trans H; with_reducible exact H2_) | with_reducible exact H | (rw [hy269]; exact H) | exact H
        have Ny269 := z9_A hy269
        clear hy269
        replace H := Option.bind_eq_some_iff.mp H
        obtain ⟨⟨t272, t273, t274⟩, A610, H⟩ := H
        (try dsimp only at H)
        have A61 := z9_A A610
        clear A610
        simp only [Option.some.injEq, Prod.mk.injEq] at H
        obtain ⟨rfl, rfl, rfl, rfl, rfl, rfl⟩ := H
        go_wp2_with (first | ((with_reducible refine gate_callee (f := 105) rfl ?_); refine goesL_ (some 53) rfl rfl Try.func105 z9_12 rfl #[.pointer (some ⟨g, 0, none⟩), .int .i64 40] rfl z9_7 ?_; (with_reducible refine (spec_l1Cur_pick.calls g s0_0 x1001_1 x1002_1 40 t260 t261 t262 w0 _ ?side1 ?side2 A46.out).mono ?_); (case side1 => repeat (first | (with_reducible first | exact HI0.out | apply IsS82.alloc | apply IsS82.drewN | apply IsS82.drew | apply IsS82.set_1 | apply IsS82.set_2 | refine IsS82.far ?_ NB0_229.out _ | refine IsS82.far ?_ NB0_244.out _) | exact HI0.out)); (case side2 => repeat (first | (with_reducible first | exact HB.out | apply below_alloc | apply pw_below_drewN | apply below_drew1 | refine below_set ?_ (IsS82.ge HI0.out) | refine below_set ?_ GE229.out | refine below_set ?_ GE244.out) | exact HB.out)); rintro e w62 ⟨rfl, hi, hb, hk⟩; refine ⟨_, rfl, ?_⟩; have n0_ := z9_A (Kd.R_mono (Kd.R_keep (IsS82.apart (show IsS82 w0 _ g s0_0 x1001_1 x1002_1 from by repeat (first | (with_reducible first | exact HI0.out | apply IsS82.alloc | apply IsS82.drewN | apply IsS82.drew | apply IsS82.set_1 | apply IsS82.set_2 | refine IsS82.far ?_ NB0_229.out _ | refine IsS82.far ?_ NB0_244.out _) | exact HI0.out)) z9_5 z9_14) hk (fun _ h => h.2)) (fun _ h => h.1)); have n1_ := z9_A (KeepBut.blk hk (g' := gb229) (o := .cells #[.slice none 0 0, .int .i64 0, .int .i64 0, .int .i64 0] 30 (0, 0)) z9_4 NB229_0.out z9_18); have n2_ := z9_A (KeepBut.blk hk (g' := gb244) (o := .cells #[u245000, .int .i64 t233, .int .i64 t242, .int .i64 t245] 30 (0, 0)) z9_6 NB244_0.out z9_18); have n3_ := z9_A (KeepBut.trans z9_1 hk (.inl rfl)); have n4_ := z9_A (hb); have n5_ := z9_A (hi); clear HO_245000 BK229 BK244 HK HB HI0; revert n0_ n1_ n2_ n3_ n4_ n5_; intro HO_245000 BK229 BK244 HK HB HI0; (try clear hb); (try clear hb2); (try clear hk); (try clear hi); have hnb63 := NB244_229.out; have hnc63 := NB229_244.out; have hnb64 := NB244_0.out; have hnc64 := NB0_244.out; have hcz65_0 : w62.cell? ⟨gb244, 0, none⟩ = some (u245000) := (blk_cell BK244.out 0).trans rfl; have hcz65_1 : w62.cell? ⟨gb244, 1, none⟩ = some (.int .i64 t233) := (blk_cell BK244.out 1).trans rfl; have hcz65_2 : w62.cell? ⟨gb244, 2, none⟩ = some (.int .i64 t242) := (blk_cell BK244.out 2).trans rfl; have hcz65_3 : w62.cell? ⟨gb244, 3, none⟩ = some (.int .i64 t245) := (blk_cell BK244.out 3).trans rfl; have hfz65_0 := blk_frozen BK244.out 0; have hfz65_1 := blk_frozen BK244.out 1; have hfz65_2 := blk_frozen BK244.out 2; have hfz65_3 := blk_frozen BK244.out 3) | ((with_reducible refine gate_dst (N := 68) rfl ?_); refine Kd.R_lit (Kd.int .i64) _ 3 ?hg (N := 68) ?hd (xs := ([(-1), t233, wrap64 (t233 + 1)] : List Int)) (inner := [.int .i64 (-1), .int .i64 t233, .int .i64 (wrap64 (t233 + 1))]) (ok := fun _ => True) (okp := fun _ => True) ?hr ?hp (fun _ hk => hk) trivial (Below.refl _ _) (Nat.le_refl _) z9_18 ?_; (case hd => rfl); (case hg => rfl); (case hr => first | (go_simp; done) | (go_simp; rfl)); (case hp => exact (Reps.one (show Kd.M (Kd.int .i64) _ _ _ (-1) [.int .i64 (-1)] from rfl) (Reps.one (show Kd.M (Kd.int .i64) _ _ _ t233 [.int .i64 t233] from rfl) (Reps.one (show Kd.M (Kd.int .i64) _ _ _ (wrap64 (t233 + 1)) [.int .i64 (wrap64 (t233 + 1))] from rfl) (Reps.none _ _))))); intro v270 w66 ho67 hb hg_ hnew_; clear hg_ hnew_; (first | rw [← Ny269.out] at ho67 | (simp only [Int.reduceToNat] at ho67; rw [← Ny269.out] at ho67)); have n0_ := z9_A (Kd.R_elder' z9_5 (Kd.R_base ho67) hb); have n1_ := z9_A (Kd.R_lower (Kd.R_new' ho67 (Kd.R_lt z9_5)) (keep_size (w := w) (g := g) (row := none) z9_1)); have n2_ := z9_A (blk_below (g := gb229) (o := .cells #[.slice none 0 0, .int .i64 0, .int .i64 0, .int .i64 0] 30 (0, 0)) z9_4 hb); have n3_ := z9_A (blk_below (g := gb244) (o := .cells #[u245000, .int .i64 t233, .int .i64 t242, .int .i64 t245] 30 (0, 0)) z9_6 hb); have n4_ := z9_A (IsS82.below z9_2 hb); have n5_ := z9_A (KeepBut.trans z9_1 (KeepBut.of_below hb g none) (.inl rfl)); have n6_ := z9_A (below_step z9_3 hb); clear HO_245000 BK229 BK244 HI0 HK HB; revert n0_ n1_ n2_ n3_ n4_ n5_ n6_; intro HO_245000 HO271 BK229 BK244 HI0 HK HB; clear hb ho67; obtain ⟨Ao68, co68, eo68⟩ := Kd.R_slice HO271.out; subst eo68) | ((with_reducible refine gate_callee (f := 82) rfl ?_); refine goesL_ (some 69) rfl rfl Try.func82 z9_12 rfl #[.pointer (some ⟨g, 0, none⟩), .slice Ao68 y269.length co68] rfl z9_7 ?_; (with_reducible refine (spec_l1Cur_among.calls g s0_0 t261 t262 _ _ y269 t272 t273 t274 w0 _ ?side1 ?side2 ?side3 ?side4 ?side5 A61.out).mono ?_); (case side1 => repeat (first | (with_reducible first | exact HI0.out | apply IsS82.alloc | apply IsS82.drewN | apply IsS82.drew | apply IsS82.set_1 | apply IsS82.set_2 | refine IsS82.far ?_ NB0_229.out _ | refine IsS82.far ?_ NB0_244.out _) | exact HI0.out)); (case side2 => repeat (first | (with_reducible first | exact HB.out | apply below_alloc | apply pw_below_drewN | apply below_drew1 | refine below_set ?_ (IsS82.ge HI0.out) | refine below_set ?_ GE229.out | refine below_set ?_ GE244.out) | exact HB.out)); (case side3 => have zh := (Kd.R_reads' HO271.out).2.2; exact z9_C); (case side4 => exact (Kd.R_reads' HO271.out).2.1); (case side5 => exact far_slice (IsS82.own_ne HI0.out HO271.out z9_14)); rintro e w69 ⟨rfl, hi, hb, hk⟩; refine ⟨_, rfl, ?_⟩; have n0_ := z9_A (Kd.R_mono (Kd.R_keep (IsS82.apart (show IsS82 w0 _ g s0_0 t261 t262 from by repeat (first | (with_reducible first | exact HI0.out | apply IsS82.alloc | apply IsS82.drewN | apply IsS82.drew | apply IsS82.set_1 | apply IsS82.set_2 | refine IsS82.far ?_ NB0_229.out _ | refine IsS82.far ?_ NB0_244.out _) | exact HI0.out)) z9_5 z9_14) hk (fun _ h => h.2)) (fun _ h => h.1)); have n1_ := z9_A (KeepBut.blk hk (g' := gb229) (o := .cells #[.slice none 0 0, .int .i64 0, .int .i64 0, .int .i64 0] 30 (0, 0)) z9_4 NB229_0.out z9_18); have n2_ := z9_A (KeepBut.blk hk (g' := gb244) (o := .cells #[u245000, .int .i64 t233, .int .i64 t242, .int .i64 t245] 30 (0, 0)) z9_6 NB244_0.out z9_18); have n3_ := z9_A (Kd.R_mono (Kd.R_keep (IsS82.apart (show IsS82 w0 _ g s0_0 t261 t262 from by repeat (first | (with_reducible first | exact HI0.out | apply IsS82.alloc | apply IsS82.drewN | apply IsS82.drew | apply IsS82.set_1 | apply IsS82.set_2 | refine IsS82.far ?_ NB0_229.out _ | refine IsS82.far ?_ NB0_244.out _) | exact HI0.out)) (by (with_reducible repeat (first | apply Kd.R_alloc | apply Kd.R_drewN | apply Kd.R_drew)); exact HO271.out) z9_14) hk (fun _ h => h.2)) (fun _ h => h.1)); have n4_ := z9_A (KeepBut.trans z9_1 hk (.inl rfl)); have n5_ := z9_A (hb); have n6_ := z9_A (hi); clear HO_245000 BK229 BK244 HO271 HK HB HI0; revert n0_ n1_ n2_ n3_ n4_ n5_ n6_; intro HO_245000 BK229 BK244 HO271 HK HB HI0; (try clear hb); (try clear hb2); (try clear hk); (try clear hi); have hcz70_0 : w69.cell? ⟨gb244, 0, none⟩ = some (u245000) := (blk_cell BK244.out 0).trans rfl; have hcz70_1 : w69.cell? ⟨gb244, 1, none⟩ = some (.int .i64 t233) := (blk_cell BK244.out 1).trans rfl; have hcz70_2 : w69.cell? ⟨gb244, 2, none⟩ = some (.int .i64 t242) := (blk_cell BK244.out 2).trans rfl; have hcz70_3 : w69.cell? ⟨gb244, 3, none⟩ = some (.int .i64 t245) := (blk_cell BK244.out 3).trans rfl; have hfz70_0 := blk_frozen BK244.out 0; have hfz70_1 := blk_frozen BK244.out 1; have hfz70_2 := blk_frozen BK244.out 2; have hfz70_3 := blk_frozen BK244.out 3; obtain ⟨Ao71, co71, eo71⟩ := Kd.R_slice HO_245000.out; subst eo71; have hnb72 := NB229_0.out; have hnc72 := NB0_229.out; have hcz73_0 : w69.cell? ⟨gb229, 0, none⟩ = some (.slice none 0 0) := (blk_cell BK229.out 0).trans rfl; have hcz73_1 : w69.cell? ⟨gb229, 1, none⟩ = some (.int .i64 0) := (blk_cell BK229.out 1).trans rfl; have hcz73_2 : w69.cell? ⟨gb229, 2, none⟩ = some (.int .i64 0) := (blk_cell BK229.out 2).trans rfl; have hcz73_3 : w69.cell? ⟨gb229, 3, none⟩ = some (.int .i64 0) := (blk_cell BK229.out 3).trans rfl; have hfz73_0 := blk_frozen BK229.out 0; have hfz73_1 := blk_frozen BK229.out 1; have hfz73_2 := blk_frozen BK229.out 2; have hfz73_3 := blk_frozen BK229.out 3))
        refine bodyPost_ret (results_cell_row rfl _ _ gb229 30 #[.slice Ao71 x245000_32.length co71, .int .i64 t233, .int .i64 t272, .int .i64 t245] (0, 0) _ rfl (by (with_reducible repeat (first | refine blk_drewN ?_ _ | refine blk_drew ?_ | refine blk_alloc ?_ _)); refine blk_put (cs := #[.slice Ao71 x245000_32.length co71, .int .i64 t233, .int .i64 t272, .int .i64 0]) ?_ 3 _ rfl; (with_reducible repeat (first | refine blk_drewN ?_ _ | refine blk_drew ?_ | refine blk_alloc ?_ _)); refine blk_put (cs := #[.slice Ao71 x245000_32.length co71, .int .i64 t233, .int .i64 0, .int .i64 0]) ?_ 2 _ rfl; (with_reducible repeat (first | refine blk_drewN ?_ _ | refine blk_drew ?_ | refine blk_alloc ?_ _)); refine blk_put (cs := #[.slice Ao71 x245000_32.length co71, .int .i64 0, .int .i64 0, .int .i64 0]) ?_ 1 _ rfl; (with_reducible repeat (first | refine blk_drewN ?_ _ | refine blk_drew ?_ | refine blk_alloc ?_ _)); refine blk_put (cs := #[.slice none 0 0, .int .i64 0, .int .i64 0, .int .i64 0]) ?_ 0 _ rfl; (with_reducible repeat (first | refine blk_drewN ?_ _ | refine blk_drew ?_ | refine blk_alloc ?_ _)); refine blk_far ?_ NB229_244.out _; (with_reducible repeat (first | refine blk_drewN ?_ _ | refine blk_drew ?_ | refine blk_alloc ?_ _)); exact BK229.out) Try.underlying30 rfl z9_12) rfl ?_
        exact ⟨_, z9_13, by (with_reducible repeat (first | apply Kd.R_alloc | apply Kd.R_drewN | apply Kd.R_drew)); exact Kd.R_mono (Kd.R_far (p := ⟨gb229, 3, none⟩) (Kd.R_far (p := ⟨gb229, 2, none⟩) (Kd.R_far (p := ⟨gb229, 1, none⟩) (Kd.R_far (p := ⟨gb229, 0, none⟩) (Kd.R_far (p := ⟨gb244, 2, none⟩) (Kd.R_types (Kd.R_types HO_245000.out BK244.out z9_14) BK229.out z9_14) (fun _ hk => hk.1.2) (.int .i64 t272)) (fun _ hk => hk.2) (.slice Ao71 x245000_32.length co71)) (fun _ hk => hk.2) (.int .i64 t233)) (fun _ hk => hk.2) (.int .i64 t272)) (fun _ hk => hk.2) (.int .i64 t245)) (fun _ hk => trivial), z9_2, z9_3, z9_1⟩
       ·rw [if_neg c60] at H
        have c60b0 : (t260 == 1) = false := beq_eq_false_iff_ne.mpr c60
        have c60b1 : (t260 != 1) = true := bne_iff_ne.mpr c60
        by_cases c74 : t260 = 2
        ·rw [if_pos c74] at H
         have c74b0 : (t260 == 2) = true := beq_iff_eq.mpr c74
         have c74b1 : (t260 != 2) = false := bne_eq_false_iff_eq.mpr c74
         clear c74
         obtain ⟨y275, hy275⟩ : ∃ y_ : List Int, y_ = (([(-1), t242, wrap64 (t242 + 1)] : List Int)) := ⟨_, rfl⟩
         replace H : ((spec_l1Cur_among.f s0_0 t261 t262 y275).bind fun bt278 => (some (x245000_32, t233, t242, bt278.1, bt278.2.1, bt278.2.2))) = some (r1, r2, r3, r4, r5, r6) := by first | (rw [hy275]; with_reducible exact H) | (have H2_ := (Option.bind_some _ _).symm.trans H; rw [hy275]; with_reducible exact H2_) | (have H2_ := (Option.bind_some _ _).symm.trans H; with_reducible exact H2_) | with_reducible exact H | (rw [hy275]; exact H) | exact H
         have Ny275 := z9_A hy275
         clear hy275
         replace H := Option.bind_eq_some_iff.mp H
         obtain ⟨⟨t278, t279, t280⟩, A750, H⟩ := H
         (try dsimp only at H)
         have A75 := z9_A A750
         clear A750
         simp only [Option.some.injEq, Prod.mk.injEq] at H
         obtain ⟨rfl, rfl, rfl, rfl, rfl, rfl⟩ := H
         go_wp2_with (first | ((with_reducible refine gate_callee (f := 105) rfl ?_); refine goesL_ (some 53) rfl rfl Try.func105 z9_12 rfl #[.pointer (some ⟨g, 0, none⟩), .int .i64 40] rfl z9_7 ?_; (with_reducible refine (spec_l1Cur_pick.calls g s0_0 x1001_1 x1002_1 40 t260 t261 t262 w0 _ ?side1 ?side2 A46.out).mono ?_); (case side1 => repeat (first | (with_reducible first | exact HI0.out | apply IsS82.alloc | apply IsS82.drewN | apply IsS82.drew | apply IsS82.set_1 | apply IsS82.set_2 | refine IsS82.far ?_ NB0_229.out _ | refine IsS82.far ?_ NB0_244.out _) | exact HI0.out)); (case side2 => repeat (first | (with_reducible first | exact HB.out | apply below_alloc | apply pw_below_drewN | apply below_drew1 | refine below_set ?_ (IsS82.ge HI0.out) | refine below_set ?_ GE229.out | refine below_set ?_ GE244.out) | exact HB.out)); rintro e w76 ⟨rfl, hi, hb, hk⟩; refine ⟨_, rfl, ?_⟩; have n0_ := z9_A (Kd.R_mono (Kd.R_keep (IsS82.apart (show IsS82 w0 _ g s0_0 x1001_1 x1002_1 from by repeat (first | (with_reducible first | exact HI0.out | apply IsS82.alloc | apply IsS82.drewN | apply IsS82.drew | apply IsS82.set_1 | apply IsS82.set_2 | refine IsS82.far ?_ NB0_229.out _ | refine IsS82.far ?_ NB0_244.out _) | exact HI0.out)) z9_5 z9_14) hk (fun _ h => h.2)) (fun _ h => h.1)); have n1_ := z9_A (KeepBut.blk hk (g' := gb229) (o := .cells #[.slice none 0 0, .int .i64 0, .int .i64 0, .int .i64 0] 30 (0, 0)) z9_4 NB229_0.out z9_18); have n2_ := z9_A (KeepBut.blk hk (g' := gb244) (o := .cells #[u245000, .int .i64 t233, .int .i64 t242, .int .i64 t245] 30 (0, 0)) z9_6 NB244_0.out z9_18); have n3_ := z9_A (KeepBut.trans z9_1 hk (.inl rfl)); have n4_ := z9_A (hb); have n5_ := z9_A (hi); clear HO_245000 BK229 BK244 HK HB HI0; revert n0_ n1_ n2_ n3_ n4_ n5_; intro HO_245000 BK229 BK244 HK HB HI0; (try clear hb); (try clear hb2); (try clear hk); (try clear hi); have hnb77 := NB244_229.out; have hnc77 := NB229_244.out; have hnb78 := NB244_0.out; have hnc78 := NB0_244.out; have hcz79_0 : w76.cell? ⟨gb244, 0, none⟩ = some (u245000) := (blk_cell BK244.out 0).trans rfl; have hcz79_1 : w76.cell? ⟨gb244, 1, none⟩ = some (.int .i64 t233) := (blk_cell BK244.out 1).trans rfl; have hcz79_2 : w76.cell? ⟨gb244, 2, none⟩ = some (.int .i64 t242) := (blk_cell BK244.out 2).trans rfl; have hcz79_3 : w76.cell? ⟨gb244, 3, none⟩ = some (.int .i64 t245) := (blk_cell BK244.out 3).trans rfl; have hfz79_0 := blk_frozen BK244.out 0; have hfz79_1 := blk_frozen BK244.out 1; have hfz79_2 := blk_frozen BK244.out 2; have hfz79_3 := blk_frozen BK244.out 3) | ((with_reducible refine gate_dst (N := 79) rfl ?_); refine Kd.R_lit (Kd.int .i64) _ 3 ?hg (N := 79) ?hd (xs := ([(-1), t242, wrap64 (t242 + 1)] : List Int)) (inner := [.int .i64 (-1), .int .i64 t242, .int .i64 (wrap64 (t242 + 1))]) (ok := fun _ => True) (okp := fun _ => True) ?hr ?hp (fun _ hk => hk) trivial (Below.refl _ _) (Nat.le_refl _) z9_18 ?_; (case hd => rfl); (case hg => rfl); (case hr => first | (go_simp; done) | (go_simp; rfl)); (case hp => exact (Reps.one (show Kd.M (Kd.int .i64) _ _ _ (-1) [.int .i64 (-1)] from rfl) (Reps.one (show Kd.M (Kd.int .i64) _ _ _ t242 [.int .i64 t242] from rfl) (Reps.one (show Kd.M (Kd.int .i64) _ _ _ (wrap64 (t242 + 1)) [.int .i64 (wrap64 (t242 + 1))] from rfl) (Reps.none _ _))))); intro v276 w80 ho81 hb hg_ hnew_; clear hg_ hnew_; (first | rw [← Ny275.out] at ho81 | (simp only [Int.reduceToNat] at ho81; rw [← Ny275.out] at ho81)); have n0_ := z9_A (Kd.R_elder' z9_5 (Kd.R_base ho81) hb); have n1_ := z9_A (Kd.R_lower (Kd.R_new' ho81 (Kd.R_lt z9_5)) (keep_size (w := w) (g := g) (row := none) z9_1)); have n2_ := z9_A (blk_below (g := gb229) (o := .cells #[.slice none 0 0, .int .i64 0, .int .i64 0, .int .i64 0] 30 (0, 0)) z9_4 hb); have n3_ := z9_A (blk_below (g := gb244) (o := .cells #[u245000, .int .i64 t233, .int .i64 t242, .int .i64 t245] 30 (0, 0)) z9_6 hb); have n4_ := z9_A (IsS82.below z9_2 hb); have n5_ := z9_A (KeepBut.trans z9_1 (KeepBut.of_below hb g none) (.inl rfl)); have n6_ := z9_A (below_step z9_3 hb); clear HO_245000 BK229 BK244 HI0 HK HB; revert n0_ n1_ n2_ n3_ n4_ n5_ n6_; intro HO_245000 HO277 BK229 BK244 HI0 HK HB; clear hb ho81; obtain ⟨Ao82, co82, eo82⟩ := Kd.R_slice HO277.out; subst eo82) | ((with_reducible refine gate_callee (f := 82) rfl ?_); refine goesL_ (some 80) rfl rfl Try.func82 z9_12 rfl #[.pointer (some ⟨g, 0, none⟩), .slice Ao82 y275.length co82] rfl z9_7 ?_; (with_reducible refine (spec_l1Cur_among.calls g s0_0 t261 t262 _ _ y275 t278 t279 t280 w0 _ ?side1 ?side2 ?side3 ?side4 ?side5 A75.out).mono ?_); (case side1 => repeat (first | (with_reducible first | exact HI0.out | apply IsS82.alloc | apply IsS82.drewN | apply IsS82.drew | apply IsS82.set_1 | apply IsS82.set_2 | refine IsS82.far ?_ NB0_229.out _ | refine IsS82.far ?_ NB0_244.out _) | exact HI0.out)); (case side2 => repeat (first | (with_reducible first | exact HB.out | apply below_alloc | apply pw_below_drewN | apply below_drew1 | refine below_set ?_ (IsS82.ge HI0.out) | refine below_set ?_ GE229.out | refine below_set ?_ GE244.out) | exact HB.out)); (case side3 => have zh := (Kd.R_reads' HO277.out).2.2; exact z9_C); (case side4 => exact (Kd.R_reads' HO277.out).2.1); (case side5 => exact far_slice (IsS82.own_ne HI0.out HO277.out z9_14)); rintro e w83 ⟨rfl, hi, hb, hk⟩; refine ⟨_, rfl, ?_⟩; have n0_ := z9_A (Kd.R_mono (Kd.R_keep (IsS82.apart (show IsS82 w0 _ g s0_0 t261 t262 from by repeat (first | (with_reducible first | exact HI0.out | apply IsS82.alloc | apply IsS82.drewN | apply IsS82.drew | apply IsS82.set_1 | apply IsS82.set_2 | refine IsS82.far ?_ NB0_229.out _ | refine IsS82.far ?_ NB0_244.out _) | exact HI0.out)) z9_5 z9_14) hk (fun _ h => h.2)) (fun _ h => h.1)); have n1_ := z9_A (KeepBut.blk hk (g' := gb229) (o := .cells #[.slice none 0 0, .int .i64 0, .int .i64 0, .int .i64 0] 30 (0, 0)) z9_4 NB229_0.out z9_18); have n2_ := z9_A (KeepBut.blk hk (g' := gb244) (o := .cells #[u245000, .int .i64 t233, .int .i64 t242, .int .i64 t245] 30 (0, 0)) z9_6 NB244_0.out z9_18); have n3_ := z9_A (Kd.R_mono (Kd.R_keep (IsS82.apart (show IsS82 w0 _ g s0_0 t261 t262 from by repeat (first | (with_reducible first | exact HI0.out | apply IsS82.alloc | apply IsS82.drewN | apply IsS82.drew | apply IsS82.set_1 | apply IsS82.set_2 | refine IsS82.far ?_ NB0_229.out _ | refine IsS82.far ?_ NB0_244.out _) | exact HI0.out)) (by (with_reducible repeat (first | apply Kd.R_alloc | apply Kd.R_drewN | apply Kd.R_drew)); exact HO277.out) z9_14) hk (fun _ h => h.2)) (fun _ h => h.1)); have n4_ := z9_A (KeepBut.trans z9_1 hk (.inl rfl)); have n5_ := z9_A (hb); have n6_ := z9_A (hi); clear HO_245000 BK229 BK244 HO277 HK HB HI0; revert n0_ n1_ n2_ n3_ n4_ n5_ n6_; intro HO_245000 BK229 BK244 HO277 HK HB HI0; (try clear hb); (try clear hb2); (try clear hk); (try clear hi); have hcz84_0 : w83.cell? ⟨gb244, 0, none⟩ = some (u245000) := (blk_cell BK244.out 0).trans rfl; have hcz84_1 : w83.cell? ⟨gb244, 1, none⟩ = some (.int .i64 t233) := (blk_cell BK244.out 1).trans rfl; have hcz84_2 : w83.cell? ⟨gb244, 2, none⟩ = some (.int .i64 t242) := (blk_cell BK244.out 2).trans rfl; have hcz84_3 : w83.cell? ⟨gb244, 3, none⟩ = some (.int .i64 t245) := (blk_cell BK244.out 3).trans rfl; have hfz84_0 := blk_frozen BK244.out 0; have hfz84_1 := blk_frozen BK244.out 1; have hfz84_2 := blk_frozen BK244.out 2; have hfz84_3 := blk_frozen BK244.out 3; obtain ⟨Ao85, co85, eo85⟩ := Kd.R_slice HO_245000.out; subst eo85; have hnb86 := NB229_0.out; have hnc86 := NB0_229.out; have hcz87_0 : w83.cell? ⟨gb229, 0, none⟩ = some (.slice none 0 0) := (blk_cell BK229.out 0).trans rfl; have hcz87_1 : w83.cell? ⟨gb229, 1, none⟩ = some (.int .i64 0) := (blk_cell BK229.out 1).trans rfl; have hcz87_2 : w83.cell? ⟨gb229, 2, none⟩ = some (.int .i64 0) := (blk_cell BK229.out 2).trans rfl; have hcz87_3 : w83.cell? ⟨gb229, 3, none⟩ = some (.int .i64 0) := (blk_cell BK229.out 3).trans rfl; have hfz87_0 := blk_frozen BK229.out 0; have hfz87_1 := blk_frozen BK229.out 1; have hfz87_2 := blk_frozen BK229.out 2; have hfz87_3 := blk_frozen BK229.out 3))
         refine bodyPost_ret (results_cell_row rfl _ _ gb229 30 #[.slice Ao85 x245000_32.length co85, .int .i64 t233, .int .i64 t242, .int .i64 t278] (0, 0) _ rfl (by (with_reducible repeat (first | refine blk_drewN ?_ _ | refine blk_drew ?_ | refine blk_alloc ?_ _)); refine blk_put (cs := #[.slice Ao85 x245000_32.length co85, .int .i64 t233, .int .i64 t242, .int .i64 0]) ?_ 3 _ rfl; (with_reducible repeat (first | refine blk_drewN ?_ _ | refine blk_drew ?_ | refine blk_alloc ?_ _)); refine blk_put (cs := #[.slice Ao85 x245000_32.length co85, .int .i64 t233, .int .i64 0, .int .i64 0]) ?_ 2 _ rfl; (with_reducible repeat (first | refine blk_drewN ?_ _ | refine blk_drew ?_ | refine blk_alloc ?_ _)); refine blk_put (cs := #[.slice Ao85 x245000_32.length co85, .int .i64 0, .int .i64 0, .int .i64 0]) ?_ 1 _ rfl; (with_reducible repeat (first | refine blk_drewN ?_ _ | refine blk_drew ?_ | refine blk_alloc ?_ _)); refine blk_put (cs := #[.slice none 0 0, .int .i64 0, .int .i64 0, .int .i64 0]) ?_ 0 _ rfl; (with_reducible repeat (first | refine blk_drewN ?_ _ | refine blk_drew ?_ | refine blk_alloc ?_ _)); refine blk_far ?_ NB229_244.out _; (with_reducible repeat (first | refine blk_drewN ?_ _ | refine blk_drew ?_ | refine blk_alloc ?_ _)); exact BK229.out) Try.underlying30 rfl z9_12) rfl ?_
         exact ⟨_, z9_13, by (with_reducible repeat (first | apply Kd.R_alloc | apply Kd.R_drewN | apply Kd.R_drew)); exact Kd.R_mono (Kd.R_far (p := ⟨gb229, 3, none⟩) (Kd.R_far (p := ⟨gb229, 2, none⟩) (Kd.R_far (p := ⟨gb229, 1, none⟩) (Kd.R_far (p := ⟨gb229, 0, none⟩) (Kd.R_far (p := ⟨gb244, 3, none⟩) (Kd.R_types (Kd.R_types HO_245000.out BK244.out z9_14) BK229.out z9_14) (fun _ hk => hk.1.2) (.int .i64 t278)) (fun _ hk => hk.2) (.slice Ao85 x245000_32.length co85)) (fun _ hk => hk.2) (.int .i64 t233)) (fun _ hk => hk.2) (.int .i64 t242)) (fun _ hk => hk.2) (.int .i64 t278)) (fun _ hk => trivial), z9_2, z9_3, z9_1⟩
        ·rw [if_neg c74] at H
         have c74b0 : (t260 == 2) = false := beq_eq_false_iff_ne.mpr c74
         have c74b1 : (t260 != 2) = true := bne_iff_ne.mpr c74
         by_cases c88 : t260 = 3
         ·rw [if_pos c88] at H
          have c88b0 : (t260 == 3) = true := beq_iff_eq.mpr c88
          have c88b1 : (t260 != 3) = false := bne_eq_false_iff_eq.mpr c88
          clear c88
          obtain ⟨y281, hy281⟩ : ∃ y_ : List Int, y_ = (([(-1), 5] : List Int)) := ⟨_, rfl⟩
          replace H : ((spec_l1Cur_among.f s0_0 t261 t262 y281).bind fun bt284 => (if 0 < (x245000_32.length : Int) then (some ((x245000_32.set (0 : Int).toNat bt284.1), t233, t242, t245, bt284.2.1, bt284.2.2)) else (none))) = some (r1, r2, r3, r4, r5, r6) := by first | (rw [hy281]; with_reducible exact H) | (have H2_ := (Option.bind_some _ _).symm.trans H; rw [hy281]; with_reducible exact H2_) | (have H2_ := (Option.bind_some _ _).symm.trans H; with_reducible exact H2_) | with_reducible exact H | (rw [hy281]; exact H) | exact H
          have Ny281 := z9_A hy281
          clear hy281
          replace H := Option.bind_eq_some_iff.mp H
          obtain ⟨⟨t284, t285, t286⟩, A890, H⟩ := H
          (try dsimp only at H)
          have A89 := z9_A A890
          clear A890
          by_cases c90 : 0 < (x245000_32.length : Int)
          ·rw [if_pos c90] at H
           have c90b0 : decide (0 < (x245000_32.length : Int)) = true := decide_eq_true c90
           have c90b1 : decide (0 < x245000_32.length) = true := decide_eq_true (by omega)
           clear c90
           obtain ⟨y287, hy287⟩ : ∃ y_ : List Int, y_ = (x245000_32.set (0 : Int).toNat t284) := ⟨_, rfl⟩
           replace H : (some (y287, t233, t242, t245, t285, t286)) = some (r1, r2, r3, r4, r5, r6) := by first | (rw [hy287]; with_reducible exact H) | (have H2_ := (Option.bind_some _ _).symm.trans H; rw [hy287]; with_reducible exact H2_) | (have H2_ := (Option.bind_some _ _).symm.trans H; with_reducible exact H2_) | with_reducible exact H | (rw [hy287]; exact H) | exact H
           have Ny287 := z9_A hy287
           clear hy287
           simp only [Option.some.injEq, Prod.mk.injEq] at H
           obtain ⟨rfl, rfl, rfl, rfl, rfl, rfl⟩ := H
           try go_wp2_with (first | ((with_reducible refine gate_callee (f := 105) rfl ?_); refine goesL_ (some 53) rfl rfl Try.func105 z9_12 rfl #[.pointer (some ⟨g, 0, none⟩), .int .i64 40] rfl z9_7 ?_; (with_reducible refine (spec_l1Cur_pick.calls g s0_0 x1001_1 x1002_1 40 t260 t261 t262 w0 _ ?side1 ?side2 A46.out).mono ?_); (case side1 => repeat (first | (with_reducible first | exact HI0.out | apply IsS82.alloc | apply IsS82.drewN | apply IsS82.drew | apply IsS82.set_1 | apply IsS82.set_2 | refine IsS82.far ?_ NB0_229.out _ | refine IsS82.far ?_ NB0_244.out _) | exact HI0.out)); (case side2 => repeat (first | (with_reducible first | exact HB.out | apply below_alloc | apply pw_below_drewN | apply below_drew1 | refine below_set ?_ (IsS82.ge HI0.out) | refine below_set ?_ GE229.out | refine below_set ?_ GE244.out) | exact HB.out)); rintro e w92 ⟨rfl, hi, hb, hk⟩; refine ⟨_, rfl, ?_⟩; have n0_ := z9_A (Kd.R_mono (Kd.R_keep (IsS82.apart (show IsS82 w0 _ g s0_0 x1001_1 x1002_1 from by repeat (first | (with_reducible first | exact HI0.out | apply IsS82.alloc | apply IsS82.drewN | apply IsS82.drew | apply IsS82.set_1 | apply IsS82.set_2 | refine IsS82.far ?_ NB0_229.out _ | refine IsS82.far ?_ NB0_244.out _) | exact HI0.out)) z9_5 z9_14) hk (fun _ h => h.2)) (fun _ h => h.1)); have n1_ := z9_A (KeepBut.blk hk (g' := gb229) (o := .cells #[.slice none 0 0, .int .i64 0, .int .i64 0, .int .i64 0] 30 (0, 0)) z9_4 NB229_0.out z9_18); have n2_ := z9_A (KeepBut.blk hk (g' := gb244) (o := .cells #[u245000, .int .i64 t233, .int .i64 t242, .int .i64 t245] 30 (0, 0)) z9_6 NB244_0.out z9_18); have n3_ := z9_A (KeepBut.trans z9_1 hk (.inl rfl)); have n4_ := z9_A (hb); have n5_ := z9_A (hi); clear HO_245000 BK229 BK244 HK HB HI0; revert n0_ n1_ n2_ n3_ n4_ n5_; intro HO_245000 BK229 BK244 HK HB HI0; (try clear hb); (try clear hb2); (try clear hk); (try clear hi)))
           have n0_ := z9_A (Kd.R_drew HO_245000.out)
           have n1_ := z9_A (blk_drew BK229.out)
           have n2_ := z9_A (blk_drew BK244.out)
           have n3_ := z9_A (IsS82.drew HI0.out)
           have n4_ := z9_A (keep_drew HK.out)
           have n5_ := z9_A (below_drew1 HB.out)
           clear HO_245000
           clear BK229
           clear BK244
           clear HI0
           clear HK
           clear HB
           have HO_245000 := n0_
           have BK229 := n1_
           have BK244 := n2_
           have HI0 := n3_
           have HK := n4_
           have HB := n5_
           clear n0_ n1_ n2_ n3_ n4_ n5_
           refine start_ (n := 7) (S := fun w' => w'.cell? ⟨gb244, 0, none⟩ = some (u245000) ∧ w'.cell? ⟨gb244, 1, none⟩ = some (.int .i64 t233) ∧ w'.cell? ⟨gb244, 2, none⟩ = some (.int .i64 t242) ∧ w'.cell? ⟨gb244, 3, none⟩ = some (.int .i64 t245)) (ds := [6]) #[false, false, false, false, false, false, false] z9_12 rfl rfl ⟨(blk_cell BK244.out 0).trans rfl, (blk_cell BK244.out 1).trans rfl, (blk_cell BK244.out 2).trans rfl, (blk_cell BK244.out 3).trans rfl⟩ (fun hHeld => ?_)
           generalize w92.drew = w93 at HO_245000 BK229 BK244 HI0 HK HB hHeld ⊢
           refine pure_ (i := 0) (N := some 84) (v := ?_) (a' := ?_) #[true, false, false, false, false, false, false] rfl rfl z9_12 (fun _ _ _ h => h) (Or.inl ⟨by rfl, ?_⟩) ?_ ?_
           rotate_left
           ·intro w'
            go_simp
            with_reducible rfl
           rotate_left
           ·simp only [Act.put, List.setIfInBounds_toArray, List.set_cons_zero, List.set_cons_succ, i64_w, i32_w]
            rfl
           refine pure_ (i := 2) (N := some 86) (v := ?_) (a' := ?_) #[true, false, true, false, false, false, false] rfl rfl z9_12 (fun _ _ _ h => h) (Or.inl ⟨by rfl, ?_⟩) ?_ ?_
           rotate_left
           ·intro w'
            go_simp
            with_reducible rfl
           rotate_left
           ·simp only [Act.put, List.setIfInBounds_toArray, List.set_cons_zero, List.set_cons_succ, i64_w, i32_w]
            rfl
           refine take_ (i := 1) (N := some 85) (v := ?_) (a' := ?_) #[true, true, true, false, false, false, false] rfl rfl z9_12 (fun _ _ _ h => h) (Or.inl ⟨by rfl, ?_⟩) hHeld ?_ ?_
           rotate_left
           ·rintro w' ⟨s0, s1, s2, s3⟩
            go_simp
            with_reducible rfl
           rotate_left
           ·simp only [Act.put, List.setIfInBounds_toArray, List.set_cons_zero, List.set_cons_succ, i64_w, i32_w]
            rfl
           refine one_ (i := 3) (N := some 87) #[true, true, true, true, false, false, false] rfl rfl z9_12 z9_14 (fun K hK => ?_)
           refine Kd.R_lit_step (Kd.int .i64) _ 3 ?hg (N := 87) ?hd (xs := ([(-1), 5] : List Int)) (inner := [.int .i64 (-1), .int .i64 5]) (ok := fun _ => True) (okp := fun _ => True) ?hr ?hp (fun _ hk => hk) trivial (Below.refl _ _) (Nat.le_refl _) z9_18 ?_; (case hd => rfl); (case hg => rfl); (case hr => first | (go_simp; done) | (go_simp; rfl)); (case hp => exact (Reps.one (show Kd.M (Kd.int .i64) _ _ _ (-1) [.int .i64 (-1)] from rfl) (Reps.one (show Kd.M (Kd.int .i64) _ _ _ 5 [.int .i64 5] from rfl) (Reps.none _ _))))
           intro v282 w94 ho95 hb hg_ hnew_
           clear hg_ hnew_
           (first | rw [← Ny281.out] at ho95 | (simp only [Int.reduceToNat] at ho95; rw [← Ny281.out] at ho95))
           have n0_ := z9_A (Kd.R_elder' z9_5 (Kd.R_base ho95) hb)
           have n1_ := z9_A (Kd.R_lower (Kd.R_new' ho95 (Kd.R_lt z9_5)) (keep_size (w := w) (g := g) (row := none) z9_1))
           have n2_ := z9_A (blk_below (g := gb229) (o := .cells #[.slice none 0 0, .int .i64 0, .int .i64 0, .int .i64 0] 30 (0, 0)) z9_4 hb)
           have n3_ := z9_A (blk_below (g := gb244) (o := .cells #[u245000, .int .i64 t233, .int .i64 t242, .int .i64 t245] 30 (0, 0)) z9_6 hb)
           have n4_ := z9_A (IsS82.below z9_2 hb)
           have n5_ := z9_A (KeepBut.trans z9_1 (KeepBut.of_below hb g none) (.inl rfl))
           have n6_ := z9_A (below_step z9_3 hb)
           clear HO_245000
           clear BK229
           clear BK244
           clear HI0
           clear HK
           clear HB
           have HO_245000 := n0_
           have HO283 := n1_
           have BK229 := n2_
           have BK244 := n3_
           have HI0 := n4_
           have HK := n5_
           have HB := n6_
           clear n0_ n1_ n2_ n3_ n4_ n5_ n6_
           clear hb ho95
           obtain ⟨Ao96, co96, eo96⟩ := Kd.R_slice HO283.out
           (first | subst eo96 | (injection eo96 with f1_ f2_ f3_; have f4_ := f1_.symm; have f5_ := f3_.symm; clear f1_ f2_ f3_; subst f4_; subst f5_))
           refine hK.out _ _ ⟨(blk_cell BK244.out 0).trans rfl, (blk_cell BK244.out 1).trans rfl, (blk_cell BK244.out 2).trans rfl, (blk_cell BK244.out 3).trans rfl⟩ (fun hHeld => ?_)
           clear hK K
           refine norm_ (a' := ?_) ?_ ?_
           rotate_left
           ·show Act.put _ (some 87) _ = _
            simp only [Act.put, List.setIfInBounds_toArray, List.set_cons_zero, List.set_cons_succ, i64_w, i32_w]
            rfl
           refine one_ (i := 4) (N := some 88) #[true, true, true, true, true, false, false] rfl rfl z9_12 z9_14 (fun K hK => ?_)
           refine goes_ Try.func82 z9_12 rfl #[.pointer (some ⟨g, 0, none⟩), .slice Ao96 y281.length co96] (by rfl) rfl rfl z9_7 ?_
           with_reducible refine (spec_l1Cur_among.calls g s0_0 t261 t262 _ _ y281 t284 t285 t286 w0 _ ?side1 ?side2 ?side3 ?side4 ?side5 A89.out).mono ?_
           (case side1 => repeat (first | (with_reducible first | exact HI0.out | apply IsS82.alloc | apply IsS82.drewN | apply IsS82.drew | apply IsS82.set_1 | apply IsS82.set_2 | refine IsS82.far ?_ NB0_229.out _ | refine IsS82.far ?_ NB0_244.out _) | exact HI0.out))
           (case side2 => repeat (first | (with_reducible first | exact HB.out | apply below_alloc | apply pw_below_drewN | apply below_drew1 | refine below_set ?_ (IsS82.ge HI0.out) | refine below_set ?_ GE229.out | refine below_set ?_ GE244.out) | exact HB.out))
           (case side3 => have zh := (Kd.R_reads' HO283.out).2.2; exact z9_C)
           (case side4 => exact (Kd.R_reads' HO283.out).2.1)
           (case side5 => exact far_slice (IsS82.own_ne HI0.out HO283.out z9_14))
           rintro e w97 ⟨rfl, hi, hb, hk⟩
           refine ⟨_, rfl, ?_⟩
           have n0_ := z9_A (Kd.R_mono (Kd.R_keep (IsS82.apart (show IsS82 w0 _ g s0_0 t261 t262 from by repeat (first | (with_reducible first | exact HI0.out | apply IsS82.alloc | apply IsS82.drewN | apply IsS82.drew | apply IsS82.set_1 | apply IsS82.set_2 | refine IsS82.far ?_ NB0_229.out _ | refine IsS82.far ?_ NB0_244.out _) | exact HI0.out)) z9_5 z9_14) hk (fun _ h => h.2)) (fun _ h => h.1))
           have n1_ := z9_A (KeepBut.blk hk (g' := gb229) (o := .cells #[.slice none 0 0, .int .i64 0, .int .i64 0, .int .i64 0] 30 (0, 0)) z9_4 NB229_0.out z9_18)
           have n2_ := z9_A (KeepBut.blk hk (g' := gb244) (o := .cells #[u245000, .int .i64 t233, .int .i64 t242, .int .i64 t245] 30 (0, 0)) z9_6 NB244_0.out z9_18)
           have n3_ := z9_A (Kd.R_mono (Kd.R_keep (IsS82.apart (show IsS82 w0 _ g s0_0 t261 t262 from by repeat (first | (with_reducible first | exact HI0.out | apply IsS82.alloc | apply IsS82.drewN | apply IsS82.drew | apply IsS82.set_1 | apply IsS82.set_2 | refine IsS82.far ?_ NB0_229.out _ | refine IsS82.far ?_ NB0_244.out _) | exact HI0.out)) (by (with_reducible repeat (first | apply Kd.R_alloc | apply Kd.R_drewN | apply Kd.R_drew)); exact HO283.out) z9_14) hk (fun _ h => h.2)) (fun _ h => h.1))
           have n4_ := z9_A (KeepBut.trans z9_1 hk (.inl rfl))
           have n5_ := z9_A (hb)
           have n6_ := z9_A (hi)
           clear HO_245000
           clear BK229
           clear BK244
           clear HO283
           clear HK
           clear HB
           clear HI0
           have HO_245000 := n0_
           have BK229 := n1_
           have BK244 := n2_
           have HO283 := n3_
           have HK := n4_
           have HB := n5_
           have HI0 := n6_
           clear n0_ n1_ n2_ n3_ n4_ n5_ n6_
           (try clear hb)
           (try clear hb2)
           (try clear hk)
           (try clear hi)
           have p91 : 0 ≤ (0 : Int) := (by omega)
           have q91 : (0 : Int) < ((x245000_32.length : Int) : Int) := of_decide_eq_true (by first | (with_reducible assumption) | assumption)
           have qi91 : (0 < x245000_32.length) = True := eq_true (by omega)
           obtain ⟨go91, co91, eo91, gb91, gl91, cl91, HG91⟩ := Kd.R_form HO_245000.out (by omega)
           (first | cases eo91 | (injection eo91 with ea_ en_ ec_; (first | subst ea_ | (injection ea_ with ea_; subst ea_)); subst ec_; clear en_))
           have GB91 := z9_A gb91
           have GG91 := z9_A HG91
           clear gb91 gl91 HG91
           obtain ⟨hx91_0, hf91_0⟩ := Kd.R_celln 0 HO_245000.out (0 : Int) p91 q91
           (try rw [show ((0 : Int)).toNat = 0 from rfl] at hx91_0)
           (try simp only [Nat.reduceMul, Nat.zero_mul, Nat.zero_add, Nat.reduceAdd] at hx91_0)
           (try rw [show ((0 : Int)).toNat = 0 from rfl] at hf91_0)
           (try simp only [Nat.reduceMul, Nat.zero_mul, Nat.zero_add, Nat.reduceAdd] at hf91_0)
           replace p91 := eq_true p91
           replace q91 := eq_true q91
           have HN0_go91 := z9_A (show g ≠ go91 from by have h_ := IsS82.own_ne HI0.out HO_245000.out z9_14; intro e_; exact h_ (by rw [e_]; rfl))
           have HP98 := Kd.R_putn HO_245000.out (0 : Int) t284
           rw [← Ny287.out] at HP98
           have HQ98 := z9_A HP98
           clear HP98
           refine hK.out _ _ ⟨(blk_cell BK244.out 0).trans rfl, (blk_cell BK244.out 1).trans rfl, (blk_cell BK244.out 2).trans rfl, (blk_cell BK244.out 3).trans rfl⟩ (fun hHeld => ?_)
           clear hK K
           refine norm_ (a' := ?_) ?_ ?_
           rotate_left
           ·show Act.put _ (some 88) _ = _
            simp only [Act.put, List.setIfInBounds_toArray, List.set_cons_zero, List.set_cons_succ, i64_w, i32_w]
            rfl
           refine pure_ (i := 5) (N := some 89) (v := ?_) (a' := ?_) #[true, true, true, true, true, true, false] rfl rfl z9_12 (fun _ _ _ h => h) (Or.inl ⟨by rfl, ?_⟩) ?_ ?_
           rotate_left
           ·intro w'
            go_simp
            with_reducible rfl
           rotate_left
           ·simp only [Act.put, List.setIfInBounds_toArray, List.set_cons_zero, List.set_cons_succ, i64_w, i32_w]
            rfl
           refine last_ (i := 6) (N := none) #[true, true, true, true, true, true, true] rfl rfl z9_12 z9_14 (fun K hK => ?_)
           refine skip_ (w1 := ?_) (by rfl) rfl ?_ ?_
           rotate_left
           ·go_simp
            rfl
           refine hK.out _ _ ?_
           clear hK K
           refine done_ z9_12 ?_
           have n0_ : Aside0 (Kd.R (Kd.int .i64) 3 (w97.setCell ⟨go91, 0, none⟩ (.int .i64 t284)) w.heap.size (fun k_ => z9_S k_ Ao96 y281.length co96) (.slice (some ⟨go91, 0, none⟩) x245000_32.length co91) y287) := ⟨by (with_reducible repeat (first | apply Kd.R_alloc | apply Kd.R_drewN | apply Kd.R_drew)); exact Kd.R_mono HQ98.out (fun _ hk => hk.2)⟩
           have n1_ : Aside0 (Kd.R (Kd.int .i64) 3 (w97.setCell ⟨go91, 0, none⟩ (.int .i64 t284)) w.heap.size (fun k_ => z9_S k_ (some ⟨go91, 0, none⟩) x245000_32.length co91) (.slice Ao96 y281.length co96) y281) := ⟨by (with_reducible repeat (first | apply Kd.R_alloc | apply Kd.R_drewN | apply Kd.R_drew)); exact Kd.R_mono (Kd.R_far (p := ⟨go91, 0, none⟩) (Kd.R_mono HO283.out (fun k_ hk => (⟨hk, fun e_ => hk.2 (by rw [e_]; rfl)⟩ : _ ∧ k_ ≠ go91))) (fun _ hk => hk.2) (.int .i64 t284)) (fun _ hk => hk.1.2)⟩
           have n2_ : Aside0 ((w97.setCell ⟨go91, 0, none⟩ (.int .i64 t284)).heap[gb229]? = some (.cells #[.slice none 0 0, .int .i64 0, .int .i64 0, .int .i64 0] 30 (0, 0))) := ⟨by (with_reducible repeat (first | refine blk_drewN ?_ _ | refine blk_drew ?_ | refine blk_alloc ?_ _)); refine blk_far ?_ (by have h_ := Kd.R_ne HO_245000.out BK229.out z9_14; intro e_; exact h_ (by rw [e_]; rfl)) _; (with_reducible repeat (first | refine blk_drewN ?_ _ | refine blk_drew ?_ | refine blk_alloc ?_ _)); exact BK229.out⟩
           have n3_ : Aside0 ((w97.setCell ⟨go91, 0, none⟩ (.int .i64 t284)).heap[gb244]? = some (.cells #[.slice (some ⟨go91, 0, none⟩) x245000_32.length co91, .int .i64 t233, .int .i64 t242, .int .i64 t245] 30 (0, 0))) := ⟨by (with_reducible repeat (first | refine blk_drewN ?_ _ | refine blk_drew ?_ | refine blk_alloc ?_ _)); refine blk_far ?_ (by have h_ := Kd.R_ne HO_245000.out BK244.out z9_14; intro e_; exact h_ (by rw [e_]; rfl)) _; (with_reducible repeat (first | refine blk_drewN ?_ _ | refine blk_drew ?_ | refine blk_alloc ?_ _)); exact BK244.out⟩
           have n4_ : Aside0 (IsS82 w0 (w97.setCell ⟨go91, 0, none⟩ (.int .i64 t284)) g s0_0 t285 t286) := ⟨by repeat (first | (with_reducible first | exact HI0.out | apply IsS82.alloc | apply IsS82.drewN | apply IsS82.drew | apply IsS82.set_1 | apply IsS82.set_2 | refine IsS82.far ?_ HN0_go91.out _ | refine IsS82.far ?_ NB0_229.out _ | refine IsS82.far ?_ NB0_244.out _) | exact HI0.out)⟩
           have n5_ : Aside0 (KeepBut w (w97.setCell ⟨go91, 0, none⟩ (.int .i64 t284)) g none) := ⟨by repeat (first | (with_reducible first | exact HK.out | apply KeepBut.set_ | apply keep_drewN | apply keep_drew | apply keep_alloc | refine keep_far ?_ GB91.out _ | refine keep_far ?_ GW229.out _ | refine keep_far ?_ GW244.out _) | exact HK.out)⟩
           have n6_ : Aside0 (Below w0.heap.size w0 (w97.setCell ⟨go91, 0, none⟩ (.int .i64 t284))) := ⟨by repeat (first | (with_reducible first | exact HB.out | apply below_alloc | apply pw_below_drewN | apply below_drew1 | refine below_set ?_ (Nat.le_trans HL.out GB91.out) | refine below_set ?_ (IsS82.ge HI0.out) | refine below_set ?_ GE229.out | refine below_set ?_ GE244.out) | exact HB.out)⟩
           (try clear HO_245000)
           (try clear HO283)
           (try clear BK229)
           (try clear BK244)
           (try clear HI0)
           (try clear HK)
           (try clear HB)
           generalize (w97.setCell ⟨go91, 0, none⟩ (.int .i64 t284)) = w99 at n0_ n1_ n2_ n3_ n4_ n5_ n6_ ⊢
           have HO_245000 := n0_
           have HO283 := n1_
           have BK229 := n2_
           have BK244 := n3_
           have HI0 := n4_
           have HK := n5_
           have HB := n6_
           clear n0_ n1_ n2_ n3_ n4_ n5_ n6_
           have hnb100 := NB244_229.out
           have hnc100 := NB229_244.out
           have hnb101 := NB244_0.out
           have hnc101 := NB0_244.out
           have hcz102_0 : w99.cell? ⟨gb244, 0, none⟩ = some (.slice (some ⟨go91, 0, none⟩) x245000_32.length co91) := (blk_cell BK244.out 0).trans rfl
           have hcz102_1 : w99.cell? ⟨gb244, 1, none⟩ = some (.int .i64 t233) := (blk_cell BK244.out 1).trans rfl
           have hcz102_2 : w99.cell? ⟨gb244, 2, none⟩ = some (.int .i64 t242) := (blk_cell BK244.out 2).trans rfl
           have hcz102_3 : w99.cell? ⟨gb244, 3, none⟩ = some (.int .i64 t245) := (blk_cell BK244.out 3).trans rfl
           have hfz102_0 := blk_frozen BK244.out 0
           have hfz102_1 := blk_frozen BK244.out 1
           have hfz102_2 := blk_frozen BK244.out 2
           have hfz102_3 := blk_frozen BK244.out 3
           have hnb103 := NB229_0.out
           have hnc103 := NB0_229.out
           have hcz104_0 : w99.cell? ⟨gb229, 0, none⟩ = some (.slice none 0 0) := (blk_cell BK229.out 0).trans rfl
           have hcz104_1 : w99.cell? ⟨gb229, 1, none⟩ = some (.int .i64 0) := (blk_cell BK229.out 1).trans rfl
           have hcz104_2 : w99.cell? ⟨gb229, 2, none⟩ = some (.int .i64 0) := (blk_cell BK229.out 2).trans rfl
           have hcz104_3 : w99.cell? ⟨gb229, 3, none⟩ = some (.int .i64 0) := (blk_cell BK229.out 3).trans rfl
           have hfz104_0 := blk_frozen BK229.out 0
           have hfz104_1 := blk_frozen BK229.out 1
           have hfz104_2 := blk_frozen BK229.out 2
           have hfz104_3 := blk_frozen BK229.out 3
           try go_wp2
           refine bodyPost_ret (results_cell_row rfl _ _ gb229 30 #[.slice (some ⟨go91, 0, none⟩) x245000_32.length co91, .int .i64 t233, .int .i64 t242, .int .i64 t245] (0, 0) _ rfl (by (with_reducible repeat (first | refine blk_drewN ?_ _ | refine blk_drew ?_ | refine blk_alloc ?_ _)); refine blk_put (cs := #[.slice (some ⟨go91, 0, none⟩) x245000_32.length co91, .int .i64 t233, .int .i64 t242, .int .i64 0]) ?_ 3 _ rfl; (with_reducible repeat (first | refine blk_drewN ?_ _ | refine blk_drew ?_ | refine blk_alloc ?_ _)); refine blk_put (cs := #[.slice (some ⟨go91, 0, none⟩) x245000_32.length co91, .int .i64 t233, .int .i64 0, .int .i64 0]) ?_ 2 _ rfl; (with_reducible repeat (first | refine blk_drewN ?_ _ | refine blk_drew ?_ | refine blk_alloc ?_ _)); refine blk_put (cs := #[.slice (some ⟨go91, 0, none⟩) x245000_32.length co91, .int .i64 0, .int .i64 0, .int .i64 0]) ?_ 1 _ rfl; (with_reducible repeat (first | refine blk_drewN ?_ _ | refine blk_drew ?_ | refine blk_alloc ?_ _)); refine blk_put (cs := #[.slice none 0 0, .int .i64 0, .int .i64 0, .int .i64 0]) ?_ 0 _ rfl; (with_reducible repeat (first | refine blk_drewN ?_ _ | refine blk_drew ?_ | refine blk_alloc ?_ _)); exact BK229.out) Try.underlying30 rfl z9_12) rfl ?_
           exact ⟨_, z9_13, by (with_reducible repeat (first | apply Kd.R_alloc | apply Kd.R_drewN | apply Kd.R_drew)); exact Kd.R_mono (Kd.R_far (p := ⟨gb229, 3, none⟩) (Kd.R_far (p := ⟨gb229, 2, none⟩) (Kd.R_far (p := ⟨gb229, 1, none⟩) (Kd.R_far (p := ⟨gb229, 0, none⟩) (Kd.R_types HO_245000.out BK229.out z9_14) (fun _ hk => hk.2) (.slice (some ⟨go91, 0, none⟩) x245000_32.length co91)) (fun _ hk => hk.2) (.int .i64 t233)) (fun _ hk => hk.2) (.int .i64 t242)) (fun _ hk => hk.2) (.int .i64 t245)) (fun _ hk => trivial), z9_2, z9_3, z9_1⟩
          ·rw [if_neg c90] at H
           exact absurd H z9_18
         ·rw [if_neg c88] at H
          have c88b0 : (t260 == 3) = false := beq_eq_false_iff_ne.mpr c88
          have c88b1 : (t260 != 3) = true := bne_iff_ne.mpr c88
          by_cases c105 : t260 = 4
          ·rw [if_pos c105] at H
           have c105b0 : (t260 == 4) = true := beq_iff_eq.mpr c105
           have c105b1 : (t260 != 4) = false := bne_eq_false_iff_eq.mpr c105
           clear c105
           have H' := z9_A H
           clear H
           go_wp2_with (first | ((with_reducible refine gate_callee (f := 105) rfl ?_); refine goesL_ (some 53) rfl rfl Try.func105 z9_12 rfl #[.pointer (some ⟨g, 0, none⟩), .int .i64 40] rfl z9_7 ?_; (with_reducible refine (spec_l1Cur_pick.calls g s0_0 x1001_1 x1002_1 40 t260 t261 t262 w0 _ ?side1 ?side2 A46.out).mono ?_); (case side1 => repeat (first | (with_reducible first | exact HI0.out | apply IsS82.alloc | apply IsS82.drewN | apply IsS82.drew | apply IsS82.set_1 | apply IsS82.set_2 | refine IsS82.far ?_ NB0_229.out _ | refine IsS82.far ?_ NB0_244.out _) | exact HI0.out)); (case side2 => repeat (first | (with_reducible first | exact HB.out | apply below_alloc | apply pw_below_drewN | apply below_drew1 | refine below_set ?_ (IsS82.ge HI0.out) | refine below_set ?_ GE229.out | refine below_set ?_ GE244.out) | exact HB.out)); rintro e w106 ⟨rfl, hi, hb, hk⟩; refine ⟨_, rfl, ?_⟩; have n0_ := z9_A (Kd.R_mono (Kd.R_keep (IsS82.apart (show IsS82 w0 _ g s0_0 x1001_1 x1002_1 from by repeat (first | (with_reducible first | exact HI0.out | apply IsS82.alloc | apply IsS82.drewN | apply IsS82.drew | apply IsS82.set_1 | apply IsS82.set_2 | refine IsS82.far ?_ NB0_229.out _ | refine IsS82.far ?_ NB0_244.out _) | exact HI0.out)) z9_5 z9_14) hk (fun _ h => h.2)) (fun _ h => h.1)); have n1_ := z9_A (KeepBut.blk hk (g' := gb229) (o := .cells #[.slice none 0 0, .int .i64 0, .int .i64 0, .int .i64 0] 30 (0, 0)) z9_4 NB229_0.out z9_18); have n2_ := z9_A (KeepBut.blk hk (g' := gb244) (o := .cells #[u245000, .int .i64 t233, .int .i64 t242, .int .i64 t245] 30 (0, 0)) z9_6 NB244_0.out z9_18); have n3_ := z9_A (KeepBut.trans z9_1 hk (.inl rfl)); have n4_ := z9_A (hb); have n5_ := z9_A (hi); clear HO_245000 BK229 BK244 HK HB HI0; revert n0_ n1_ n2_ n3_ n4_ n5_; intro HO_245000 BK229 BK244 HK HB HI0; (try clear hb); (try clear hb2); (try clear hk); (try clear hi)))
           go_loopg [] kj32 (fun kq w' => ∃ (x245000_3 : List Int) (u245000 : Value), Aside0 (spec_l1Cur_market.l1 kq s0_0 t261 t262 x245000_3 t233 t242 t245 = some (r1, r2, r3, r4, r5, r6)) ∧ Aside0 (kq ≤ kj32) ∧ Aside0 (Kd.R (Kd.int .i64) 3 w' w.heap.size (fun _ => True) u245000 x245000_3) ∧ Aside0 (w'.heap[gb229]? = some (.cells #[(.slice none 0 0), .int .i64 0, .int .i64 0, .int .i64 0] 30 (0, 0))) ∧ Aside0 (w'.heap[gb244]? = some (.cells #[u245000, .int .i64 t233, .int .i64 t242, .int .i64 t245] 30 (0, 0))) ∧ Aside0 (IsS82 w0 w' g s0_0 t261 t262) ∧ Aside0 (KeepBut w w' g none) ∧ Aside0 (Below w0.heap.size w0 w'))
           case atStart => exact ⟨(x245000_32), (u245000), H', ⟨Nat.le_refl _⟩, ⟨z9_5⟩, ⟨z9_4⟩, ⟨z9_6⟩, ⟨z9_2⟩, ⟨z9_1⟩, ⟨z9_3⟩⟩
           case round =>
            clear H'
            (try clear c5); (try clear c6); (try clear c7); (try clear c9); (try clear p9); (try clear q9); (try clear hx9); (try clear qi9); (try clear hf9); (try clear c47); (try clear c47b0); (try clear c47b1); (try clear c54); (try clear c55); (try clear c58); (try clear c60); (try clear c60b0); (try clear c60b1); (try clear c63); (try clear c64); (try clear p64); (try clear c72); (try clear c74); (try clear c74b0); (try clear c74b1); (try clear c77); (try clear c78); (try clear c82); (try clear c86); (try clear c88); (try clear c88b0); (try clear c88b1); (try clear c90); (try clear c90b0); (try clear c90b1); (try clear p91); (try clear q91); (try clear hx91); (try clear qi91); (try clear hf91); (try clear c100); (try clear c101); (try clear c103); (try clear c105); (try clear c105b0); (try clear c105b1); (try clear hcz102_0); (try clear hcz102_1); (try clear hcz102_2); (try clear hcz102_3); (try clear hcz104_0); (try clear hcz104_1); (try clear hcz104_2); (try clear hcz104_3); (try clear hcz56_0); (try clear hcz56_1); (try clear hcz56_2); (try clear hcz56_3); (try clear hcz59_0); (try clear hcz59_1); (try clear hcz59_2); (try clear hcz59_3); (try clear hcz65_0); (try clear hcz65_1); (try clear hcz65_2); (try clear hcz65_3); (try clear hcz70_0); (try clear hcz70_1); (try clear hcz70_2); (try clear hcz70_3); (try clear hcz73_0); (try clear hcz73_1); (try clear hcz73_2); (try clear hcz73_3); (try clear hcz79_0); (try clear hcz79_1); (try clear hcz79_2); (try clear hcz79_3); (try clear hcz84_0); (try clear hcz84_1); (try clear hcz84_2); (try clear hcz84_3); (try clear hcz87_0); (try clear hcz87_1); (try clear hcz87_2); (try clear hcz87_3); (try clear hfz102_0); (try clear hfz102_1); (try clear hfz102_2); (try clear hfz102_3); (try clear hfz104_0); (try clear hfz104_1); (try clear hfz104_2); (try clear hfz104_3); (try clear hfz56_0); (try clear hfz56_1); (try clear hfz56_2); (try clear hfz56_3); (try clear hfz59_0); (try clear hfz59_1); (try clear hfz59_2); (try clear hfz59_3); (try clear hfz65_0); (try clear hfz65_1); (try clear hfz65_2); (try clear hfz65_3); (try clear hfz70_0); (try clear hfz70_1); (try clear hfz70_2); (try clear hfz70_3); (try clear hfz73_0); (try clear hfz73_1); (try clear hfz73_2); (try clear hfz73_3); (try clear hfz79_0); (try clear hfz79_1); (try clear hfz79_2); (try clear hfz79_3); (try clear hfz84_0); (try clear hfz84_1); (try clear hfz84_2); (try clear hfz84_3); (try clear hfz87_0); (try clear hfz87_1); (try clear hfz87_2); (try clear hfz87_3); (try clear hx91_0); (try clear p91); (try clear q91)
            obtain ⟨x245000_3, u245000, HA, HK3, HO_245000, BK229, BK244, HI0, HK, HB⟩ := hrel
            cases gk with
            | zero => exact absurd HA.out (by simp [spec_l1Cur_market.l1])
            | succ k3 =>
             have H := HA.out
             clear HA
             simp only [spec_l1Cur_market.l1] at H
             by_cases c107 : (x245000_3.length : Int) < 10
             ·rw [if_pos c107] at H
              have c107b0 : decide ((x245000_3.length : Int) < 10) = true := decide_eq_true c107
              have c107b1 : decide (x245000_3.length < 10) = true := decide_eq_true (by omega)
              clear c107
              by_cases c108 : x245000_3.length < 17592186044416
              ·rw [if_pos c108] at H
               have LMc108 := z9_A c108
               clear c108
               obtain ⟨y288, hy288⟩ : ∃ y_ : List Int, y_ = (x245000_3 ++ [1]) := ⟨_, rfl⟩
               replace H : (spec_l1Cur_market.l1 k3 s0_0 t261 t262 y288 t233 t242 t245) = some (r1, r2, r3, r4, r5, r6) := by first | (rw [hy288]; with_reducible exact H) | (have H2_ := (Option.bind_some _ _).symm.trans H; rw [hy288]; with_reducible exact H2_) | (have H2_ := (Option.bind_some _ _).symm.trans H; with_reducible exact H2_) | with_reducible exact H | (rw [hy288]; exact H) | exact H
               have Ny288 := z9_A hy288
               clear hy288
               have H' := z9_A H
               clear H
               have hnb109 := NB244_229.out
               have hnc109 := NB229_244.out
               have hnb110 := NB244_0.out
               have hnc110 := NB0_244.out
               have hcz111_0 : wr.cell? ⟨gb244, 0, none⟩ = some (u245000) := (blk_cell BK244.out 0).trans rfl
               have hcz111_1 : wr.cell? ⟨gb244, 1, none⟩ = some (.int .i64 t233) := (blk_cell BK244.out 1).trans rfl
               have hcz111_2 : wr.cell? ⟨gb244, 2, none⟩ = some (.int .i64 t242) := (blk_cell BK244.out 2).trans rfl
               have hcz111_3 : wr.cell? ⟨gb244, 3, none⟩ = some (.int .i64 t245) := (blk_cell BK244.out 3).trans rfl
               have hfz111_0 := blk_frozen BK244.out 0
               have hfz111_1 := blk_frozen BK244.out 1
               have hfz111_2 := blk_frozen BK244.out 2
               have hfz111_3 := blk_frozen BK244.out 3
               obtain ⟨Ao112, co112, eo112⟩ := Kd.R_slice HO_245000.out
               subst eo112
               go_wp2_with (first | ((with_reducible refine gate_builtin (b := .append) (xs := #[.tmp 97, .tmp 98]) rfl ?_); at_builtin; refine Kd.R_append (Kd.int .i64) w.heap.size rfl (.tmp 97) (.tmp 98) 22 3 (.int .i64 0) 8 rfl Try.underlying22 info3 rfl z9_14 (by omega) (.slice Ao112 x245000_3.length co112) x245000_3 1 [.int .i64 1] (fun _ => True) (fun _ => False) rfl rfl ?aP (fun _ hk => hk.elim) ?aF ?aO (Below.refl _ _) ?aS ?aL ?_; (case aP => exact rfl); (case aF => exact (fun _ _ => trivial)); (case aO => exact z9_5); (case aS => exact (keep_size (w := w) (g := g) (row := none) z9_1)); (case aL => have := LMc108.out; omega); intro v289 w113 ho hb hg hat; rw [← Ny288.out] at ho; have n0_ := z9_A (blk_grown (g := gb229) (o := .cells #[.slice none 0 0, .int .i64 0, .int .i64 0, .int .i64 0] 30 (0, 0)) z9_4 hg (Kd.R_ne HO_245000.out BK229.out z9_14)); have n1_ := z9_A (blk_grown (g := gb244) (o := .cells #[.slice Ao112 x245000_3.length co112, .int .i64 t233, .int .i64 t242, .int .i64 t245] 30 (0, 0)) z9_6 hg (Kd.R_ne HO_245000.out BK244.out z9_14)); have n2_ := z9_A (IsS82.grown z9_2 hg (IsS82.own_ne HI0.out HO_245000.out z9_14)); have n3_ := z9_A (below_weaken z9_3 HL.out hb); have n4_ := z9_A (KeepBut.trans z9_1 (KeepBut.of_grown hg g) (Kd.R_base2 HO_245000.out)); have n5_ := z9_A (ho); clear BK229 BK244 HI0 HB HK HO_245000; revert n0_ n1_ n2_ n3_ n4_ n5_; intro BK229 BK244 HI0 HB HK HO290; clear ho hb hg hat; obtain ⟨Ao114, co114, eo114⟩ := Kd.R_slice HO290.out; subst eo114; have hcz115_0 : w113.cell? ⟨gb244, 0, none⟩ = some (.slice Ao112 x245000_3.length co112) := (blk_cell BK244.out 0).trans rfl; have hcz115_1 : w113.cell? ⟨gb244, 1, none⟩ = some (.int .i64 t233) := (blk_cell BK244.out 1).trans rfl; have hcz115_2 : w113.cell? ⟨gb244, 2, none⟩ = some (.int .i64 t242) := (blk_cell BK244.out 2).trans rfl; have hcz115_3 : w113.cell? ⟨gb244, 3, none⟩ = some (.int .i64 t245) := (blk_cell BK244.out 3).trans rfl; have hfz115_0 := blk_frozen BK244.out 0; have hfz115_1 := blk_frozen BK244.out 1; have hfz115_2 := blk_frozen BK244.out 2; have hfz115_3 := blk_frozen BK244.out 3))
               go_roundg k3
               case measure => have := HK1.out; have := HJ32.out; have := HK3.out; omega
               case rel => exact ⟨(y288), (.slice Ao114 y288.length co114), H', ⟨by have := HK1.out; have := HJ32.out; have := HK3.out; omega⟩, ⟨by (with_reducible repeat (first | apply Kd.R_alloc | apply Kd.R_drewN | apply Kd.R_drew)); exact Kd.R_mono (Kd.R_far (p := ⟨gb244, 0, none⟩) (Kd.R_types HO290.out BK244.out z9_14) (fun _ hk => hk.2) (.slice Ao114 y288.length co114)) (fun _ hk => trivial)⟩, ⟨z9_16⟩, ⟨by (with_reducible repeat (first | refine blk_drewN ?_ _ | refine blk_drew ?_ | refine blk_alloc ?_ _)); refine blk_put (cs := #[.slice Ao112 x245000_3.length co112, .int .i64 t233, .int .i64 t242, .int .i64 t245]) ?_ 0 _ rfl; (with_reducible repeat (first | refine blk_drewN ?_ _ | refine blk_drew ?_ | refine blk_alloc ?_ _)); exact BK244.out⟩, ⟨z9_2⟩, ⟨z9_1⟩, ⟨z9_3⟩⟩
              ·rw [if_neg c108] at H
               exact absurd H z9_18
             ·rw [if_neg c107] at H
              have c107b0 : decide ((x245000_3.length : Int) < 10) = false := decide_eq_false c107
              have c107b1 : decide (x245000_3.length < 10) = false := decide_eq_false (by omega)
              clear c107
              simp only [Option.some.injEq, Prod.mk.injEq] at H
              obtain ⟨rfl, rfl, rfl, rfl, rfl, rfl⟩ := H
              have hnb116 := NB244_229.out
              have hnc116 := NB229_244.out
              have hnb117 := NB244_0.out
              have hnc117 := NB0_244.out
              have hcz118_0 : wr.cell? ⟨gb244, 0, none⟩ = some (u245000) := (blk_cell BK244.out 0).trans rfl
              have hcz118_1 : wr.cell? ⟨gb244, 1, none⟩ = some (.int .i64 t233) := (blk_cell BK244.out 1).trans rfl
              have hcz118_2 : wr.cell? ⟨gb244, 2, none⟩ = some (.int .i64 t242) := (blk_cell BK244.out 2).trans rfl
              have hcz118_3 : wr.cell? ⟨gb244, 3, none⟩ = some (.int .i64 t245) := (blk_cell BK244.out 3).trans rfl
              have hfz118_0 := blk_frozen BK244.out 0
              have hfz118_1 := blk_frozen BK244.out 1
              have hfz118_2 := blk_frozen BK244.out 2
              have hfz118_3 := blk_frozen BK244.out 3
              obtain ⟨Ao119, co119, eo119⟩ := Kd.R_slice HO_245000.out
              subst eo119
              have hnb120 := NB229_0.out
              have hnc120 := NB0_229.out
              have hcz121_0 : wr.cell? ⟨gb229, 0, none⟩ = some (.slice none 0 0) := (blk_cell BK229.out 0).trans rfl
              have hcz121_1 : wr.cell? ⟨gb229, 1, none⟩ = some (.int .i64 0) := (blk_cell BK229.out 1).trans rfl
              have hcz121_2 : wr.cell? ⟨gb229, 2, none⟩ = some (.int .i64 0) := (blk_cell BK229.out 2).trans rfl
              have hcz121_3 : wr.cell? ⟨gb229, 3, none⟩ = some (.int .i64 0) := (blk_cell BK229.out 3).trans rfl
              have hfz121_0 := blk_frozen BK229.out 0
              have hfz121_1 := blk_frozen BK229.out 1
              have hfz121_2 := blk_frozen BK229.out 2
              have hfz121_3 := blk_frozen BK229.out 3
              go_wp2
              refine bodyPost_ret (results_cell_row rfl _ _ gb229 30 #[.slice Ao119 x245000_3.length co119, .int .i64 t233, .int .i64 t242, .int .i64 t245] (0, 0) _ rfl (by (with_reducible repeat (first | refine blk_drewN ?_ _ | refine blk_drew ?_ | refine blk_alloc ?_ _)); refine blk_put (cs := #[.slice Ao119 x245000_3.length co119, .int .i64 t233, .int .i64 t242, .int .i64 0]) ?_ 3 _ rfl; (with_reducible repeat (first | refine blk_drewN ?_ _ | refine blk_drew ?_ | refine blk_alloc ?_ _)); refine blk_put (cs := #[.slice Ao119 x245000_3.length co119, .int .i64 t233, .int .i64 0, .int .i64 0]) ?_ 2 _ rfl; (with_reducible repeat (first | refine blk_drewN ?_ _ | refine blk_drew ?_ | refine blk_alloc ?_ _)); refine blk_put (cs := #[.slice Ao119 x245000_3.length co119, .int .i64 0, .int .i64 0, .int .i64 0]) ?_ 1 _ rfl; (with_reducible repeat (first | refine blk_drewN ?_ _ | refine blk_drew ?_ | refine blk_alloc ?_ _)); refine blk_put (cs := #[.slice none 0 0, .int .i64 0, .int .i64 0, .int .i64 0]) ?_ 0 _ rfl; (with_reducible repeat (first | refine blk_drewN ?_ _ | refine blk_drew ?_ | refine blk_alloc ?_ _)); exact BK229.out) Try.underlying30 rfl z9_12) rfl ?_
              exact ⟨_, z9_13, by (with_reducible repeat (first | apply Kd.R_alloc | apply Kd.R_drewN | apply Kd.R_drew)); exact Kd.R_mono (Kd.R_far (p := ⟨gb229, 3, none⟩) (Kd.R_far (p := ⟨gb229, 2, none⟩) (Kd.R_far (p := ⟨gb229, 1, none⟩) (Kd.R_far (p := ⟨gb229, 0, none⟩) (Kd.R_types HO_245000.out BK229.out z9_14) (fun _ hk => hk.2) (.slice Ao119 x245000_3.length co119)) (fun _ hk => hk.2) (.int .i64 t233)) (fun _ hk => hk.2) (.int .i64 t242)) (fun _ hk => hk.2) (.int .i64 t245)) (fun _ hk => trivial), z9_2, z9_3, z9_1⟩
          ·rw [if_neg c105] at H
           have c105b0 : (t260 == 4) = false := beq_eq_false_iff_ne.mpr c105
           have c105b1 : (t260 != 4) = true := bne_iff_ne.mpr c105
           simp only [Option.some.injEq, Prod.mk.injEq] at H
           obtain ⟨rfl, rfl, rfl, rfl, rfl, rfl⟩ := H
           go_wp2_with (first | ((with_reducible refine gate_callee (f := 105) rfl ?_); refine goesL_ (some 53) rfl rfl Try.func105 z9_12 rfl #[.pointer (some ⟨g, 0, none⟩), .int .i64 40] rfl z9_7 ?_; (with_reducible refine (spec_l1Cur_pick.calls g s0_0 x1001_1 x1002_1 40 t260 t261 t262 w0 _ ?side1 ?side2 A46.out).mono ?_); (case side1 => repeat (first | (with_reducible first | exact HI0.out | apply IsS82.alloc | apply IsS82.drewN | apply IsS82.drew | apply IsS82.set_1 | apply IsS82.set_2 | refine IsS82.far ?_ NB0_229.out _ | refine IsS82.far ?_ NB0_244.out _) | exact HI0.out)); (case side2 => repeat (first | (with_reducible first | exact HB.out | apply below_alloc | apply pw_below_drewN | apply below_drew1 | refine below_set ?_ (IsS82.ge HI0.out) | refine below_set ?_ GE229.out | refine below_set ?_ GE244.out) | exact HB.out)); rintro e w122 ⟨rfl, hi, hb, hk⟩; refine ⟨_, rfl, ?_⟩; have n0_ := z9_A (Kd.R_mono (Kd.R_keep (IsS82.apart (show IsS82 w0 _ g s0_0 x1001_1 x1002_1 from by repeat (first | (with_reducible first | exact HI0.out | apply IsS82.alloc | apply IsS82.drewN | apply IsS82.drew | apply IsS82.set_1 | apply IsS82.set_2 | refine IsS82.far ?_ NB0_229.out _ | refine IsS82.far ?_ NB0_244.out _) | exact HI0.out)) z9_5 z9_14) hk (fun _ h => h.2)) (fun _ h => h.1)); have n1_ := z9_A (KeepBut.blk hk (g' := gb229) (o := .cells #[.slice none 0 0, .int .i64 0, .int .i64 0, .int .i64 0] 30 (0, 0)) z9_4 NB229_0.out z9_18); have n2_ := z9_A (KeepBut.blk hk (g' := gb244) (o := .cells #[u245000, .int .i64 t233, .int .i64 t242, .int .i64 t245] 30 (0, 0)) z9_6 NB244_0.out z9_18); have n3_ := z9_A (KeepBut.trans z9_1 hk (.inl rfl)); have n4_ := z9_A (hb); have n5_ := z9_A (hi); clear HO_245000 BK229 BK244 HK HB HI0; revert n0_ n1_ n2_ n3_ n4_ n5_; intro HO_245000 BK229 BK244 HK HB HI0; (try clear hb); (try clear hb2); (try clear hk); (try clear hi); have hnb123 := NB244_229.out; have hnc123 := NB229_244.out; have hnb124 := NB244_0.out; have hnc124 := NB0_244.out; have hcz125_0 : w122.cell? ⟨gb244, 0, none⟩ = some (u245000) := (blk_cell BK244.out 0).trans rfl; have hcz125_1 : w122.cell? ⟨gb244, 1, none⟩ = some (.int .i64 t233) := (blk_cell BK244.out 1).trans rfl; have hcz125_2 : w122.cell? ⟨gb244, 2, none⟩ = some (.int .i64 t242) := (blk_cell BK244.out 2).trans rfl; have hcz125_3 : w122.cell? ⟨gb244, 3, none⟩ = some (.int .i64 t245) := (blk_cell BK244.out 3).trans rfl; have hfz125_0 := blk_frozen BK244.out 0; have hfz125_1 := blk_frozen BK244.out 1; have hfz125_2 := blk_frozen BK244.out 2; have hfz125_3 := blk_frozen BK244.out 3; obtain ⟨Ao126, co126, eo126⟩ := Kd.R_slice HO_245000.out; subst eo126; have hnb127 := NB229_0.out; have hnc127 := NB0_229.out; have hcz128_0 : w122.cell? ⟨gb229, 0, none⟩ = some (.slice none 0 0) := (blk_cell BK229.out 0).trans rfl; have hcz128_1 : w122.cell? ⟨gb229, 1, none⟩ = some (.int .i64 0) := (blk_cell BK229.out 1).trans rfl; have hcz128_2 : w122.cell? ⟨gb229, 2, none⟩ = some (.int .i64 0) := (blk_cell BK229.out 2).trans rfl; have hcz128_3 : w122.cell? ⟨gb229, 3, none⟩ = some (.int .i64 0) := (blk_cell BK229.out 3).trans rfl; have hfz128_0 := blk_frozen BK229.out 0; have hfz128_1 := blk_frozen BK229.out 1; have hfz128_2 := blk_frozen BK229.out 2; have hfz128_3 := blk_frozen BK229.out 3))
           refine bodyPost_ret (results_cell_row rfl _ _ gb229 30 #[.slice Ao126 x245000_32.length co126, .int .i64 t233, .int .i64 t242, .int .i64 t245] (0, 0) _ rfl (by (with_reducible repeat (first | refine blk_drewN ?_ _ | refine blk_drew ?_ | refine blk_alloc ?_ _)); refine blk_put (cs := #[.slice Ao126 x245000_32.length co126, .int .i64 t233, .int .i64 t242, .int .i64 0]) ?_ 3 _ rfl; (with_reducible repeat (first | refine blk_drewN ?_ _ | refine blk_drew ?_ | refine blk_alloc ?_ _)); refine blk_put (cs := #[.slice Ao126 x245000_32.length co126, .int .i64 t233, .int .i64 0, .int .i64 0]) ?_ 2 _ rfl; (with_reducible repeat (first | refine blk_drewN ?_ _ | refine blk_drew ?_ | refine blk_alloc ?_ _)); refine blk_put (cs := #[.slice Ao126 x245000_32.length co126, .int .i64 0, .int .i64 0, .int .i64 0]) ?_ 1 _ rfl; (with_reducible repeat (first | refine blk_drewN ?_ _ | refine blk_drew ?_ | refine blk_alloc ?_ _)); refine blk_put (cs := #[.slice none 0 0, .int .i64 0, .int .i64 0, .int .i64 0]) ?_ 0 _ rfl; (with_reducible repeat (first | refine blk_drewN ?_ _ | refine blk_drew ?_ | refine blk_alloc ?_ _)); exact BK229.out) Try.underlying30 rfl z9_12) rfl ?_
           exact ⟨_, z9_13, by (with_reducible repeat (first | apply Kd.R_alloc | apply Kd.R_drewN | apply Kd.R_drew)); exact Kd.R_mono (Kd.R_far (p := ⟨gb229, 3, none⟩) (Kd.R_far (p := ⟨gb229, 2, none⟩) (Kd.R_far (p := ⟨gb229, 1, none⟩) (Kd.R_far (p := ⟨gb229, 0, none⟩) (Kd.R_types HO_245000.out BK229.out z9_14) (fun _ hk => hk.2) (.slice Ao126 x245000_32.length co126)) (fun _ hk => hk.2) (.int .i64 t233)) (fun _ hk => hk.2) (.int .i64 t242)) (fun _ hk => hk.2) (.int .i64 t245)) (fun _ hk => trivial), z9_2, z9_3, z9_1⟩

end Go.Proofs.Ytiniocecpgjikaa.PFnContracts
