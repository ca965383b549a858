-- A text of this session (its program hook.py, over the kit's print.py): not a print of print.sh
-- THIN: one blank for two
import Derived.Test.YtiniocecpgjikaaPFnProfitsx0
import Derived.Test.YtiniocecpgjikaaPFnProfitsx2
import Derived.Test.YtiniocecpgjikaaPFnProfitsx8
namespace Go.Proofs.Ytiniocecpgjikaa.PFnProfits
open Go.RowKit Go.Proofs.YtiniocecpgjikaaW.PrintWords Go.Proofs.YtiniocecpgjikaaW.PrintLast Go.Proofs.YtiniocecpgjikaaW.PrintMore
attribute [local go_sem] max2_int min2_int max_two min_two max_three min_three max_four min_four   -- for this text's walks alone
set_option linter.unusedVariables false
set_option linter.unusedSimpArgs false

-- SQUEEZED
abbrev z9_S (k : Nat) (A : Option Addr) (n c : Nat) : Prop := some k ≠ (.slice A n c : Value).ownBlock
private theorem bcz {w : World} {g : Nat} {t : TypeId} {cs : Array Value} (h : w.heap[g]? = some (.cells cs t (0, 0))) (i : Nat) {v : Value} (e : cs[i]? = some v) : w.cell? ⟨g, i, none⟩ = some v := (blk_cell h i).trans e
private theorem F4z {P : Nat → Prop} (h : ∀ i, P i) : P 0 ∧ P 1 ∧ P 2 ∧ P 3 := ⟨h 0, h 1, h 2, h 3⟩
theorem z9_A {p : Prop} (h : p) : Aside0 p := Aside0.mk h
theorem z9_C {p : Prop} (h : p := by repeat (first | exact zh | (with_reducible refine Kd.C_alloc ?_ _) | (with_reducible refine Kd.C_drewN ?_ _) | (with_reducible refine Kd.C_drew ?_))) : p := h
theorem z9_1 {p : Prop} (h : p := by repeat (first | (with_reducible first | exact HK.out | apply KeepBut.set_ | apply keep_drewN | apply keep_drew | apply keep_alloc | refine keep_far ?_ GW232.out _ | refine keep_far ?_ GW247.out _) | exact HK.out)) : p := h
theorem z9_2 {p : Prop} (h : p := by repeat (first | (with_reducible first | exact HI0.out | apply IsS82.alloc | apply IsS82.drewN | apply IsS82.drew | apply IsS82.set_1 | apply IsS82.set_2 | refine IsS82.far ?_ NB0_232.out _ | refine IsS82.far ?_ NB0_247.out _) | exact HI0.out)) : p := h
theorem z9_3 {p : Prop} (h : p := by repeat (first | (with_reducible first | exact HB.out | apply below_alloc | apply pw_below_drewN | apply below_drew1 | refine below_set ?_ (IsS82.ge HI0.out) | refine below_set ?_ GE232.out | refine below_set ?_ GE247.out) | exact HB.out)) : p := h
theorem z9_4 {p : Prop} (h : p := by (with_reducible repeat (first | refine blk_drewN ?_ _ | refine blk_drew ?_ | refine blk_alloc ?_ _)); exact BK232.out) : p := h
theorem z9_5 {p : Prop} (h : p := by (with_reducible repeat (first | apply Kd.R_alloc | apply Kd.R_drewN | apply Kd.R_drew)); exact HO_248000.out) : p := h
theorem z9_6 {p : Prop} (h : p := by (with_reducible repeat (first | refine blk_drewN ?_ _ | refine blk_drew ?_ | refine blk_alloc ?_ _)); exact BK247.out) : p := h
theorem z9_7 {p : Prop} (h : p := by (try simp only [List.map_toArray, List.map_cons, List.map_nil]); first | done | rfl | (simp only [List.length_drop, List.length_take]; rfl)) : p := h
theorem z9_8 {p : Prop} (h : p := by repeat (first | (with_reducible first | exact HK.out | apply KeepBut.set_ | apply keep_drewN | apply keep_drew | apply keep_alloc | refine keep_far ?_ GW232.out _) | exact HK.out)) : p := h
theorem z9_9 {p : Prop} (h : p := by repeat (first | (with_reducible first | exact HI0.out | apply IsS82.alloc | apply IsS82.drewN | apply IsS82.drew | apply IsS82.set_1 | apply IsS82.set_2 | refine IsS82.far ?_ NB0_232.out _) | exact HI0.out)) : p := h
theorem z9_10 {p : Prop} (h : p := by repeat (first | (with_reducible first | exact HB.out | apply below_alloc | apply pw_below_drewN | apply below_drew1 | refine below_set ?_ (IsS82.ge HI0.out) | refine below_set ?_ GE232.out) | exact HB.out)) : p := h
theorem z9_11 {p : Prop} (h : p := by (with_reducible repeat (first | apply Kd.R_alloc | apply Kd.R_drewN | apply Kd.R_drew)); exact HO235.out) : p := h
theorem z9_12 {p : Prop} (h : p := by kernel_rfl) : p := h
theorem z9_13 {p : Prop} (h : p := by first | rfl | (simp [errW_none, errW_some] <;> rfl) | (simp [*, errW_none, errW_some] <;> rfl)) : p := h
theorem z9_14 {p : Prop} (h : p := by decide) : p := h
theorem z9_15 {p : Prop} (h : p := by repeat (first | (with_reducible first | exact HK.out | apply KeepBut.set_ | apply keep_drewN | apply keep_drew | apply keep_alloc) | exact HK.out)) : p := h
theorem z9_16 {p : Prop} (h : p := by (with_reducible repeat (first | refine blk_drewN ?_ _ | refine blk_drew ?_ | refine blk_alloc ?_ _)); refine blk_far ?_ NB232_247.out _; (with_reducible repeat (first | refine blk_drewN ?_ _ | refine blk_drew ?_ | refine blk_alloc ?_ _)); exact BK232.out) : p := h
theorem z9_17 {p : Prop} (h : p := by (with_reducible repeat (first | apply Kd.R_alloc | apply Kd.R_drewN | apply Kd.R_drew)); exact HO254.out) : p := h
theorem z9_18 {p : Prop} (h : p := by simp) : p := h

/-! ### spec_l1Cur_market: function 81 -/
mutual
def spec_l1Cur_market.l0 : Nat → Int → List Int → Int → Int → List Int → Int → Int → Int → Option (List Int × Int × Int × Int × Int × Int)
 | 0, _, _, _, _, _, _, _, _ => none
 | k + 1, x6, x1000, x1001, x1002, x248000, x248001, x248002, x248003 => if x6 > 0 then ((spec_l1Cur_among.f x1000 x1001 x1002 (([1, 2, 1, 0, 3, 4] : List Int))).bind fun bt255 => (if x248000.length < 17592186044416 then (spec_l1Cur_market.l0 k (wrap64 (x6 - 1)) x1000 bt255.2.1 bt255.2.2 (x248000 ++ [bt255.1]) x248001 x248002 x248003) else (none))) else ((spec_l2Sum.f k x248000).bind fun t261 => (if t261 = 0 then (if 0 < (x248000.length : Int) then (spec_l1Cur_market.j1 k x1000 x1001 x1002 (x248000.set (0 : Int).toNat 1) x248001 x248002 x248003) else (none)) else (spec_l1Cur_market.j1 k x1000 x1001 x1002 x248000 x248001 x248002 x248003)))
def spec_l1Cur_market.j1 : Nat → List Int → Int → Int → List Int → Int → Int → Int → Option (List Int × Int × Int × Int × Int × Int)
 | 0, _, _, _, _, _, _, _ => none
 | k + 1, x1000, x1001, x1002, x248000, x248001, x248002, x248003 => (spec_l1Cur_pick.f x1000 x1001 x1002 40).bind fun bt263 => (if bt263.1 = 0 then ((spec_l1Cur_among.f x1000 bt263.2.1 bt263.2.2 (([0, 99, 100] : List Int))).bind fun bt269 => (some (x248000, bt269.1, x248002, x248003, bt269.2.1, bt269.2.2))) else (if bt263.1 = 1 then ((spec_l1Cur_among.f x1000 bt263.2.1 bt263.2.2 (([(-1), x248001, wrap64 (x248001 + 1)] : List Int))).bind fun bt275 => (some (x248000, x248001, bt275.1, x248003, bt275.2.1, bt275.2.2))) else (if bt263.1 = 2 then ((spec_l1Cur_among.f x1000 bt263.2.1 bt263.2.2 (([(-1), x248002, wrap64 (x248002 + 1)] : List Int))).bind fun bt281 => (some (x248000, x248001, x248002, bt281.1, bt281.2.1, bt281.2.2))) else (if bt263.1 = 3 then ((spec_l1Cur_among.f x1000 bt263.2.1 bt263.2.2 (([(-1), 5] : List Int))).bind fun bt287 => (if 0 < (x248000.length : Int) then (some ((x248000.set (0 : Int).toNat bt287.1), x248001, x248002, x248003, bt287.2.1, bt287.2.2)) else (none))) else (if bt263.1 = 4 then (spec_l1Cur_market.l1 k x1000 bt263.2.1 bt263.2.2 x248000 x248001 x248002 x248003) else (some (x248000, x248001, x248002, x248003, bt263.2.1, bt263.2.2)))))))
def spec_l1Cur_market.l1 : Nat → List Int → Int → Int → List Int → Int → Int → Int → Option (List Int × Int × Int × Int × Int × Int)
 | 0, _, _, _, _, _, _, _ => none
 | k + 1, x1000, x1001, x1002, x248000, x248001, x248002, x248003 => if (x248000.length : Int) < 10 then (if x248000.length < 17592186044416 then (spec_l1Cur_market.l1 k x1000 x1001 x1002 (x248000 ++ [1]) x248001 x248002 x248003) else (none)) else (some (x248000, x248001, x248002, x248003, x1001, x1002))
end
def spec_l1Cur_market.f (k : Nat) (s0_0 : List Int) (s0_1 : Int) (s0_2 : Int) : Option (List Int × Int × Int × Int × Int × Int) := (spec_l1Cur_among.f s0_0 s0_1 s0_2 (([10, 12, 20, 6, 30, 99, 1] : List Int))).bind fun bt236 => ((spec_l1Cur_pick.f s0_0 bt236.2.1 bt236.2.2 3).bind fun bt239 => ((spec_l1Cur_pick.f s0_0 bt239.2.1 bt239.2.2 bt236.1).bind fun bt242 => ((spec_l1Least.f (wrap64 (bt239.1 + bt242.1)) bt236.1).bind fun t245 => ((spec_l1Least.f bt239.1 bt236.1).bind fun t246 => ((spec_l1Least.f t246 t245).bind fun t248 => ((spec_l1Cur_pick.f s0_0 bt242.2.1 bt242.2.2 9).bind fun bt249 => (spec_l1Cur_market.l0 k (wrap64 (1 + bt249.1)) s0_0 bt249.2.1 bt249.2.2 ([] : List Int) bt236.1 t245 t248)))))))
theorem spec_l1Cur_market.mono_l : ∀ k, (∀ y0 y1 y2 y3 y4 y5 y6 y7, LeO (spec_l1Cur_market.l0 k y0 y1 y2 y3 y4 y5 y6 y7) (spec_l1Cur_market.l0 (k + 1) y0 y1 y2 y3 y4 y5 y6 y7)) ∧ (∀ y0 y1 y2 y3 y4 y5 y6, LeO (spec_l1Cur_market.j1 k y0 y1 y2 y3 y4 y5 y6) (spec_l1Cur_market.j1 (k + 1) y0 y1 y2 y3 y4 y5 y6)) ∧ (∀ y0 y1 y2 y3 y4 y5 y6, LeO (spec_l1Cur_market.l1 k y0 y1 y2 y3 y4 y5 y6) (spec_l1Cur_market.l1 (k + 1) y0 y1 y2 y3 y4 y5 y6))
 | 0 => ⟨fun _ _ _ _ _ _ _ _ r h => by simp [spec_l1Cur_market.l0] at h, fun _ _ _ _ _ _ _ r h => by simp [spec_l1Cur_market.j1] at h, fun _ _ _ _ _ _ _ r h => by simp [spec_l1Cur_market.l1] at h⟩
 | k + 1 => by
  obtain ⟨ih0, ih1, ih2⟩ := spec_l1Cur_market.mono_l k
  refine ⟨?_, ?_, ?_⟩ <;> intros <;> (first | unfold spec_l1Cur_market.l0 | unfold spec_l1Cur_market.j1 | unfold spec_l1Cur_market.l1) <;> repeat' first
    | (with_reducible exact ih0 _ _ _ _ _ _ _ _)
    | (with_reducible exact ih1 _ _ _ _ _ _ _)
    | (with_reducible exact ih2 _ _ _ _ _ _ _)
    | (with_reducible exact spec_l2Sum.mono _ _)
    | (with_reducible exact LeO.refl _)
    | (with_reducible exact LeO.none _)
    | (with_reducible refine LeO.ite ?_ ?_)
    | (with_reducible refine LeO.bind ?_ (fun _ => ?_))
    | exact ih0 _ _ _ _ _ _ _ _
    | exact ih1 _ _ _ _ _ _ _
    | exact ih2 _ _ _ _ _ _ _
    | exact spec_l2Sum.mono _ _
    | exact LeO.none _
    | refine LeO.ite ?_ ?_
    | refine LeO.bind ?_ (fun _ => ?_)
theorem spec_l1Cur_market.mono : ∀ a0 a1 a2 k, LeO (spec_l1Cur_market.f k a0 a1 a2) (spec_l1Cur_market.f (k + 1) a0 a1 a2) := by
 intro a0 a1 a2 k
 obtain ⟨ih0, ih1, ih2⟩ := spec_l1Cur_market.mono_l k
 unfold spec_l1Cur_market.f
 repeat' first
   | (with_reducible exact ih0 _ _ _ _ _ _ _ _)
   | (with_reducible exact ih1 _ _ _ _ _ _ _)
   | (with_reducible exact ih2 _ _ _ _ _ _ _)
   | (with_reducible exact spec_l2Sum.mono _ _)
   | (with_reducible exact LeO.refl _)
   | (with_reducible exact LeO.none _)
   | (with_reducible refine LeO.ite ?_ ?_)
   | (with_reducible refine LeO.bind ?_ (fun _ => ?_))
   | exact ih0 _ _ _ _ _ _ _ _
   | exact ih1 _ _ _ _ _ _ _
   | exact ih2 _ _ _ _ _ _ _
   | exact spec_l2Sum.mono _ _
   | exact LeO.none _
   | refine LeO.ite ?_ ?_
   | refine LeO.bind ?_ (fun _ => ?_)
def spec_l1Cur_market.T8 : Bool × List (List Nat × List Nat) := (true, [([], []), ([0], [0]), ([], []), ([], []), ([2, 3], [2, 3]), ([4], [4]), ([1, 5, 4], [1, 5]), ([0, 1, 2, 3, 4, 5, 6], []), ([7, 6, 6, 0, 1, 2, 3, 4, 5, 6], [6, 7])])
def spec_l1Cur_market.B8 : List Nat := [0, 1, 0, 0, 12, 28, 63, 127, 255]
theorem spec_l1Cur_market.tab8 : rtab .any (opsOf Try.f81 8) = spec_l1Cur_market.T8 := z9_12
theorem spec_l1Cur_market.bits8 : waitsOk spec_l1Cur_market.T8.2 spec_l1Cur_market.B8 = true := z9_12
set_option maxHeartbeats 8000000 in
set_option maxRecDepth 100000 in
theorem spec_l1Cur_market.calls (k : Nat) (g : Nat) (s0_0 : List Int) (s0_1 : Int) (s0_2 : Int) (r1 : List Int) (r2 : Int) (r3 : Int) (r4 : Int) (r5 : Int) (r6 : Int) (w0 w : World) (hI : IsS82 w0 w g s0_0 s0_1 s0_2) (hB : Below w0.heap.size w0 w) (h : spec_l1Cur_market.f k s0_0 s0_1 s0_2 = some (r1, r2, r3, r4, r5, r6)) :
  Calls Try.prog 81 #[.pointer (some ⟨g, 0, none⟩)] w fun e w' => ∃ v0_ : Value, e = .returned (.agg #[v0_, .int .i64 r2, .int .i64 r3, .int .i64 r4]) ∧ Kd.R (Kd.int .i64) 3 w' w.heap.size (fun _ => True) v0_ r1 ∧ IsS82 w0 w' g s0_0 r5 r6 ∧ Below w0.heap.size w0 w' ∧ KeepBut w w' g none := by
 have hu30 := Try.underlying30
 have HI0 := z9_A hI
 have HK := z9_A (KeepBut.refl w g none)
 have HL := z9_A hB.size
 clear hI
 have HW0 := z9_A hB.size
 have HB := z9_A hB
 clear hB
 have H : ((spec_l1Cur_among.f s0_0 s0_1 s0_2 (([10, 12, 20, 6, 30, 99, 1] : List Int))).bind fun bt236 => ((spec_l1Cur_pick.f s0_0 bt236.2.1 bt236.2.2 3).bind fun bt239 => ((spec_l1Cur_pick.f s0_0 bt239.2.1 bt239.2.2 bt236.1).bind fun bt242 => ((spec_l1Least.f (wrap64 (bt239.1 + bt242.1)) bt236.1).bind fun t245 => ((spec_l1Least.f bt239.1 bt236.1).bind fun t246 => ((spec_l1Least.f t246 t245).bind fun t248 => ((spec_l1Cur_pick.f s0_0 bt242.2.1 bt242.2.2 9).bind fun bt249 => (spec_l1Cur_market.l0 k (wrap64 (1 + bt249.1)) s0_0 bt249.2.1 bt249.2.2 ([] : List Int) bt236.1 t245 t248)))))))) = some (r1, r2, r3, r4, r5, r6) := h
 clear h
 obtain ⟨y233, hy233⟩ : ∃ y_ : List Int, y_ = (([10, 12, 20, 6, 30, 99, 1] : List Int)) := ⟨_, rfl⟩
 replace H : ((spec_l1Cur_among.f s0_0 s0_1 s0_2 y233).bind fun bt236 => ((spec_l1Cur_pick.f s0_0 bt236.2.1 bt236.2.2 3).bind fun bt239 => ((spec_l1Cur_pick.f s0_0 bt239.2.1 bt239.2.2 bt236.1).bind fun bt242 => ((spec_l1Least.f (wrap64 (bt239.1 + bt242.1)) bt236.1).bind fun t245 => ((spec_l1Least.f bt239.1 bt236.1).bind fun t246 => ((spec_l1Least.f t246 t245).bind fun t248 => ((spec_l1Cur_pick.f s0_0 bt242.2.1 bt242.2.2 9).bind fun bt249 => (spec_l1Cur_market.l0 k (wrap64 (1 + bt249.1)) s0_0 bt249.2.1 bt249.2.2 ([] : List Int) bt236.1 t245 t248)))))))) = some (r1, r2, r3, r4, r5, r6) := by first | (rw [hy233]; with_reducible exact H) | (have H2_ := (Option.bind_some _ _).symm.trans H; rw [hy233]; with_reducible exact H2_) | (have H2_ := (Option.bind_some _ _).symm.trans H; with_reducible exact H2_) | with_reducible exact H | (rw [hy233]; exact H) | exact H
 have Ny233 := z9_A hy233
 clear hy233
 replace H := Option.bind_eq_some_iff.mp H
 obtain ⟨⟨t236, t237, t238⟩, A20, H⟩ := H
 (try dsimp only at H)
 have A2 := z9_A A20
 clear A20
 replace H := Option.bind_eq_some_iff.mp H
 obtain ⟨⟨t239, t240, t241⟩, A30, H⟩ := H
 (try dsimp only at H)
 have A3 := z9_A A30
 clear A30
 replace H := Option.bind_eq_some_iff.mp H
 obtain ⟨⟨t242, t243, t244⟩, A40, H⟩ := H
 (try dsimp only at H)
 have A4 := z9_A A40
 clear A40
 replace H := Option.bind_eq_some_iff.mp H
 obtain ⟨t245, A50, H⟩ := H
 (try dsimp only at H)
 have A5 := z9_A A50
 clear A50
 replace H := Option.bind_eq_some_iff.mp H
 obtain ⟨t246, A60, H⟩ := H
 (try dsimp only at H)
 have A6 := z9_A A60
 clear A60
 replace H := Option.bind_eq_some_iff.mp H
 obtain ⟨t248, A70, H⟩ := H
 (try dsimp only at H)
 have A7 := z9_A A70
 clear A70
 replace H := Option.bind_eq_some_iff.mp H
 obtain ⟨⟨t249, t250, t251⟩, A80, H⟩ := H
 (try dsimp only at H)
 have A8 := z9_A A80
 clear A80
 have H' := z9_A H
 clear H
 go_enter Try.func81, Try.ntmps81
 go_wp2_with (first | ((with_reducible refine gate_dst (N := 2) rfl ?_); refine box_event ?hg (N := 2) ?hd (cs := #[.slice none 0 0, .int .i64 0, .int .i64 0, .int .i64 0]) (t := 30) ?hr ?_; (case hd => rfl); (case hg => rfl); (case hr => first | (go_simp; done) | (go_simp; rfl)); intro gb232 hg w9 hbox hb; have n0_ := z9_A (IsS82.below (by repeat (first | (with_reducible first | exact HI0.out | apply IsS82.alloc | apply IsS82.drewN | apply IsS82.drew | apply IsS82.set_1 | apply IsS82.set_2) | exact HI0.out)) hb); have n1_ := z9_A (KeepBut.trans z9_15 (KeepBut.of_below hb g none) (.inl rfl)); have n2_ := z9_A (below_step (by repeat (first | (with_reducible first | exact HB.out | apply below_alloc | apply pw_below_drewN | apply below_drew1 | refine below_set ?_ (IsS82.ge HI0.out)) | exact HB.out)) hb); have n3_ := z9_A (hbox); have n4_ := z9_A ((by rw [hg]; exact (keep_size (w := w) (g := g) (row := none) z9_15) : w.heap.size ≤ gb232)); have n5_ := z9_A ((Nat.le_trans HW0.out (by rw [hg]; exact (keep_size (w := w) (g := g) (row := none) z9_15) : w.heap.size ≤ gb232) : w0.heap.size ≤ gb232)); have n6_ := z9_A ((by rw [hg]; exact Nat.ne_of_lt (IsS82.lt (show IsS82 w0 _ g s0_0 s0_1 s0_2 from by repeat (first | (with_reducible first | exact HI0.out | apply IsS82.alloc | apply IsS82.drewN | apply IsS82.drew | apply IsS82.set_1 | apply IsS82.set_2) | exact HI0.out))) : g ≠ gb232)); have n7_ := z9_A ((by rw [hg]; exact Nat.ne_of_gt (IsS82.lt (show IsS82 w0 _ g s0_0 s0_1 s0_2 from by repeat (first | (with_reducible first | exact HI0.out | apply IsS82.alloc | apply IsS82.drewN | apply IsS82.drew | apply IsS82.set_1 | apply IsS82.set_2) | exact HI0.out))) : gb232 ≠ g)); clear HI0 HK HB; revert n0_ n1_ n2_ n3_ n4_ n5_ n6_ n7_; intro HI0 HK HB BK232 GW232 GE232 NB0_232 NB232_0; clear hb hbox hg) | ((with_reducible refine gate_dst (N := 8) rfl ?_); refine Kd.R_lit (Kd.int .i64) _ 3 ?hg (N := 8) ?hd (xs := ([10, 12, 20, 6, 30, 99, 1] : List Int)) (inner := [.int .i64 10, .int .i64 12, .int .i64 20, .int .i64 6, .int .i64 30, .int .i64 99, .int .i64 1]) (ok := fun _ => True) (okp := fun _ => True) ?hr ?hp (fun _ hk => hk) trivial (Below.refl _ _) (Nat.le_refl _) z9_18 ?_; (case hd => rfl); (case hg => rfl); (case hr => first | (go_simp; done) | (go_simp; rfl)); (case hp => exact (Reps.one (show Kd.M (Kd.int .i64) _ _ _ 10 [.int .i64 10] from rfl) (Reps.one (show Kd.M (Kd.int .i64) _ _ _ 12 [.int .i64 12] from rfl) (Reps.one (show Kd.M (Kd.int .i64) _ _ _ 20 [.int .i64 20] from rfl) (Reps.one (show Kd.M (Kd.int .i64) _ _ _ 6 [.int .i64 6] from rfl) (Reps.one (show Kd.M (Kd.int .i64) _ _ _ 30 [.int .i64 30] from rfl) (Reps.one (show Kd.M (Kd.int .i64) _ _ _ 99 [.int .i64 99] from rfl) (Reps.one (show Kd.M (Kd.int .i64) _ _ _ 1 [.int .i64 1] from rfl) (Reps.none _ _))))))))); intro v234 w10 ho11 hb hg_ hnew_; clear hg_ hnew_; (first | rw [← Ny233.out] at ho11 | (simp only [Int.reduceToNat] at ho11; rw [← Ny233.out] at ho11)); have n0_ := z9_A (Kd.R_lower ho11 (keep_size (w := w) (g := g) (row := none) z9_8)); have n1_ := z9_A (IsS82.below z9_9 hb); have n2_ := z9_A (blk_below (g := gb232) (o := .cells #[.slice none 0 0, .int .i64 0, .int .i64 0, .int .i64 0] 30 (0, 0)) z9_4 hb); have n3_ := z9_A (KeepBut.trans z9_8 (KeepBut.of_below hb g none) (.inl rfl)); have n4_ := z9_A (below_step z9_10 hb); clear HI0 BK232 HK HB; revert n0_ n1_ n2_ n3_ n4_; intro HO235 HI0 BK232 HK HB; clear hb ho11; obtain ⟨Ao12, co12, eo12⟩ := Kd.R_slice HO235.out; subst eo12) | ((with_reducible refine gate_callee (f := 82) rfl ?_); refine goesL_ (some 9) rfl rfl Try.func82 z9_12 rfl #[.pointer (some ⟨g, 0, none⟩), .slice Ao12 y233.length co12] rfl z9_7 ?_; (with_reducible refine (spec_l1Cur_among.calls g s0_0 s0_1 s0_2 _ _ y233 t236 t237 t238 w0 _ ?side1 ?side2 ?side3 ?side4 ?side5 A2.out).mono ?_); (case side1 => repeat (first | (with_reducible first | exact HI0.out | apply IsS82.alloc | apply IsS82.drewN | apply IsS82.drew | apply IsS82.set_1 | apply IsS82.set_2 | refine IsS82.far ?_ NB0_232.out _) | exact HI0.out)); (case side2 => repeat (first | (with_reducible first | exact HB.out | apply below_alloc | apply pw_below_drewN | apply below_drew1 | refine below_set ?_ (IsS82.ge HI0.out) | refine below_set ?_ GE232.out) | exact HB.out)); (case side3 => have zh := (Kd.R_reads' HO235.out).2.2; exact z9_C); (case side4 => exact (Kd.R_reads' HO235.out).2.1); (case side5 => exact far_slice (IsS82.own_ne HI0.out HO235.out z9_14)); rintro e w13 ⟨rfl, hi, hb, hk⟩; refine ⟨_, rfl, ?_⟩; have n0_ := z9_A (KeepBut.blk hk (g' := gb232) (o := .cells #[.slice none 0 0, .int .i64 0, .int .i64 0, .int .i64 0] 30 (0, 0)) z9_4 NB232_0.out z9_18); have n1_ := z9_A (Kd.R_mono (Kd.R_keep (IsS82.apart (show IsS82 w0 _ g s0_0 s0_1 s0_2 from by repeat (first | (with_reducible first | exact HI0.out | apply IsS82.alloc | apply IsS82.drewN | apply IsS82.drew | apply IsS82.set_1 | apply IsS82.set_2 | refine IsS82.far ?_ NB0_232.out _) | exact HI0.out)) z9_11 z9_14) hk (fun _ h => h.2)) (fun _ h => h.1)); have n2_ := z9_A (KeepBut.trans z9_8 hk (.inl rfl)); have n3_ := z9_A (hb); have n4_ := z9_A (hi); clear BK232 HO235 HK HB HI0; revert n0_ n1_ n2_ n3_ n4_; intro BK232 HO235 HK HB HI0; (try clear hb); (try clear hb2); (try clear hk); (try clear hi)) | ((with_reducible refine gate_callee (f := 105) rfl ?_); refine goesL_ (some 11) rfl rfl Try.func105 z9_12 rfl #[.pointer (some ⟨g, 0, none⟩), .int .i64 3] rfl z9_7 ?_; (with_reducible refine (spec_l1Cur_pick.calls g s0_0 t237 t238 3 t239 t240 t241 w0 _ ?side1 ?side2 A3.out).mono ?_); (case side1 => repeat (first | (with_reducible first | exact HI0.out | apply IsS82.alloc | apply IsS82.drewN | apply IsS82.drew | apply IsS82.set_1 | apply IsS82.set_2 | refine IsS82.far ?_ NB0_232.out _) | exact HI0.out)); (case side2 => repeat (first | (with_reducible first | exact HB.out | apply below_alloc | apply pw_below_drewN | apply below_drew1 | refine below_set ?_ (IsS82.ge HI0.out) | refine below_set ?_ GE232.out) | exact HB.out)); rintro e w14 ⟨rfl, hi, hb, hk⟩; refine ⟨_, rfl, ?_⟩; have n0_ := z9_A (KeepBut.blk hk (g' := gb232) (o := .cells #[.slice none 0 0, .int .i64 0, .int .i64 0, .int .i64 0] 30 (0, 0)) z9_4 NB232_0.out z9_18); have n1_ := z9_A (Kd.R_mono (Kd.R_keep (IsS82.apart (show IsS82 w0 _ g s0_0 t237 t238 from by repeat (first | (with_reducible first | exact HI0.out | apply IsS82.alloc | apply IsS82.drewN | apply IsS82.drew | apply IsS82.set_1 | apply IsS82.set_2 | refine IsS82.far ?_ NB0_232.out _) | exact HI0.out)) z9_11 z9_14) hk (fun _ h => h.2)) (fun _ h => h.1)); have n2_ := z9_A (KeepBut.trans z9_8 hk (.inl rfl)); have n3_ := z9_A (hb); have n4_ := z9_A (hi); clear BK232 HO235 HK HB HI0; revert n0_ n1_ n2_ n3_ n4_; intro BK232 HO235 HK HB HI0; (try clear hb); (try clear hb2); (try clear hk); (try clear hi)) | ((with_reducible refine gate_callee (f := 105) rfl ?_); refine goesL_ (some 16) rfl rfl Try.func105 z9_12 rfl #[.pointer (some ⟨g, 0, none⟩), .int .i64 t236] rfl z9_7 ?_; (with_reducible refine (spec_l1Cur_pick.calls g s0_0 t240 t241 t236 t242 t243 t244 w0 _ ?side1 ?side2 A4.out).mono ?_); (case side1 => repeat (first | (with_reducible first | exact HI0.out | apply IsS82.alloc | apply IsS82.drewN | apply IsS82.drew | apply IsS82.set_1 | apply IsS82.set_2 | refine IsS82.far ?_ NB0_232.out _) | exact HI0.out)); (case side2 => repeat (first | (with_reducible first | exact HB.out | apply below_alloc | apply pw_below_drewN | apply below_drew1 | refine below_set ?_ (IsS82.ge HI0.out) | refine below_set ?_ GE232.out) | exact HB.out)); rintro e w15 ⟨rfl, hi, hb, hk⟩; refine ⟨_, rfl, ?_⟩; have n0_ := z9_A (KeepBut.blk hk (g' := gb232) (o := .cells #[.slice none 0 0, .int .i64 0, .int .i64 0, .int .i64 0] 30 (0, 0)) z9_4 NB232_0.out z9_18); have n1_ := z9_A (Kd.R_mono (Kd.R_keep (IsS82.apart (show IsS82 w0 _ g s0_0 t240 t241 from by repeat (first | (with_reducible first | exact HI0.out | apply IsS82.alloc | apply IsS82.drewN | apply IsS82.drew | apply IsS82.set_1 | apply IsS82.set_2 | refine IsS82.far ?_ NB0_232.out _) | exact HI0.out)) z9_11 z9_14) hk (fun _ h => h.2)) (fun _ h => h.1)); have n2_ := z9_A (KeepBut.trans z9_8 hk (.inl rfl)); have n3_ := z9_A (hb); have n4_ := z9_A (hi); clear BK232 HO235 HK HB HI0; revert n0_ n1_ n2_ n3_ n4_; intro BK232 HO235 HK HB HI0; (try clear hb); (try clear hb2); (try clear hk); (try clear hi)) | ((with_reducible refine gate_callee (f := 106) rfl ?_); refine goesL_ (some 19) rfl rfl Try.func106 z9_12 rfl #[.int .i64 (wrap64 (t239 + t242)), .int .i64 t236] rfl z9_7 ?_; (with_reducible refine (spec_l1Least.calls (wrap64 (t239 + t242)) t236 t245 _ A5.out).mono ?_); rintro e w' ⟨rfl, ⟨nd, rfl⟩⟩; refine ⟨_, rfl, ?_⟩; (try (rw [drewN_self w15]; generalize hq_ : World.drewN w15 _ = w15; have n0_ : Aside0 (Kd.R (Kd.int .i64) 3 w15 w.heap.size (fun _ => True) (.slice Ao12 y233.length co12) y233) := ⟨by rw [← hq_]; exact z9_11⟩; have n1_ : Aside0 (w15.heap[gb232]? = some (.cells #[.slice none 0 0, .int .i64 0, .int .i64 0, .int .i64 0] 30 (0, 0))) := ⟨by rw [← hq_]; exact z9_4⟩; have n2_ : Aside0 (IsS82 w0 w15 g s0_0 t243 t244) := ⟨by rw [← hq_]; exact z9_9⟩; have n3_ : Aside0 (KeepBut w w15 g none) := ⟨by rw [← hq_]; exact z9_8⟩; have n4_ : Aside0 (Below w0.heap.size w0 w15) := ⟨by rw [← hq_]; exact z9_10⟩; clear HO235 BK232 HI0 HK HB hq_; revert n0_ n1_ n2_ n3_ n4_; intro HO235 BK232 HI0 HK HB))) | ((with_reducible refine gate_callee (f := 106) rfl ?_); refine goesL_ (some 22) rfl rfl Try.func106 z9_12 rfl #[.int .i64 t239, .int .i64 t236] rfl z9_7 ?_; (with_reducible refine (spec_l1Least.calls t239 t236 t246 _ A6.out).mono ?_); rintro e w' ⟨rfl, ⟨nd, rfl⟩⟩; refine ⟨_, rfl, ?_⟩; (try (rw [drewN_self w15]; generalize hq_ : World.drewN w15 _ = w15; have n0_ : Aside0 (Kd.R (Kd.int .i64) 3 w15 w.heap.size (fun _ => True) (.slice Ao12 y233.length co12) y233) := ⟨by rw [← hq_]; exact z9_11⟩; have n1_ : Aside0 (w15.heap[gb232]? = some (.cells #[.slice none 0 0, .int .i64 0, .int .i64 0, .int .i64 0] 30 (0, 0))) := ⟨by rw [← hq_]; exact z9_4⟩; have n2_ : Aside0 (IsS82 w0 w15 g s0_0 t243 t244) := ⟨by rw [← hq_]; exact z9_9⟩; have n3_ : Aside0 (KeepBut w w15 g none) := ⟨by rw [← hq_]; exact z9_8⟩; have n4_ : Aside0 (Below w0.heap.size w0 w15) := ⟨by rw [← hq_]; exact z9_10⟩; clear HO235 BK232 HI0 HK HB hq_; revert n0_ n1_ n2_ n3_ n4_; intro HO235 BK232 HI0 HK HB))) | ((with_reducible refine gate_dst (N := 5) rfl ?_); refine box_event ?hg (N := 5) ?hd (cs := #[.slice none 0 0, .int .i64 0, .int .i64 0, .int .i64 0]) (t := 30) ?hr ?_; (case hd => rfl); (case hg => rfl); (case hr => first | (go_simp; done) | (go_simp; rfl)); intro gb247 hg w16 hbox hb; have n0_ := z9_A (Kd.R_below z9_11 hb); have n1_ := z9_A (IsS82.below z9_9 hb); have n2_ := z9_A (blk_below (g := gb232) (o := .cells #[.slice none 0 0, .int .i64 0, .int .i64 0, .int .i64 0] 30 (0, 0)) z9_4 hb); have n3_ := z9_A (KeepBut.trans z9_8 (KeepBut.of_below hb g none) (.inl rfl)); have n4_ := z9_A (below_step z9_10 hb); have n5_ := z9_A (hbox); have n6_ := z9_A ((by rw [hg]; exact (keep_size (w := w) (g := g) (row := none) z9_8) : w.heap.size ≤ gb247)); have n7_ := z9_A ((Nat.le_trans HW0.out (by rw [hg]; exact (keep_size (w := w) (g := g) (row := none) z9_8) : w.heap.size ≤ gb247) : w0.heap.size ≤ gb247)); have n8_ := z9_A ((by rw [hg]; exact Nat.ne_of_lt (blk_lt (g := gb232) (o := .cells #[.slice none 0 0, .int .i64 0, .int .i64 0, .int .i64 0] 30 (0, 0)) z9_4) : gb232 ≠ gb247)); have n9_ := z9_A ((by rw [hg]; exact Nat.ne_of_gt (blk_lt (g := gb232) (o := .cells #[.slice none 0 0, .int .i64 0, .int .i64 0, .int .i64 0] 30 (0, 0)) z9_4) : gb247 ≠ gb232)); have n10_ := z9_A ((by rw [hg]; exact Nat.ne_of_lt (IsS82.lt (show IsS82 w0 _ g s0_0 t243 t244 from by repeat (first | (with_reducible first | exact HI0.out | apply IsS82.alloc | apply IsS82.drewN | apply IsS82.drew | apply IsS82.set_1 | apply IsS82.set_2 | refine IsS82.far ?_ NB0_232.out _) | exact HI0.out))) : g ≠ gb247)); have n11_ := z9_A ((by rw [hg]; exact Nat.ne_of_gt (IsS82.lt (show IsS82 w0 _ g s0_0 t243 t244 from by repeat (first | (with_reducible first | exact HI0.out | apply IsS82.alloc | apply IsS82.drewN | apply IsS82.drew | apply IsS82.set_1 | apply IsS82.set_2 | refine IsS82.far ?_ NB0_232.out _) | exact HI0.out))) : gb247 ≠ g)); clear HO235 HI0 BK232 HK HB; revert n0_ n1_ n2_ n3_ n4_ n5_ n6_ n7_ n8_ n9_ n10_ n11_; intro HO235 HI0 BK232 HK HB BK247 GW247 GE247 NB232_247 NB247_232 NB0_247 NB247_0; clear hb hbox hg; have hnb17 := NB247_232.out; have hnc17 := NB232_247.out; have hnb18 := NB247_0.out; have hnc18 := NB0_247.out; have hcz19_0 : w16.cell? ⟨gb247, 0, none⟩ = some (.slice none 0 0) := bcz BK247.out 0 rfl; have hcz19_1 : w16.cell? ⟨gb247, 1, none⟩ = some (.int .i64 0) := bcz BK247.out 1 rfl; have hcz19_2 : w16.cell? ⟨gb247, 2, none⟩ = some (.int .i64 0) := bcz BK247.out 2 rfl; have hcz19_3 : w16.cell? ⟨gb247, 3, none⟩ = some (.int .i64 0) := bcz BK247.out 3 rfl; obtain ⟨hfz19_0, hfz19_1, hfz19_2, hfz19_3⟩ := F4z (blk_frozen BK247.out)) | ((with_reducible refine gate_callee (f := 106) rfl ?_); refine goesL_ (some 28) rfl rfl Try.func106 z9_12 rfl #[.int .i64 t246, .int .i64 t245] rfl z9_7 ?_; (with_reducible refine (spec_l1Least.calls t246 t245 t248 _ A7.out).mono ?_); rintro e w' ⟨rfl, ⟨nd, rfl⟩⟩; refine ⟨_, rfl, ?_⟩) | ((with_reducible refine gate_callee (f := 105) rfl ?_); refine goesL_ (some 31) rfl rfl Try.func105 z9_12 rfl #[.pointer (some ⟨g, 0, none⟩), .int .i64 9] rfl z9_7 ?_; (with_reducible refine (spec_l1Cur_pick.calls g s0_0 t243 t244 9 t249 t250 t251 w0 _ ?side1 ?side2 A8.out).mono ?_); (case side1 => repeat (first | (with_reducible first | exact HI0.out | apply IsS82.alloc | apply IsS82.drewN | apply IsS82.drew | apply IsS82.set_1 | apply IsS82.set_2 | refine IsS82.far ?_ NB0_232.out _ | refine IsS82.far ?_ NB0_247.out _) | exact HI0.out)); (case side2 => repeat (first | (with_reducible first | exact HB.out | apply below_alloc | apply pw_below_drewN | apply below_drew1 | refine below_set ?_ (IsS82.ge HI0.out) | refine below_set ?_ GE232.out | refine below_set ?_ GE247.out) | exact HB.out)); rintro e w20 ⟨rfl, hi, hb, hk⟩; refine ⟨_, rfl, ?_⟩; have n0_ := z9_A (KeepBut.blk hk (g' := gb232) (o := .cells #[.slice none 0 0, .int .i64 0, .int .i64 0, .int .i64 0] 30 (0, 0)) (by (with_reducible repeat (first | refine blk_drewN ?_ _ | refine blk_drew ?_ | refine blk_alloc ?_ _)); refine blk_far ?_ NB232_247.out _; (with_reducible repeat (first | refine blk_drewN ?_ _ | refine blk_drew ?_ | refine blk_alloc ?_ _)); refine blk_far ?_ NB232_247.out _; (with_reducible repeat (first | refine blk_drewN ?_ _ | refine blk_drew ?_ | refine blk_alloc ?_ _)); refine blk_far ?_ NB232_247.out _; (with_reducible repeat (first | refine blk_drewN ?_ _ | refine blk_drew ?_ | refine blk_alloc ?_ _)); refine blk_far ?_ NB232_247.out _; (with_reducible repeat (first | refine blk_drewN ?_ _ | refine blk_drew ?_ | refine blk_alloc ?_ _)); refine blk_far ?_ NB232_247.out _; (with_reducible repeat (first | refine blk_drewN ?_ _ | refine blk_drew ?_ | refine blk_alloc ?_ _)); exact BK232.out) NB232_0.out z9_18); have n1_ := z9_A (Kd.R_mono (Kd.R_keep (IsS82.apart (show IsS82 w0 _ g s0_0 t243 t244 from by repeat (first | (with_reducible first | exact HI0.out | apply IsS82.alloc | apply IsS82.drewN | apply IsS82.drew | apply IsS82.set_1 | apply IsS82.set_2 | refine IsS82.far ?_ NB0_232.out _ | refine IsS82.far ?_ NB0_247.out _) | exact HI0.out)) (by (with_reducible repeat (first | apply Kd.R_alloc | apply Kd.R_drewN | apply Kd.R_drew)); exact (Kd.R_mono (Kd.R_far (p := ⟨gb247, 3, none⟩) (Kd.R_far (p := ⟨gb247, 3, none⟩) (Kd.R_far (p := ⟨gb247, 2, none⟩) (Kd.R_far (p := ⟨gb247, 1, none⟩) (Kd.R_far (p := ⟨gb247, 0, none⟩) (Kd.R_types HO235.out BK247.out z9_14) (fun _ hk => hk.2) (.slice none 0 0)) (fun _ hk => hk.2) (.int .i64 t236)) (fun _ hk => hk.2) (.int .i64 t245)) (fun _ hk => hk.2) (.int .i64 t246)) (fun _ hk => hk.2) (.int .i64 t248)) (fun _ h_ => h_.1))) z9_14) hk (fun _ h => h.2)) (fun _ h => h.1)); have n2_ := z9_A (KeepBut.blk hk (g' := gb247) (o := .cells #[.slice none 0 0, .int .i64 t236, .int .i64 t245, .int .i64 t248] 30 (0, 0)) (by (with_reducible repeat (first | refine blk_drewN ?_ _ | refine blk_drew ?_ | refine blk_alloc ?_ _)); refine blk_put (cs := #[.slice none 0 0, .int .i64 t236, .int .i64 t245, .int .i64 t246]) ?_ 3 _ rfl; (with_reducible repeat (first | refine blk_drewN ?_ _ | refine blk_drew ?_ | refine blk_alloc ?_ _)); refine blk_put (cs := #[.slice none 0 0, .int .i64 t236, .int .i64 t245, .int .i64 0]) ?_ 3 _ rfl; (with_reducible repeat (first | refine blk_drewN ?_ _ | refine blk_drew ?_ | refine blk_alloc ?_ _)); refine blk_put (cs := #[.slice none 0 0, .int .i64 t236, .int .i64 0, .int .i64 0]) ?_ 2 _ rfl; (with_reducible repeat (first | refine blk_drewN ?_ _ | refine blk_drew ?_ | refine blk_alloc ?_ _)); refine blk_put (cs := #[.slice none 0 0, .int .i64 0, .int .i64 0, .int .i64 0]) ?_ 1 _ rfl; (with_reducible repeat (first | refine blk_drewN ?_ _ | refine blk_drew ?_ | refine blk_alloc ?_ _)); refine blk_put (cs := #[.slice none 0 0, .int .i64 0, .int .i64 0, .int .i64 0]) ?_ 0 _ rfl; (with_reducible repeat (first | refine blk_drewN ?_ _ | refine blk_drew ?_ | refine blk_alloc ?_ _)); exact BK247.out) NB247_0.out z9_18); have n3_ := z9_A (KeepBut.trans z9_1 hk (.inl rfl)); have n4_ := z9_A (hb); have n5_ := z9_A (hi); clear BK232 HO235 BK247 HK HB HI0; revert n0_ n1_ n2_ n3_ n4_ n5_; intro BK232 HO235 BK247 HK HB HI0; (try clear hb); (try clear hb2); (try clear hk); (try clear hi)))
 go_loopg [6] k (fun kq v6 w' => ∃ (x6_1 : Int) (x1001_1 : Int) (x1002_1 : Int) (x248000_1 : List Int) (u248000 : Value), v6 = .int .i64 x6_1 ∧ Aside0 (spec_l1Cur_market.l0 kq x6_1 s0_0 x1001_1 x1002_1 x248000_1 t236 t245 t248 = some (r1, r2, r3, r4, r5, r6)) ∧ Aside0 (kq ≤ k) ∧ Aside0 (Kd.R (Kd.int .i64) 3 w' w.heap.size (fun _ => True) u248000 x248000_1) ∧ Aside0 (w'.heap[gb232]? = some (.cells #[(.slice none 0 0), .int .i64 0, .int .i64 0, .int .i64 0] 30 (0, 0))) ∧ Aside0 (w'.heap[gb247]? = some (.cells #[u248000, .int .i64 t236, .int .i64 t245, .int .i64 t248] 30 (0, 0))) ∧ Aside0 (IsS82 w0 w' g s0_0 x1001_1 x1002_1) ∧ Aside0 (KeepBut w w' g none) ∧ Aside0 (Below w0.heap.size w0 w'))
 case atStart => exact ⟨(wrap64 (1 + t249)), (t250), (t251), (([] : List Int)), (.slice none 0 0), (by first | rfl | (simp; done) | (simp [*]; done)), H', ⟨Nat.le_refl _⟩, ⟨by first | exact Kd.R_nil _ _ _ _ _ | exact Kd.N_nil _ _ _ _ _ | exact Kd.V_nil _ _ _ _ _ | exact Kd.Q_nil _ _ _ _ _ | exact Kd.S_nil _ _ _ _ _⟩, ⟨z9_4⟩, ⟨z9_6⟩, ⟨z9_2⟩, ⟨z9_1⟩, ⟨z9_3⟩⟩
 case round =>
  clear H'
  (try clear hcz19_0); (try clear hcz19_1); (try clear hcz19_2); (try clear hcz19_3); (try clear hfz19_0); (try clear hfz19_1); (try clear hfz19_2); (try clear hfz19_3)
  obtain ⟨x6_1, x1001_1, x1002_1, x248000_1, u248000, rfl, HA, HK1, HO_248000, BK232, BK247, HI0, HK, HB⟩ := hrel
  cases gk with
  | zero => exact absurd HA.out (by simp [spec_l1Cur_market.l0])
  | succ k1 =>
   have H := HA.out
   clear HA
   simp only [spec_l1Cur_market.l0] at H
   by_cases c21 : x6_1 > 0
   ·rw [if_pos c21] at H
    have c21b0 : decide (0 < x6_1) = true := decide_eq_true c21
    clear c21
    obtain ⟨y252, hy252⟩ : ∃ y_ : List Int, y_ = (([1, 2, 1, 0, 3, 4] : List Int)) := ⟨_, rfl⟩
    replace H : ((spec_l1Cur_among.f s0_0 x1001_1 x1002_1 y252).bind fun bt255 => (if x248000_1.length < 17592186044416 then (spec_l1Cur_market.l0 k1 (wrap64 (x6_1 - 1)) s0_0 bt255.2.1 bt255.2.2 (x248000_1 ++ [bt255.1]) t236 t245 t248) else (none))) = some (r1, r2, r3, r4, r5, r6) := by first | (rw [hy252]; with_reducible exact H) | (have H2_ := (Option.bind_some _ _).symm.trans H; rw [hy252]; with_reducible exact H2_) | (have H2_ := (Option.bind_some _ _).symm.trans H; with_reducible exact H2_) | with_reducible exact H | (rw [hy252]; exact H) | exact H
    have Ny252 := z9_A hy252
    clear hy252
    replace H := Option.bind_eq_some_iff.mp H
    obtain ⟨⟨t255, t256, t257⟩, A220, H⟩ := H
    (try dsimp only at H)
    have A22 := z9_A A220
    clear A220
    by_cases c23 : x248000_1.length < 17592186044416
    ·rw [if_pos c23] at H
     have LMc23 := z9_A c23
     clear c23
     obtain ⟨y258, hy258⟩ : ∃ y_ : List Int, y_ = (x248000_1 ++ [t255]) := ⟨_, rfl⟩
     replace H : (spec_l1Cur_market.l0 k1 (wrap64 (x6_1 - 1)) s0_0 t256 t257 y258 t236 t245 t248) = some (r1, r2, r3, r4, r5, r6) := by first | (rw [hy258]; with_reducible exact H) | (have H2_ := (Option.bind_some _ _).symm.trans H; rw [hy258]; with_reducible exact H2_) | (have H2_ := (Option.bind_some _ _).symm.trans H; with_reducible exact H2_) | with_reducible exact H | (rw [hy258]; exact H) | exact H
     have Ny258 := z9_A hy258
     clear hy258
     have H' := z9_A H
     clear H
     try go_wp2
     have n0_ := z9_A (Kd.R_drew HO_248000.out)
     have n1_ := z9_A (blk_drew BK232.out)
     have n2_ := z9_A (blk_drew BK247.out)
     have n3_ := z9_A (IsS82.drew HI0.out)
     have n4_ := z9_A (keep_drew HK.out)
     have n5_ := z9_A (below_drew1 HB.out)
     clear HO_248000
     clear BK232
     clear BK247
     clear HI0
     clear HK
     clear HB
     have HO_248000 := n0_
     have BK232 := n1_
     have BK247 := n2_
     have HI0 := n3_
     have HK := n4_
     have HB := n5_
     clear n0_ n1_ n2_ n3_ n4_ n5_
     refine start_ (n := 9) (S := fun w' => w'.cell? ⟨gb247, 0, none⟩ = some (u248000) ∧ w'.cell? ⟨gb247, 1, none⟩ = some (.int .i64 t236) ∧ w'.cell? ⟨gb247, 2, none⟩ = some (.int .i64 t245) ∧ w'.cell? ⟨gb247, 3, none⟩ = some (.int .i64 t248)) (ds := [8]) #[false, false, false, false, false, false, false, false, false] z9_12 rfl rfl ⟨bcz BK247.out 0 rfl, bcz BK247.out 1 rfl, bcz BK247.out 2 rfl, bcz BK247.out 3 rfl⟩ (fun hHeld => ?_); refine with_tabW spec_l1Cur_market.tab8 spec_l1Cur_market.bits8 (fun HT_ HW_ => ?_)
     generalize wr.drew = w24 at HO_248000 BK232 BK247 HI0 HK HB hHeld ⊢
     refine pure_ (i := 0) (N := some 37) (v := ?_) (a' := ?_) #[true, false, false, false, false, false, false, false, false] rfl rfl (any_of HT_.out z9_12) (fun _ _ _ h => h) (Or.inl ⟨by rfl, ?_⟩) ?_ ?_
     rotate_left
     ·intro w'
      go_simp
      with_reducible rfl
     rotate_left
     ·simp only [Act.put, List.setIfInBounds_toArray, List.set_cons_zero, List.set_cons_succ, i64_w, i32_w]
      rfl
     refine pure_ (i := 2) (N := some 39) (v := ?_) (a' := ?_) #[true, false, true, false, false, false, false, false, false] rfl rfl (any_of HT_.out z9_12) (fun _ _ _ h => h) (Or.inl ⟨by rfl, ?_⟩) ?_ ?_
     rotate_left
     ·intro w'
      go_simp
      with_reducible rfl
     rotate_left
     ·simp only [Act.put, List.setIfInBounds_toArray, List.set_cons_zero, List.set_cons_succ, i64_w, i32_w]
      rfl
     refine take_ (i := 1) (N := some 38) (v := ?_) (a' := ?_) #[true, true, true, false, false, false, false, false, false] rfl rfl (take_ofW HT_.out HW_.out z9_12) (fun _ _ _ h => h) (Or.inl ⟨by rfl, ?_⟩) hHeld ?_ ?_
     rotate_left
     ·rintro w' ⟨s0, s1, s2, s3⟩
      go_simp
      with_reducible rfl
     rotate_left
     ·simp only [Act.put, List.setIfInBounds_toArray, List.set_cons_zero, List.set_cons_succ, i64_w, i32_w]
      rfl
     refine one_ (i := 3) (N := some 40) #[true, true, true, true, false, false, false, false, false] rfl rfl (one_of HT_.out z9_12) z9_14 (fun K hK => ?_)
     refine Kd.R_lit_step (Kd.int .i64) _ 3 ?hg (N := 40) ?hd (xs := ([1, 2, 1, 0, 3, 4] : List Int)) (inner := [.int .i64 1, .int .i64 2, .int .i64 1, .int .i64 0, .int .i64 3, .int .i64 4]) (ok := fun _ => True) (okp := fun _ => True) ?hr ?hp (fun _ hk => hk) trivial (Below.refl _ _) (Nat.le_refl _) z9_18 ?_; (case hd => rfl); (case hg => rfl); (case hr => first | (go_simp; done) | (go_simp; rfl)); (case hp => exact (Reps.one (show Kd.M (Kd.int .i64) _ _ _ 1 [.int .i64 1] from rfl) (Reps.one (show Kd.M (Kd.int .i64) _ _ _ 2 [.int .i64 2] from rfl) (Reps.one (show Kd.M (Kd.int .i64) _ _ _ 1 [.int .i64 1] from rfl) (Reps.one (show Kd.M (Kd.int .i64) _ _ _ 0 [.int .i64 0] from rfl) (Reps.one (show Kd.M (Kd.int .i64) _ _ _ 3 [.int .i64 3] from rfl) (Reps.one (show Kd.M (Kd.int .i64) _ _ _ 4 [.int .i64 4] from rfl) (Reps.none _ _))))))))
     intro v253 w25 ho26 hb hg_ hnew_
     clear hg_ hnew_
     (first | rw [← Ny252.out] at ho26 | (simp only [Int.reduceToNat] at ho26; rw [← Ny252.out] at ho26))
     have n0_ := z9_A (Kd.R_elder' z9_5 (Kd.R_base ho26) hb)
     have n1_ := z9_A (Kd.R_lower (Kd.R_new' ho26 (Kd.R_lt z9_5)) (keep_size (w := w) (g := g) (row := none) z9_1))
     have n2_ := z9_A (blk_below (g := gb232) (o := .cells #[.slice none 0 0, .int .i64 0, .int .i64 0, .int .i64 0] 30 (0, 0)) z9_4 hb)
     have n3_ := z9_A (blk_below (g := gb247) (o := .cells #[u248000, .int .i64 t236, .int .i64 t245, .int .i64 t248] 30 (0, 0)) z9_6 hb)
     have n4_ := z9_A (IsS82.below z9_2 hb)
     have n5_ := z9_A (KeepBut.trans z9_1 (KeepBut.of_below hb g none) (.inl rfl))
     have n6_ := z9_A (below_step z9_3 hb)
     clear HO_248000
     clear BK232
     clear BK247
     clear HI0
     clear HK
     clear HB
     have HO_248000 := n0_
     have HO254 := n1_
     have BK232 := n2_
     have BK247 := n3_
     have HI0 := n4_
     have HK := n5_
     have HB := n6_
     clear n0_ n1_ n2_ n3_ n4_ n5_ n6_
     clear hb ho26
     obtain ⟨Ao27, co27, eo27⟩ := Kd.R_slice HO254.out
     (first | subst eo27 | (injection eo27 with f1_ f2_ f3_; have f4_ := f1_.symm; have f5_ := f3_.symm; clear f1_ f2_ f3_; subst f4_; subst f5_))
     refine hK.out _ _ ⟨bcz BK247.out 0 rfl, bcz BK247.out 1 rfl, bcz BK247.out 2 rfl, bcz BK247.out 3 rfl⟩ (fun hHeld => ?_)
     clear hK K
     refine norm_ (a' := ?_) ?_ ?_
     rotate_left
     ·show Act.put _ (some 40) _ = _
      simp only [Act.put, List.setIfInBounds_toArray, List.set_cons_zero, List.set_cons_succ, i64_w, i32_w]
      rfl
     refine one_ (i := 4) (N := some 41) #[true, true, true, true, true, false, false, false, false] rfl rfl (one_of HT_.out z9_12) z9_14 (fun K hK => ?_)
     refine goes_ Try.func82 z9_12 rfl #[.pointer (some ⟨g, 0, none⟩), .slice Ao27 y252.length co27] (by rfl) rfl rfl z9_7 ?_
     with_reducible refine (spec_l1Cur_among.calls g s0_0 x1001_1 x1002_1 _ _ y252 t255 t256 t257 w0 _ ?side1 ?side2 ?side3 ?side4 ?side5 A22.out).mono ?_
     (case side1 => repeat (first | (with_reducible first | exact HI0.out | apply IsS82.alloc | apply IsS82.drewN | apply IsS82.drew | apply IsS82.set_1 | apply IsS82.set_2 | refine IsS82.far ?_ NB0_232.out _ | refine IsS82.far ?_ NB0_247.out _) | exact HI0.out))
     (case side2 => repeat (first | (with_reducible first | exact HB.out | apply below_alloc | apply pw_below_drewN | apply below_drew1 | refine below_set ?_ (IsS82.ge HI0.out) | refine below_set ?_ GE232.out | refine below_set ?_ GE247.out) | exact HB.out))
     (case side3 => have zh := (Kd.R_reads' HO254.out).2.2; exact z9_C)
     (case side4 => exact (Kd.R_reads' HO254.out).2.1)
     (case side5 => exact far_slice (IsS82.own_ne HI0.out HO254.out z9_14))
     rintro e w28 ⟨rfl, hi, hb, hk⟩
     refine ⟨_, rfl, ?_⟩
     have n0_ := z9_A (Kd.R_mono (Kd.R_keep (IsS82.apart (show IsS82 w0 _ g s0_0 x1001_1 x1002_1 from by repeat (first | (with_reducible first | exact HI0.out | apply IsS82.alloc | apply IsS82.drewN | apply IsS82.drew | apply IsS82.set_1 | apply IsS82.set_2 | refine IsS82.far ?_ NB0_232.out _ | refine IsS82.far ?_ NB0_247.out _) | exact HI0.out)) z9_5 z9_14) hk (fun _ h => h.2)) (fun _ h => h.1))
     have n1_ := z9_A (KeepBut.blk hk (g' := gb232) (o := .cells #[.slice none 0 0, .int .i64 0, .int .i64 0, .int .i64 0] 30 (0, 0)) z9_4 NB232_0.out z9_18)
     have n2_ := z9_A (KeepBut.blk hk (g' := gb247) (o := .cells #[u248000, .int .i64 t236, .int .i64 t245, .int .i64 t248] 30 (0, 0)) z9_6 NB247_0.out z9_18)
     have n3_ := z9_A (Kd.R_mono (Kd.R_keep (IsS82.apart (show IsS82 w0 _ g s0_0 x1001_1 x1002_1 from by repeat (first | (with_reducible first | exact HI0.out | apply IsS82.alloc | apply IsS82.drewN | apply IsS82.drew | apply IsS82.set_1 | apply IsS82.set_2 | refine IsS82.far ?_ NB0_232.out _ | refine IsS82.far ?_ NB0_247.out _) | exact HI0.out)) z9_17 z9_14) hk (fun _ h => h.2)) (fun _ h => h.1))
     have n4_ := z9_A (KeepBut.trans z9_1 hk (.inl rfl))
     have n5_ := z9_A (hb)
     have n6_ := z9_A (hi)
     clear HO_248000
     clear BK232
     clear BK247
     clear HO254
     clear HK
     clear HB
     clear HI0
     have HO_248000 := n0_
     have BK232 := n1_
     have BK247 := n2_
     have HO254 := n3_
     have HK := n4_
     have HB := n5_
     have HI0 := n6_
     clear n0_ n1_ n2_ n3_ n4_ n5_ n6_
     (try clear hb)
     (try clear hb2)
     (try clear hk)
     (try clear hi)
     refine hK.out _ _ ⟨bcz BK247.out 0 rfl, bcz BK247.out 1 rfl, bcz BK247.out 2 rfl, bcz BK247.out 3 rfl⟩ (fun hHeld => ?_)
     clear hK K
     refine norm_ (a' := ?_) ?_ ?_
     rotate_left
     ·show Act.put _ (some 41) _ = _
      simp only [Act.put, List.setIfInBounds_toArray, List.set_cons_zero, List.set_cons_succ, i64_w, i32_w]
      rfl
     refine one_ (i := 5) (N := some 42) #[true, true, true, true, true, true, false, false, false] rfl rfl (one_of HT_.out z9_12) z9_14 (fun K hK => ?_)
     refine value_ (w1 := ?_) (v := ?_) (by rfl) rfl ?_ ?_
     rotate_left 2
     ·go_simp
      constructor
      ·rfl
      ·rfl
     refine hK.out _ _ ⟨(blk_cell (blk_alloc BK247.out _) 0).trans rfl, (blk_cell (blk_alloc BK247.out _) 1).trans rfl, (blk_cell (blk_alloc BK247.out _) 2).trans rfl, (blk_cell (blk_alloc BK247.out _) 3).trans rfl⟩ (fun hHeld => ?_)
     clear hK K
     refine norm_ (a' := ?_) ?_ ?_
     rotate_left
     ·show Act.put _ (some 42) _ = _
      simp only [Act.put, List.setIfInBounds_toArray, List.set_cons_zero, List.set_cons_succ, i64_w, i32_w]
      rfl
     refine one_ (i := 6) (N := some 43) #[true, true, true, true, true, true, true, false, false] rfl rfl (one_of HT_.out z9_12) z9_14 (fun K hK => ?_)
     refine Kd.R_append_step (Kd.int .i64) w.heap.size (by rfl) (.tmp 38) (.tmp 42) 22 3 (.int .i64 0) 8 rfl Try.underlying22 info3 rfl z9_14 (by omega) u248000 x248000_1 t255 [.int .i64 t255] (fun k_ => z9_S k_ Ao27 y252.length co27) (fun _ => False) rfl rfl ?aP (fun _ hk => hk.elim) ?aF ?aO (Below.refl _ _) ?aS ?aL ?_
     (case aP => exact rfl)
     (case aF => exact (fun k_ hk => Kd.fresh' (Kd.R_lt z9_17) k_ hk))
     (case aO => exact (by (with_reducible repeat (first | apply Kd.R_alloc | apply Kd.R_drewN | apply Kd.R_drew)); exact Kd.R_mono HO_248000.out (fun _ hk => hk.2)))
     (case aS => exact (keep_size (w := w) (g := g) (row := none) z9_1))
     (case aL => have := LMc23.out; omega)
     intro v259 w29 ho hb hg hat
     rw [← Ny258.out] at ho
     have n0_ := z9_A (blk_grown (g := gb232) (o := .cells #[.slice none 0 0, .int .i64 0, .int .i64 0, .int .i64 0] 30 (0, 0)) z9_4 hg (Kd.R_ne HO_248000.out BK232.out z9_14))
     have n1_ := z9_A (blk_grown (g := gb247) (o := .cells #[u248000, .int .i64 t236, .int .i64 t245, .int .i64 t248] 30 (0, 0)) z9_6 hg (Kd.R_ne HO_248000.out BK247.out z9_14))
     have n2_ := z9_A (IsS82.grown z9_2 hg (IsS82.own_ne HI0.out HO_248000.out z9_14))
     have n3_ := z9_A (Kd.R_after (ok := (fun _ => True)) z9_17 hg hat)
     have n4_ := z9_A (below_weaken z9_3 HL.out hb)
     have n5_ := z9_A (KeepBut.trans z9_1 (KeepBut.of_grown hg g) (Kd.R_base2 HO_248000.out))
     have n6_ := z9_A (ho)
     clear BK232
     clear BK247
     clear HI0
     clear HO254
     clear HB
     clear HK
     clear HO_248000
     have BK232 := n0_
     have BK247 := n1_
     have HI0 := n2_
     have HO254 := n3_
     have HB := n4_
     have HK := n5_
     have HO260 := n6_
     clear n0_ n1_ n2_ n3_ n4_ n5_ n6_
     clear ho hb hg hat
     obtain ⟨Ao30, co30, eo30⟩ := Kd.R_slice HO260.out
     (first | subst eo30 | (injection eo30 with f1_ f2_ f3_; have f4_ := f1_.symm; have f5_ := f3_.symm; clear f1_ f2_ f3_; subst f4_; subst f5_))
     refine hK.out _ _ ⟨bcz BK247.out 0 rfl, bcz BK247.out 1 rfl, bcz BK247.out 2 rfl, bcz BK247.out 3 rfl⟩ (fun hHeld => ?_)
     clear hK K
     refine norm_ (a' := ?_) ?_ ?_
     rotate_left
     ·show Act.put _ (some 43) _ = _
      simp only [Act.put, List.setIfInBounds_toArray, List.set_cons_zero, List.set_cons_succ, i64_w, i32_w]
      rfl
     refine pure_ (i := 7) (N := some 44) (v := ?_) (a' := ?_) #[true, true, true, true, true, true, true, true, false] rfl rfl (any_of HT_.out z9_12) (fun _ _ _ h => h) (Or.inl ⟨by rfl, ?_⟩) ?_ ?_
     rotate_left
     ·intro w'
      go_simp
      with_reducible rfl
     rotate_left
     ·simp only [Act.put, List.setIfInBounds_toArray, List.set_cons_zero, List.set_cons_succ, i64_w, i32_w]
      rfl
     refine last_ (i := 8) (N := none) #[true, true, true, true, true, true, true, true, true] rfl rfl (one_of HT_.out z9_12) z9_14 (fun K hK => ?_)
     have hs31 : w29.cell? ⟨gb247, 0, none⟩ = some (u248000) := bcz BK247.out 0 rfl
     have hfs31 := blk_frozen BK247.out 0
     have hns31_0 := NB232_247.out
     have hms31_0 := NB247_232.out
     refine skip_ (w1 := ?_) (by rfl) rfl ?_ ?_
     rotate_left
     ·go_simp
      rfl
     refine hK.out _ _ ?_
     clear hK K
     refine done_ (done_of HT_.out z9_12) ?_
     try go_wp2
     go_roundg k1
     case measure => have := HK1.out; omega
     case rel => exact ⟨(wrap64 (x6_1 - 1)), (t256), (t257), (y258), (.slice Ao30 y258.length co30), (by first | rfl | (simp; done) | (simp [*]; done)), H', ⟨by have := HK1.out; omega⟩, ⟨by (with_reducible repeat (first | apply Kd.R_alloc | apply Kd.R_drewN | apply Kd.R_drew)); exact Kd.R_mono (Kd.R_far (p := ⟨gb247, 0, none⟩) (Kd.R_types HO260.out BK247.out z9_14) (fun _ hk => hk.2) (.slice Ao30 y258.length co30)) (fun _ hk => trivial)⟩, ⟨z9_16⟩, ⟨by (with_reducible repeat (first | refine blk_drewN ?_ _ | refine blk_drew ?_ | refine blk_alloc ?_ _)); refine blk_put (cs := #[u248000, .int .i64 t236, .int .i64 t245, .int .i64 t248]) ?_ 0 _ rfl; (with_reducible repeat (first | refine blk_drewN ?_ _ | refine blk_drew ?_ | refine blk_alloc ?_ _)); exact BK247.out⟩, ⟨z9_2⟩, ⟨z9_1⟩, ⟨z9_3⟩⟩
    ·rw [if_neg c23] at H
     exact absurd H z9_18
   ·rw [if_neg c21] at H
    have c21b0 : decide (0 < x6_1) = false := decide_eq_false c21
    clear c21
    replace H := Option.bind_eq_some_iff.mp H
    obtain ⟨t261, A320, H⟩ := H
    (try dsimp only at H)
    have A32 := z9_A A320
    clear A320
    have HC33 := z9_A H
    clear H
    have hnb34 := NB247_232.out
    have hnc34 := NB232_247.out
    have hnb35 := NB247_0.out
    have hnc35 := NB0_247.out
    have hcz36_0 : wr.cell? ⟨gb247, 0, none⟩ = some (u248000) := bcz BK247.out 0 rfl
    have hcz36_1 : wr.cell? ⟨gb247, 1, none⟩ = some (.int .i64 t236) := bcz BK247.out 1 rfl
    have hcz36_2 : wr.cell? ⟨gb247, 2, none⟩ = some (.int .i64 t245) := bcz BK247.out 2 rfl
    have hcz36_3 : wr.cell? ⟨gb247, 3, none⟩ = some (.int .i64 t248) := bcz BK247.out 3 rfl
    obtain ⟨hfz36_0, hfz36_1, hfz36_2, hfz36_3⟩ := F4z (blk_frozen BK247.out)
    obtain ⟨Ao37, co37, eo37⟩ := Kd.R_slice HO_248000.out
    subst eo37
    go_upto_if 48 with (first | ((with_reducible refine gate_callee (f := 101) rfl ?_); refine goesL_ (some 47) rfl rfl Try.func101 z9_12 rfl #[.slice Ao37 x248000_1.length co37] rfl z9_7 ?_; (with_reducible refine (spec_l2Sum.calls k1 _ _ x248000_1 t261 _ ?side1 ?side2 A32.out).mono ?_); (case side1 => have zh := (Kd.R_reads' HO_248000.out).2.2; exact z9_C); (case side2 => exact (Kd.R_reads' HO_248000.out).2.1); rintro e w' ⟨rfl, ⟨nd, rfl⟩⟩; refine ⟨_, rfl, ?_⟩))
    (try simp only [Act.put, List.setIfInBounds_toArray, List.set_cons_zero, List.set_cons_succ])
    go_cut [] (fun wc => ∃ (kq : Nat) (x248000_32 : List Int) (u248000 : Value), Aside0 (spec_l1Cur_market.j1 kq s0_0 x1001_1 x1002_1 x248000_32 t236 t245 t248 = some (r1, r2, r3, r4, r5, r6)) ∧ Aside0 (kq ≤ k1) ∧ Aside0 (Kd.R (Kd.int .i64) 3 wc w.heap.size (fun _ => True) u248000 x248000_32) ∧ Aside0 (wc.heap[gb232]? = some (.cells #[(.slice none 0 0), .int .i64 0, .int .i64 0, .int .i64 0] 30 (0, 0))) ∧ Aside0 (wc.heap[gb247]? = some (.cells #[u248000, .int .i64 t236, .int .i64 t245, .int .i64 t248] 30 (0, 0))) ∧ Aside0 (IsS82 w0 wc g s0_0 x1001_1 x1002_1) ∧ Aside0 (KeepBut w wc g none) ∧ Aside0 (Below w0.heap.size w0 wc))
    case first =>
     have H := HC33.out
     clear HC33
     by_cases c38 : t261 = 0
     ·rw [if_pos c38] at H
      have c38b0 : (t261 == 0) = true := beq_iff_eq.mpr c38
      have c38b1 : (t261 != 0) = false := bne_eq_false_iff_eq.mpr c38
      clear c38
      (first | rw [c38b0] | (simp only [i64_w, i32_w]; rw [c38b0]) | skip)
      by_cases c39 : 0 < (x248000_1.length : Int)
      ·rw [if_pos c39] at H
       have c39b0 : decide (0 < (x248000_1.length : Int)) = true := decide_eq_true c39
       have c39b1 : decide (0 < x248000_1.length) = true := decide_eq_true (by omega)
       clear c39
       obtain ⟨y262, hy262⟩ : ∃ y_ : List Int, y_ = (x248000_1.set (0 : Int).toNat 1) := ⟨_, rfl⟩
       replace H : (spec_l1Cur_market.j1 k1 s0_0 x1001_1 x1002_1 y262 t236 t245 t248) = some (r1, r2, r3, r4, r5, r6) := by first | (rw [hy262]; with_reducible exact H) | (have H2_ := (Option.bind_some _ _).symm.trans H; rw [hy262]; with_reducible exact H2_) | (have H2_ := (Option.bind_some _ _).symm.trans H; with_reducible exact H2_) | with_reducible exact H | (rw [hy262]; exact H) | exact H
       have Ny262 := z9_A hy262
       clear hy262
       have H' := z9_A H
       clear H
       have hnb41 := NB247_232.out
       have hnc41 := NB232_247.out
       have hnb42 := NB247_0.out
       have hnc42 := NB0_247.out
       have hcz43_0 : (wr.drewN nd).cell? ⟨gb247, 0, none⟩ = some (.slice Ao37 x248000_1.length co37) := bcz BK247.out 0 rfl
       have hcz43_1 : (wr.drewN nd).cell? ⟨gb247, 1, none⟩ = some (.int .i64 t236) := bcz BK247.out 1 rfl
       have hcz43_2 : (wr.drewN nd).cell? ⟨gb247, 2, none⟩ = some (.int .i64 t245) := bcz BK247.out 2 rfl
       have hcz43_3 : (wr.drewN nd).cell? ⟨gb247, 3, none⟩ = some (.int .i64 t248) := bcz BK247.out 3 rfl
       obtain ⟨hfz43_0, hfz43_1, hfz43_2, hfz43_3⟩ := F4z (blk_frozen BK247.out)
       have p40 : 0 ≤ (0 : Int) := (by omega)
       have q40 : (0 : Int) < ((x248000_1.length : Int) : Int) := of_decide_eq_true (by first | (with_reducible assumption) | assumption)
       have qi40 : (0 < x248000_1.length) = True := eq_true (by omega)
       obtain ⟨go40, co40, eo40, gb40, gl40, cl40, HG40⟩ := Kd.R_form HO_248000.out (by omega)
       (first | cases eo40 | (injection eo40 with ea_ en_ ec_; (first | subst ea_ | (injection ea_ with ea_; subst ea_)); subst ec_; clear en_))
       have GB40 := z9_A gb40
       have GG40 := z9_A HG40
       clear gb40 gl40 HG40
       obtain ⟨hx40_0, hf40_0⟩ := Kd.R_celln 0 HO_248000.out (0 : Int) p40 q40
       (try rw [show ((0 : Int)).toNat = 0 from rfl] at hx40_0)
       (try simp only [Nat.reduceMul, Nat.zero_mul, Nat.zero_add, Nat.reduceAdd] at hx40_0)
       (try rw [show ((0 : Int)).toNat = 0 from rfl] at hf40_0)
       (try simp only [Nat.reduceMul, Nat.zero_mul, Nat.zero_add, Nat.reduceAdd] at hf40_0)
       replace p40 := eq_true p40
       replace q40 := eq_true q40
       have HP44 := Kd.R_putg (show Kd.R (Kd.int .i64) 3 (wr.drewN nd) w.heap.size (fun _ => True) (.slice (some ⟨go40, 0, none⟩) x248000_1.length co37) x248000_1 from by apply Kd.R_drewN; exact HO_248000.out) (0 : Int) 1
       go_wp2_with (first | ((with_reducible refine gate_store (t := 3) (p := 51) rfl ?_); refine store_event (t := 3) (p := 51) (v := ?vo_w45) (w1 := ((wr.drewN nd).setCell ⟨go40, (0 : Int).toNat, none⟩ (.int .i64 1))) ?hg ?ho ?hn ?hr ?_; (case ho => rfl); (case hg => rfl); (case hn => rfl); (case hr => first | (go_simp; done) | (go_simp; rfl)); intro w45 hw; have hg : (wr.drewN nd).grownBy w45 (some go40) := (by rw [hw]; exact HP44.2); have hp_ : Kd.R (Kd.int .i64) 3 w45 w.heap.size (fun _ => True) (.slice (some ⟨go40, 0, none⟩) x248000_1.length co37) y262 := (by rw [hw, Ny262.out]; exact HP44.1); clear HP44; have n0_ := z9_A (hp_); have n1_ := z9_A (blk_grown (g := gb232) (o := .cells #[.slice none 0 0, .int .i64 0, .int .i64 0, .int .i64 0] 30 (0, 0)) z9_4 hg (Kd.R_ne HO_248000.out BK232.out z9_14)); have n2_ := z9_A (blk_grown (g := gb247) (o := .cells #[.slice (some ⟨go40, 0, none⟩) x248000_1.length co37, .int .i64 t236, .int .i64 t245, .int .i64 t248] 30 (0, 0)) z9_6 hg (Kd.R_ne HO_248000.out BK247.out z9_14)); have n3_ := z9_A (IsS82.grown z9_2 hg (IsS82.own_ne HI0.out HO_248000.out z9_14)); have n4_ := z9_A ((by rw [hw]; exact below_set (pw_below_drewN HB.out nd) (Nat.le_trans HL.out GB40.out) : Below w0.heap.size w0 w45)); have n5_ := z9_A (KeepBut.trans z9_1 (KeepBut.of_grown hg g) (Kd.R_base2 HO_248000.out)); clear HO_248000 BK232 BK247 HI0 HB HK; revert n0_ n1_ n2_ n3_ n4_ n5_; intro HO_248000 BK232 BK247 HI0 HB HK; clear hg hw hp_))
       go_meet
       case rel => exact ⟨_, (y262), (.slice (some ⟨go40, 0, none⟩) x248000_1.length co37), H', ⟨by have := HK1.out; first | omega | exact Nat.le_refl _⟩, ⟨z9_5⟩, ⟨z9_4⟩, ⟨z9_6⟩, ⟨z9_2⟩, ⟨z9_1⟩, ⟨z9_3⟩⟩
      ·rw [if_neg c39] at H
       exact absurd H z9_18
     ·rw [if_neg c38] at H
      have c38b0 : (t261 == 0) = false := beq_eq_false_iff_ne.mpr c38
      have c38b1 : (t261 != 0) = true := bne_iff_ne.mpr c38
      (first | rw [c38b0] | (simp only [i64_w, i32_w]; rw [c38b0]) | skip)
      have H' := z9_A H
      clear H
      go_wp2
      go_meet
      case rel => exact ⟨_, (x248000_1), (.slice Ao37 x248000_1.length co37), H', ⟨by have := HK1.out; first | omega | exact Nat.le_refl _⟩, ⟨z9_5⟩, ⟨z9_4⟩, ⟨z9_6⟩, ⟨z9_2⟩, ⟨z9_1⟩, ⟨z9_3⟩⟩
    case rest =>
     clear HC33
     (try clear c2); (try clear c3); (try clear c4); (try clear p4); (try clear q4); (try clear hx4); (try clear qi4); (try clear hf4); (try clear c21); (try clear c21b0); (try clear c23); (try clear c34); (try clear c35); (try clear c38); (try clear c38b0); (try clear c38b1); (try clear c39); (try clear c39b0); (try clear c39b1); (try clear p40); (try clear q40); (try clear hx40); (try clear qi40); (try clear hf40); (try clear c41); (try clear c42); (try clear hcz36_0); (try clear hcz36_1); (try clear hcz36_2); (try clear hcz36_3); (try clear hcz43_0); (try clear hcz43_1); (try clear hcz43_2); (try clear hcz43_3); (try clear hfz36_0); (try clear hfz36_1); (try clear hfz36_2); (try clear hfz36_3); (try clear hfz43_0); (try clear hfz43_1); (try clear hfz43_2); (try clear hfz43_3); (try clear hx40_0); (try clear p40); (try clear q40)
     obtain ⟨kq, x248000_32, u248000, HA, HJ32, HO_248000, BK232, BK247, HI0, HK, HB⟩ := hcut
     cases kq with
     | zero => exact absurd HA.out (by simp [spec_l1Cur_market.j1])
     | succ kj32 =>
      have H := HA.out
      clear HA
      simp only [spec_l1Cur_market.j1] at H
      replace H := Option.bind_eq_some_iff.mp H
      obtain ⟨⟨t263, t264, t265⟩, A460, H⟩ := H
      (try dsimp only at H)
      have A46 := z9_A A460
      clear A460
      by_cases c47 : t263 = 0
      ·rw [if_pos c47] at H
       have c47b0 : (t263 == 0) = true := beq_iff_eq.mpr c47
       have c47b1 : (t263 != 0) = false := bne_eq_false_iff_eq.mpr c47
       clear c47
       obtain ⟨y266, hy266⟩ : ∃ y_ : List Int, y_ = (([0, 99, 100] : List Int)) := ⟨_, rfl⟩
       replace H : ((spec_l1Cur_among.f s0_0 t264 t265 y266).bind fun bt269 => (some (x248000_32, bt269.1, t245, t248, bt269.2.1, bt269.2.2))) = some (r1, r2, r3, r4, r5, r6) := by first | (rw [hy266]; with_reducible exact H) | (have H2_ := (Option.bind_some _ _).symm.trans H; rw [hy266]; with_reducible exact H2_) | (have H2_ := (Option.bind_some _ _).symm.trans H; with_reducible exact H2_) | with_reducible exact H | (rw [hy266]; exact H) | exact H
       have Ny266 := z9_A hy266
       clear hy266
       replace H := Option.bind_eq_some_iff.mp H
       obtain ⟨⟨t269, t270, t271⟩, A480, H⟩ := H
       (try dsimp only at H)
       have A48 := z9_A A480
       clear A480
       simp only [Option.some.injEq, Prod.mk.injEq] at H
       obtain ⟨rfl, rfl, rfl, rfl, rfl, rfl⟩ := H
       go_wp2_with (first | ((with_reducible refine gate_callee (f := 105) rfl ?_); refine goesL_ (some 53) rfl rfl Try.func105 z9_12 rfl #[.pointer (some ⟨g, 0, none⟩), .int .i64 40] rfl z9_7 ?_; (with_reducible refine (spec_l1Cur_pick.calls g s0_0 x1001_1 x1002_1 40 t263 t264 t265 w0 _ ?side1 ?side2 A46.out).mono ?_); (case side1 => repeat (first | (with_reducible first | exact HI0.out | apply IsS82.alloc | apply IsS82.drewN | apply IsS82.drew | apply IsS82.set_1 | apply IsS82.set_2 | refine IsS82.far ?_ NB0_232.out _ | refine IsS82.far ?_ NB0_247.out _) | exact HI0.out)); (case side2 => repeat (first | (with_reducible first | exact HB.out | apply below_alloc | apply pw_below_drewN | apply below_drew1 | refine below_set ?_ (IsS82.ge HI0.out) | refine below_set ?_ GE232.out | refine below_set ?_ GE247.out) | exact HB.out)); rintro e w49 ⟨rfl, hi, hb, hk⟩; refine ⟨_, rfl, ?_⟩; have n0_ := z9_A (Kd.R_mono (Kd.R_keep (IsS82.apart (show IsS82 w0 _ g s0_0 x1001_1 x1002_1 from by repeat (first | (with_reducible first | exact HI0.out | apply IsS82.alloc | apply IsS82.drewN | apply IsS82.drew | apply IsS82.set_1 | apply IsS82.set_2 | refine IsS82.far ?_ NB0_232.out _ | refine IsS82.far ?_ NB0_247.out _) | exact HI0.out)) z9_5 z9_14) hk (fun _ h => h.2)) (fun _ h => h.1)); have n1_ := z9_A (KeepBut.blk hk (g' := gb232) (o := .cells #[.slice none 0 0, .int .i64 0, .int .i64 0, .int .i64 0] 30 (0, 0)) z9_4 NB232_0.out z9_18); have n2_ := z9_A (KeepBut.blk hk (g' := gb247) (o := .cells #[u248000, .int .i64 t236, .int .i64 t245, .int .i64 t248] 30 (0, 0)) z9_6 NB247_0.out z9_18); have n3_ := z9_A (KeepBut.trans z9_1 hk (.inl rfl)); have n4_ := z9_A (hb); have n5_ := z9_A (hi); clear HO_248000 BK232 BK247 HK HB HI0; revert n0_ n1_ n2_ n3_ n4_ n5_; intro HO_248000 BK232 BK247 HK HB HI0; (try clear hb); (try clear hb2); (try clear hk); (try clear hi)) | ((with_reducible refine gate_dst (N := 57) rfl ?_); refine Kd.R_lit (Kd.int .i64) _ 3 ?hg (N := 57) ?hd (xs := ([0, 99, 100] : List Int)) (inner := [.int .i64 0, .int .i64 99, .int .i64 100]) (ok := fun _ => True) (okp := fun _ => True) ?hr ?hp (fun _ hk => hk) trivial (Below.refl _ _) (Nat.le_refl _) z9_18 ?_; (case hd => rfl); (case hg => rfl); (case hr => first | (go_simp; done) | (go_simp; rfl)); (case hp => exact (Reps.one (show Kd.M (Kd.int .i64) _ _ _ 0 [.int .i64 0] from rfl) (Reps.one (show Kd.M (Kd.int .i64) _ _ _ 99 [.int .i64 99] from rfl) (Reps.one (show Kd.M (Kd.int .i64) _ _ _ 100 [.int .i64 100] from rfl) (Reps.none _ _))))); intro v267 w50 ho51 hb hg_ hnew_; clear hg_ hnew_; (first | rw [← Ny266.out] at ho51 | (simp only [Int.reduceToNat] at ho51; rw [← Ny266.out] at ho51)); have n0_ := z9_A (Kd.R_elder' z9_5 (Kd.R_base ho51) hb); have n1_ := z9_A (Kd.R_lower (Kd.R_new' ho51 (Kd.R_lt z9_5)) (keep_size (w := w) (g := g) (row := none) z9_1)); have n2_ := z9_A (blk_below (g := gb232) (o := .cells #[.slice none 0 0, .int .i64 0, .int .i64 0, .int .i64 0] 30 (0, 0)) z9_4 hb); have n3_ := z9_A (blk_below (g := gb247) (o := .cells #[u248000, .int .i64 t236, .int .i64 t245, .int .i64 t248] 30 (0, 0)) z9_6 hb); have n4_ := z9_A (IsS82.below z9_2 hb); have n5_ := z9_A (KeepBut.trans z9_1 (KeepBut.of_below hb g none) (.inl rfl)); have n6_ := z9_A (below_step z9_3 hb); clear HO_248000 BK232 BK247 HI0 HK HB; revert n0_ n1_ n2_ n3_ n4_ n5_ n6_; intro HO_248000 HO268 BK232 BK247 HI0 HK HB; clear hb ho51; obtain ⟨Ao52, co52, eo52⟩ := Kd.R_slice HO268.out; subst eo52) | ((with_reducible refine gate_callee (f := 82) rfl ?_); refine goesL_ (some 58) rfl rfl Try.func82 z9_12 rfl #[.pointer (some ⟨g, 0, none⟩), .slice Ao52 y266.length co52] rfl z9_7 ?_; (with_reducible refine (spec_l1Cur_among.calls g s0_0 t264 t265 _ _ y266 t269 t270 t271 w0 _ ?side1 ?side2 ?side3 ?side4 ?side5 A48.out).mono ?_); (case side1 => repeat (first | (with_reducible first | exact HI0.out | apply IsS82.alloc | apply IsS82.drewN | apply IsS82.drew | apply IsS82.set_1 | apply IsS82.set_2 | refine IsS82.far ?_ NB0_232.out _ | refine IsS82.far ?_ NB0_247.out _) | exact HI0.out)); (case side2 => repeat (first | (with_reducible first | exact HB.out | apply below_alloc | apply pw_below_drewN | apply below_drew1 | refine below_set ?_ (IsS82.ge HI0.out) | refine below_set ?_ GE232.out | refine below_set ?_ GE247.out) | exact HB.out)); (case side3 => have zh := (Kd.R_reads' HO268.out).2.2; exact z9_C); (case side4 => exact (Kd.R_reads' HO268.out).2.1); (case side5 => exact far_slice (IsS82.own_ne HI0.out HO268.out z9_14)); rintro e w53 ⟨rfl, hi, hb, hk⟩; refine ⟨_, rfl, ?_⟩; have n0_ := z9_A (Kd.R_mono (Kd.R_keep (IsS82.apart (show IsS82 w0 _ g s0_0 t264 t265 from by repeat (first | (with_reducible first | exact HI0.out | apply IsS82.alloc | apply IsS82.drewN | apply IsS82.drew | apply IsS82.set_1 | apply IsS82.set_2 | refine IsS82.far ?_ NB0_232.out _ | refine IsS82.far ?_ NB0_247.out _) | exact HI0.out)) z9_5 z9_14) hk (fun _ h => h.2)) (fun _ h => h.1)); have n1_ := z9_A (KeepBut.blk hk (g' := gb232) (o := .cells #[.slice none 0 0, .int .i64 0, .int .i64 0, .int .i64 0] 30 (0, 0)) z9_4 NB232_0.out z9_18); have n2_ := z9_A (KeepBut.blk hk (g' := gb247) (o := .cells #[u248000, .int .i64 t236, .int .i64 t245, .int .i64 t248] 30 (0, 0)) z9_6 NB247_0.out z9_18); have n3_ := z9_A (Kd.R_mono (Kd.R_keep (IsS82.apart (show IsS82 w0 _ g s0_0 t264 t265 from by repeat (first | (with_reducible first | exact HI0.out | apply IsS82.alloc | apply IsS82.drewN | apply IsS82.drew | apply IsS82.set_1 | apply IsS82.set_2 | refine IsS82.far ?_ NB0_232.out _ | refine IsS82.far ?_ NB0_247.out _) | exact HI0.out)) (by (with_reducible repeat (first | apply Kd.R_alloc | apply Kd.R_drewN | apply Kd.R_drew)); exact HO268.out) z9_14) hk (fun _ h => h.2)) (fun _ h => h.1)); have n4_ := z9_A (KeepBut.trans z9_1 hk (.inl rfl)); have n5_ := z9_A (hb); have n6_ := z9_A (hi); clear HO_248000 BK232 BK247 HO268 HK HB HI0; revert n0_ n1_ n2_ n3_ n4_ n5_ n6_; intro HO_248000 BK232 BK247 HO268 HK HB HI0; (try clear hb); (try clear hb2); (try clear hk); (try clear hi); have hnb54 := NB247_232.out; have hnc54 := NB232_247.out; have hnb55 := NB247_0.out; have hnc55 := NB0_247.out; have hcz56_0 : w53.cell? ⟨gb247, 0, none⟩ = some (u248000) := bcz BK247.out 0 rfl; have hcz56_1 : w53.cell? ⟨gb247, 1, none⟩ = some (.int .i64 t236) := bcz BK247.out 1 rfl; have hcz56_2 : w53.cell? ⟨gb247, 2, none⟩ = some (.int .i64 t245) := bcz BK247.out 2 rfl; have hcz56_3 : w53.cell? ⟨gb247, 3, none⟩ = some (.int .i64 t248) := bcz BK247.out 3 rfl; obtain ⟨hfz56_0, hfz56_1, hfz56_2, hfz56_3⟩ := F4z (blk_frozen BK247.out); obtain ⟨Ao57, co57, eo57⟩ := Kd.R_slice HO_248000.out; subst eo57; have hnb58 := NB232_0.out; have hnc58 := NB0_232.out; have hcz59_0 : w53.cell? ⟨gb232, 0, none⟩ = some (.slice none 0 0) := bcz BK232.out 0 rfl; have hcz59_1 : w53.cell? ⟨gb232, 1, none⟩ = some (.int .i64 0) := bcz BK232.out 1 rfl; have hcz59_2 : w53.cell? ⟨gb232, 2, none⟩ = some (.int .i64 0) := bcz BK232.out 2 rfl; have hcz59_3 : w53.cell? ⟨gb232, 3, none⟩ = some (.int .i64 0) := bcz BK232.out 3 rfl; obtain ⟨hfz59_0, hfz59_1, hfz59_2, hfz59_3⟩ := F4z (blk_frozen BK232.out)))
       refine bodyPost_ret (results_cell_row rfl _ _ gb232 30 #[.slice Ao57 x248000_32.length co57, .int .i64 t269, .int .i64 t245, .int .i64 t248] (0, 0) _ rfl (by (with_reducible repeat (first | refine blk_drewN ?_ _ | refine blk_drew ?_ | refine blk_alloc ?_ _)); refine blk_put (cs := #[.slice Ao57 x248000_32.length co57, .int .i64 t269, .int .i64 t245, .int .i64 0]) ?_ 3 _ rfl; (with_reducible repeat (first | refine blk_drewN ?_ _ | refine blk_drew ?_ | refine blk_alloc ?_ _)); refine blk_put (cs := #[.slice Ao57 x248000_32.length co57, .int .i64 t269, .int .i64 0, .int .i64 0]) ?_ 2 _ rfl; (with_reducible repeat (first | refine blk_drewN ?_ _ | refine blk_drew ?_ | refine blk_alloc ?_ _)); refine blk_put (cs := #[.slice Ao57 x248000_32.length co57, .int .i64 0, .int .i64 0, .int .i64 0]) ?_ 1 _ rfl; (with_reducible repeat (first | refine blk_drewN ?_ _ | refine blk_drew ?_ | refine blk_alloc ?_ _)); refine blk_put (cs := #[.slice none 0 0, .int .i64 0, .int .i64 0, .int .i64 0]) ?_ 0 _ rfl; (with_reducible repeat (first | refine blk_drewN ?_ _ | refine blk_drew ?_ | refine blk_alloc ?_ _)); refine blk_far ?_ NB232_247.out _; (with_reducible repeat (first | refine blk_drewN ?_ _ | refine blk_drew ?_ | refine blk_alloc ?_ _)); exact BK232.out) Try.underlying30 rfl z9_12) rfl ?_
       exact ⟨_, z9_13, by (with_reducible repeat (first | apply Kd.R_alloc | apply Kd.R_drewN | apply Kd.R_drew)); exact Kd.R_mono (Kd.R_far (p := ⟨gb232, 3, none⟩) (Kd.R_far (p := ⟨gb232, 2, none⟩) (Kd.R_far (p := ⟨gb232, 1, none⟩) (Kd.R_far (p := ⟨gb232, 0, none⟩) (Kd.R_far (p := ⟨gb247, 1, none⟩) (Kd.R_types (Kd.R_types HO_248000.out BK247.out z9_14) BK232.out z9_14) (fun _ hk => hk.1.2) (.int .i64 t269)) (fun _ hk => hk.2) (.slice Ao57 x248000_32.length co57)) (fun _ hk => hk.2) (.int .i64 t269)) (fun _ hk => hk.2) (.int .i64 t245)) (fun _ hk => hk.2) (.int .i64 t248)) (fun _ hk => trivial), z9_2, z9_3, z9_1⟩
      ·rw [if_neg c47] at H
       have c47b0 : (t263 == 0) = false := beq_eq_false_iff_ne.mpr c47
       have c47b1 : (t263 != 0) = true := bne_iff_ne.mpr c47
       by_cases c60 : t263 = 1
       ·rw [if_pos c60] at H
        have c60b0 : (t263 == 1) = true := beq_iff_eq.mpr c60
        have c60b1 : (t263 != 1) = false := bne_eq_false_iff_eq.mpr c60
        clear c60
        obtain ⟨y272, hy272⟩ : ∃ y_ : List Int, y_ = (([(-1), t236, wrap64 (t236 + 1)] : List Int)) := ⟨_, rfl⟩
        replace H : ((spec_l1Cur_among.f s0_0 t264 t265 y272).bind fun bt275 => (some (x248000_32, t236, bt275.1, t248, bt275.2.1, bt275.2.2))) = some (r1, r2, r3, r4, r5, r6) := by first | (rw [hy272]; with_reducible exact H) | (have H2_ := (Option.bind_some _ _).symm.trans H; rw [hy272]; with_reducible exact H2_) | (have H2_ := (Option.bind_some _ _).symm.trans H; with_reducible exact H2_) | with_reducible exact H | (rw [hy272]; exact H) | exact H
        have Ny272 := z9_A hy272
        clear hy272
        replace H := Option.bind_eq_some_iff.mp H
        obtain ⟨⟨t275, t276, t277⟩, A610, H⟩ := H
        (try dsimp only at H)
        have A61 := z9_A A610
        clear A610
        simp only [Option.some.injEq, Prod.mk.injEq] at H
        obtain ⟨rfl, rfl, rfl, rfl, rfl, rfl⟩ := H
        go_wp2_with (first | ((with_reducible refine gate_callee (f := 105) rfl ?_); refine goesL_ (some 53) rfl rfl Try.func105 z9_12 rfl #[.pointer (some ⟨g, 0, none⟩), .int .i64 40] rfl z9_7 ?_; (with_reducible refine (spec_l1Cur_pick.calls g s0_0 x1001_1 x1002_1 40 t263 t264 t265 w0 _ ?side1 ?side2 A46.out).mono ?_); (case side1 => repeat (first | (with_reducible first | exact HI0.out | apply IsS82.alloc | apply IsS82.drewN | apply IsS82.drew | apply IsS82.set_1 | apply IsS82.set_2 | refine IsS82.far ?_ NB0_232.out _ | refine IsS82.far ?_ NB0_247.out _) | exact HI0.out)); (case side2 => repeat (first | (with_reducible first | exact HB.out | apply below_alloc | apply pw_below_drewN | apply below_drew1 | refine below_set ?_ (IsS82.ge HI0.out) | refine below_set ?_ GE232.out | refine below_set ?_ GE247.out) | exact HB.out)); rintro e w62 ⟨rfl, hi, hb, hk⟩; refine ⟨_, rfl, ?_⟩; have n0_ := z9_A (Kd.R_mono (Kd.R_keep (IsS82.apart (show IsS82 w0 _ g s0_0 x1001_1 x1002_1 from by repeat (first | (with_reducible first | exact HI0.out | apply IsS82.alloc | apply IsS82.drewN | apply IsS82.drew | apply IsS82.set_1 | apply IsS82.set_2 | refine IsS82.far ?_ NB0_232.out _ | refine IsS82.far ?_ NB0_247.out _) | exact HI0.out)) z9_5 z9_14) hk (fun _ h => h.2)) (fun _ h => h.1)); have n1_ := z9_A (KeepBut.blk hk (g' := gb232) (o := .cells #[.slice none 0 0, .int .i64 0, .int .i64 0, .int .i64 0] 30 (0, 0)) z9_4 NB232_0.out z9_18); have n2_ := z9_A (KeepBut.blk hk (g' := gb247) (o := .cells #[u248000, .int .i64 t236, .int .i64 t245, .int .i64 t248] 30 (0, 0)) z9_6 NB247_0.out z9_18); have n3_ := z9_A (KeepBut.trans z9_1 hk (.inl rfl)); have n4_ := z9_A (hb); have n5_ := z9_A (hi); clear HO_248000 BK232 BK247 HK HB HI0; revert n0_ n1_ n2_ n3_ n4_ n5_; intro HO_248000 BK232 BK247 HK HB HI0; (try clear hb); (try clear hb2); (try clear hk); (try clear hi); have hnb63 := NB247_232.out; have hnc63 := NB232_247.out; have hnb64 := NB247_0.out; have hnc64 := NB0_247.out; have hcz65_0 : w62.cell? ⟨gb247, 0, none⟩ = some (u248000) := bcz BK247.out 0 rfl; have hcz65_1 : w62.cell? ⟨gb247, 1, none⟩ = some (.int .i64 t236) := bcz BK247.out 1 rfl; have hcz65_2 : w62.cell? ⟨gb247, 2, none⟩ = some (.int .i64 t245) := bcz BK247.out 2 rfl; have hcz65_3 : w62.cell? ⟨gb247, 3, none⟩ = some (.int .i64 t248) := bcz BK247.out 3 rfl; obtain ⟨hfz65_0, hfz65_1, hfz65_2, hfz65_3⟩ := F4z (blk_frozen BK247.out)) | ((with_reducible refine gate_dst (N := 68) rfl ?_); refine Kd.R_lit (Kd.int .i64) _ 3 ?hg (N := 68) ?hd (xs := ([(-1), t236, wrap64 (t236 + 1)] : List Int)) (inner := [.int .i64 (-1), .int .i64 t236, .int .i64 (wrap64 (t236 + 1))]) (ok := fun _ => True) (okp := fun _ => True) ?hr ?hp (fun _ hk => hk) trivial (Below.refl _ _) (Nat.le_refl _) z9_18 ?_; (case hd => rfl); (case hg => rfl); (case hr => first | (go_simp; done) | (go_simp; rfl)); (case hp => exact (Reps.one (show Kd.M (Kd.int .i64) _ _ _ (-1) [.int .i64 (-1)] from rfl) (Reps.one (show Kd.M (Kd.int .i64) _ _ _ t236 [.int .i64 t236] from rfl) (Reps.one (show Kd.M (Kd.int .i64) _ _ _ (wrap64 (t236 + 1)) [.int .i64 (wrap64 (t236 + 1))] from rfl) (Reps.none _ _))))); intro v273 w66 ho67 hb hg_ hnew_; clear hg_ hnew_; (first | rw [← Ny272.out] at ho67 | (simp only [Int.reduceToNat] at ho67; rw [← Ny272.out] at ho67)); have n0_ := z9_A (Kd.R_elder' z9_5 (Kd.R_base ho67) hb); have n1_ := z9_A (Kd.R_lower (Kd.R_new' ho67 (Kd.R_lt z9_5)) (keep_size (w := w) (g := g) (row := none) z9_1)); have n2_ := z9_A (blk_below (g := gb232) (o := .cells #[.slice none 0 0, .int .i64 0, .int .i64 0, .int .i64 0] 30 (0, 0)) z9_4 hb); have n3_ := z9_A (blk_below (g := gb247) (o := .cells #[u248000, .int .i64 t236, .int .i64 t245, .int .i64 t248] 30 (0, 0)) z9_6 hb); have n4_ := z9_A (IsS82.below z9_2 hb); have n5_ := z9_A (KeepBut.trans z9_1 (KeepBut.of_below hb g none) (.inl rfl)); have n6_ := z9_A (below_step z9_3 hb); clear HO_248000 BK232 BK247 HI0 HK HB; revert n0_ n1_ n2_ n3_ n4_ n5_ n6_; intro HO_248000 HO274 BK232 BK247 HI0 HK HB; clear hb ho67; obtain ⟨Ao68, co68, eo68⟩ := Kd.R_slice HO274.out; subst eo68) | ((with_reducible refine gate_callee (f := 82) rfl ?_); refine goesL_ (some 69) rfl rfl Try.func82 z9_12 rfl #[.pointer (some ⟨g, 0, none⟩), .slice Ao68 y272.length co68] rfl z9_7 ?_; (with_reducible refine (spec_l1Cur_among.calls g s0_0 t264 t265 _ _ y272 t275 t276 t277 w0 _ ?side1 ?side2 ?side3 ?side4 ?side5 A61.out).mono ?_); (case side1 => repeat (first | (with_reducible first | exact HI0.out | apply IsS82.alloc | apply IsS82.drewN | apply IsS82.drew | apply IsS82.set_1 | apply IsS82.set_2 | refine IsS82.far ?_ NB0_232.out _ | refine IsS82.far ?_ NB0_247.out _) | exact HI0.out)); (case side2 => repeat (first | (with_reducible first | exact HB.out | apply below_alloc | apply pw_below_drewN | apply below_drew1 | refine below_set ?_ (IsS82.ge HI0.out) | refine below_set ?_ GE232.out | refine below_set ?_ GE247.out) | exact HB.out)); (case side3 => have zh := (Kd.R_reads' HO274.out).2.2; exact z9_C); (case side4 => exact (Kd.R_reads' HO274.out).2.1); (case side5 => exact far_slice (IsS82.own_ne HI0.out HO274.out z9_14)); rintro e w69 ⟨rfl, hi, hb, hk⟩; refine ⟨_, rfl, ?_⟩; have n0_ := z9_A (Kd.R_mono (Kd.R_keep (IsS82.apart (show IsS82 w0 _ g s0_0 t264 t265 from by repeat (first | (with_reducible first | exact HI0.out | apply IsS82.alloc | apply IsS82.drewN | apply IsS82.drew | apply IsS82.set_1 | apply IsS82.set_2 | refine IsS82.far ?_ NB0_232.out _ | refine IsS82.far ?_ NB0_247.out _) | exact HI0.out)) z9_5 z9_14) hk (fun _ h => h.2)) (fun _ h => h.1)); have n1_ := z9_A (KeepBut.blk hk (g' := gb232) (o := .cells #[.slice none 0 0, .int .i64 0, .int .i64 0, .int .i64 0] 30 (0, 0)) z9_4 NB232_0.out z9_18); have n2_ := z9_A (KeepBut.blk hk (g' := gb247) (o := .cells #[u248000, .int .i64 t236, .int .i64 t245, .int .i64 t248] 30 (0, 0)) z9_6 NB247_0.out z9_18); have n3_ := z9_A (Kd.R_mono (Kd.R_keep (IsS82.apart (show IsS82 w0 _ g s0_0 t264 t265 from by repeat (first | (with_reducible first | exact HI0.out | apply IsS82.alloc | apply IsS82.drewN | apply IsS82.drew | apply IsS82.set_1 | apply IsS82.set_2 | refine IsS82.far ?_ NB0_232.out _ | refine IsS82.far ?_ NB0_247.out _) | exact HI0.out)) (by (with_reducible repeat (first | apply Kd.R_alloc | apply Kd.R_drewN | apply Kd.R_drew)); exact HO274.out) z9_14) hk (fun _ h => h.2)) (fun _ h => h.1)); have n4_ := z9_A (KeepBut.trans z9_1 hk (.inl rfl)); have n5_ := z9_A (hb); have n6_ := z9_A (hi); clear HO_248000 BK232 BK247 HO274 HK HB HI0; revert n0_ n1_ n2_ n3_ n4_ n5_ n6_; intro HO_248000 BK232 BK247 HO274 HK HB HI0; (try clear hb); (try clear hb2); (try clear hk); (try clear hi); have hcz70_0 : w69.cell? ⟨gb247, 0, none⟩ = some (u248000) := bcz BK247.out 0 rfl; have hcz70_1 : w69.cell? ⟨gb247, 1, none⟩ = some (.int .i64 t236) := bcz BK247.out 1 rfl; have hcz70_2 : w69.cell? ⟨gb247, 2, none⟩ = some (.int .i64 t245) := bcz BK247.out 2 rfl; have hcz70_3 : w69.cell? ⟨gb247, 3, none⟩ = some (.int .i64 t248) := bcz BK247.out 3 rfl; obtain ⟨hfz70_0, hfz70_1, hfz70_2, hfz70_3⟩ := F4z (blk_frozen BK247.out); obtain ⟨Ao71, co71, eo71⟩ := Kd.R_slice HO_248000.out; subst eo71; have hnb72 := NB232_0.out; have hnc72 := NB0_232.out; have hcz73_0 : w69.cell? ⟨gb232, 0, none⟩ = some (.slice none 0 0) := bcz BK232.out 0 rfl; have hcz73_1 : w69.cell? ⟨gb232, 1, none⟩ = some (.int .i64 0) := bcz BK232.out 1 rfl; have hcz73_2 : w69.cell? ⟨gb232, 2, none⟩ = some (.int .i64 0) := bcz BK232.out 2 rfl; have hcz73_3 : w69.cell? ⟨gb232, 3, none⟩ = some (.int .i64 0) := bcz BK232.out 3 rfl; obtain ⟨hfz73_0, hfz73_1, hfz73_2, hfz73_3⟩ := F4z (blk_frozen BK232.out)))
        refine bodyPost_ret (results_cell_row rfl _ _ gb232 30 #[.slice Ao71 x248000_32.length co71, .int .i64 t236, .int .i64 t275, .int .i64 t248] (0, 0) _ rfl (by (with_reducible repeat (first | refine blk_drewN ?_ _ | refine blk_drew ?_ | refine blk_alloc ?_ _)); refine blk_put (cs := #[.slice Ao71 x248000_32.length co71, .int .i64 t236, .int .i64 t275, .int .i64 0]) ?_ 3 _ rfl; (with_reducible repeat (first | refine blk_drewN ?_ _ | refine blk_drew ?_ | refine blk_alloc ?_ _)); refine blk_put (cs := #[.slice Ao71 x248000_32.length co71, .int .i64 t236, .int .i64 0, .int .i64 0]) ?_ 2 _ rfl; (with_reducible repeat (first | refine blk_drewN ?_ _ | refine blk_drew ?_ | refine blk_alloc ?_ _)); refine blk_put (cs := #[.slice Ao71 x248000_32.length co71, .int .i64 0, .int .i64 0, .int .i64 0]) ?_ 1 _ rfl; (with_reducible repeat (first | refine blk_drewN ?_ _ | refine blk_drew ?_ | refine blk_alloc ?_ _)); refine blk_put (cs := #[.slice none 0 0, .int .i64 0, .int .i64 0, .int .i64 0]) ?_ 0 _ rfl; (with_reducible repeat (first | refine blk_drewN ?_ _ | refine blk_drew ?_ | refine blk_alloc ?_ _)); refine blk_far ?_ NB232_247.out _; (with_reducible repeat (first | refine blk_drewN ?_ _ | refine blk_drew ?_ | refine blk_alloc ?_ _)); exact BK232.out) Try.underlying30 rfl z9_12) rfl ?_
        exact ⟨_, z9_13, by (with_reducible repeat (first | apply Kd.R_alloc | apply Kd.R_drewN | apply Kd.R_drew)); exact Kd.R_mono (Kd.R_far (p := ⟨gb232, 3, none⟩) (Kd.R_far (p := ⟨gb232, 2, none⟩) (Kd.R_far (p := ⟨gb232, 1, none⟩) (Kd.R_far (p := ⟨gb232, 0, none⟩) (Kd.R_far (p := ⟨gb247, 2, none⟩) (Kd.R_types (Kd.R_types HO_248000.out BK247.out z9_14) BK232.out z9_14) (fun _ hk => hk.1.2) (.int .i64 t275)) (fun _ hk => hk.2) (.slice Ao71 x248000_32.length co71)) (fun _ hk => hk.2) (.int .i64 t236)) (fun _ hk => hk.2) (.int .i64 t275)) (fun _ hk => hk.2) (.int .i64 t248)) (fun _ hk => trivial), z9_2, z9_3, z9_1⟩
       ·rw [if_neg c60] at H
        have c60b0 : (t263 == 1) = false := beq_eq_false_iff_ne.mpr c60
        have c60b1 : (t263 != 1) = true := bne_iff_ne.mpr c60
        by_cases c74 : t263 = 2
        ·rw [if_pos c74] at H
         have c74b0 : (t263 == 2) = true := beq_iff_eq.mpr c74
         have c74b1 : (t263 != 2) = false := bne_eq_false_iff_eq.mpr c74
         clear c74
         obtain ⟨y278, hy278⟩ : ∃ y_ : List Int, y_ = (([(-1), t245, wrap64 (t245 + 1)] : List Int)) := ⟨_, rfl⟩
         replace H : ((spec_l1Cur_among.f s0_0 t264 t265 y278).bind fun bt281 => (some (x248000_32, t236, t245, bt281.1, bt281.2.1, bt281.2.2))) = some (r1, r2, r3, r4, r5, r6) := by first | (rw [hy278]; with_reducible exact H) | (have H2_ := (Option.bind_some _ _).symm.trans H; rw [hy278]; with_reducible exact H2_) | (have H2_ := (Option.bind_some _ _).symm.trans H; with_reducible exact H2_) | with_reducible exact H | (rw [hy278]; exact H) | exact H
         have Ny278 := z9_A hy278
         clear hy278
         replace H := Option.bind_eq_some_iff.mp H
         obtain ⟨⟨t281, t282, t283⟩, A750, H⟩ := H
         (try dsimp only at H)
         have A75 := z9_A A750
         clear A750
         simp only [Option.some.injEq, Prod.mk.injEq] at H
         obtain ⟨rfl, rfl, rfl, rfl, rfl, rfl⟩ := H
         go_wp2_with (first | ((with_reducible refine gate_callee (f := 105) rfl ?_); refine goesL_ (some 53) rfl rfl Try.func105 z9_12 rfl #[.pointer (some ⟨g, 0, none⟩), .int .i64 40] rfl z9_7 ?_; (with_reducible refine (spec_l1Cur_pick.calls g s0_0 x1001_1 x1002_1 40 t263 t264 t265 w0 _ ?side1 ?side2 A46.out).mono ?_); (case side1 => repeat (first | (with_reducible first | exact HI0.out | apply IsS82.alloc | apply IsS82.drewN | apply IsS82.drew | apply IsS82.set_1 | apply IsS82.set_2 | refine IsS82.far ?_ NB0_232.out _ | refine IsS82.far ?_ NB0_247.out _) | exact HI0.out)); (case side2 => repeat (first | (with_reducible first | exact HB.out | apply below_alloc | apply pw_below_drewN | apply below_drew1 | refine below_set ?_ (IsS82.ge HI0.out) | refine below_set ?_ GE232.out | refine below_set ?_ GE247.out) | exact HB.out)); rintro e w76 ⟨rfl, hi, hb, hk⟩; refine ⟨_, rfl, ?_⟩; have n0_ := z9_A (Kd.R_mono (Kd.R_keep (IsS82.apart (show IsS82 w0 _ g s0_0 x1001_1 x1002_1 from by repeat (first | (with_reducible first | exact HI0.out | apply IsS82.alloc | apply IsS82.drewN | apply IsS82.drew | apply IsS82.set_1 | apply IsS82.set_2 | refine IsS82.far ?_ NB0_232.out _ | refine IsS82.far ?_ NB0_247.out _) | exact HI0.out)) z9_5 z9_14) hk (fun _ h => h.2)) (fun _ h => h.1)); have n1_ := z9_A (KeepBut.blk hk (g' := gb232) (o := .cells #[.slice none 0 0, .int .i64 0, .int .i64 0, .int .i64 0] 30 (0, 0)) z9_4 NB232_0.out z9_18); have n2_ := z9_A (KeepBut.blk hk (g' := gb247) (o := .cells #[u248000, .int .i64 t236, .int .i64 t245, .int .i64 t248] 30 (0, 0)) z9_6 NB247_0.out z9_18); have n3_ := z9_A (KeepBut.trans z9_1 hk (.inl rfl)); have n4_ := z9_A (hb); have n5_ := z9_A (hi); clear HO_248000 BK232 BK247 HK HB HI0; revert n0_ n1_ n2_ n3_ n4_ n5_; intro HO_248000 BK232 BK247 HK HB HI0; (try clear hb); (try clear hb2); (try clear hk); (try clear hi); have hnb77 := NB247_232.out; have hnc77 := NB232_247.out; have hnb78 := NB247_0.out; have hnc78 := NB0_247.out; have hcz79_0 : w76.cell? ⟨gb247, 0, none⟩ = some (u248000) := bcz BK247.out 0 rfl; have hcz79_1 : w76.cell? ⟨gb247, 1, none⟩ = some (.int .i64 t236) := bcz BK247.out 1 rfl; have hcz79_2 : w76.cell? ⟨gb247, 2, none⟩ = some (.int .i64 t245) := bcz BK247.out 2 rfl; have hcz79_3 : w76.cell? ⟨gb247, 3, none⟩ = some (.int .i64 t248) := bcz BK247.out 3 rfl; obtain ⟨hfz79_0, hfz79_1, hfz79_2, hfz79_3⟩ := F4z (blk_frozen BK247.out)) | ((with_reducible refine gate_dst (N := 79) rfl ?_); refine Kd.R_lit (Kd.int .i64) _ 3 ?hg (N := 79) ?hd (xs := ([(-1), t245, wrap64 (t245 + 1)] : List Int)) (inner := [.int .i64 (-1), .int .i64 t245, .int .i64 (wrap64 (t245 + 1))]) (ok := fun _ => True) (okp := fun _ => True) ?hr ?hp (fun _ hk => hk) trivial (Below.refl _ _) (Nat.le_refl _) z9_18 ?_; (case hd => rfl); (case hg => rfl); (case hr => first | (go_simp; done) | (go_simp; rfl)); (case hp => exact (Reps.one (show Kd.M (Kd.int .i64) _ _ _ (-1) [.int .i64 (-1)] from rfl) (Reps.one (show Kd.M (Kd.int .i64) _ _ _ t245 [.int .i64 t245] from rfl) (Reps.one (show Kd.M (Kd.int .i64) _ _ _ (wrap64 (t245 + 1)) [.int .i64 (wrap64 (t245 + 1))] from rfl) (Reps.none _ _))))); intro v279 w80 ho81 hb hg_ hnew_; clear hg_ hnew_; (first | rw [← Ny278.out] at ho81 | (simp only [Int.reduceToNat] at ho81; rw [← Ny278.out] at ho81)); have n0_ := z9_A (Kd.R_elder' z9_5 (Kd.R_base ho81) hb); have n1_ := z9_A (Kd.R_lower (Kd.R_new' ho81 (Kd.R_lt z9_5)) (keep_size (w := w) (g := g) (row := none) z9_1)); have n2_ := z9_A (blk_below (g := gb232) (o := .cells #[.slice none 0 0, .int .i64 0, .int .i64 0, .int .i64 0] 30 (0, 0)) z9_4 hb); have n3_ := z9_A (blk_below (g := gb247) (o := .cells #[u248000, .int .i64 t236, .int .i64 t245, .int .i64 t248] 30 (0, 0)) z9_6 hb); have n4_ := z9_A (IsS82.below z9_2 hb); have n5_ := z9_A (KeepBut.trans z9_1 (KeepBut.of_below hb g none) (.inl rfl)); have n6_ := z9_A (below_step z9_3 hb); clear HO_248000 BK232 BK247 HI0 HK HB; revert n0_ n1_ n2_ n3_ n4_ n5_ n6_; intro HO_248000 HO280 BK232 BK247 HI0 HK HB; clear hb ho81; obtain ⟨Ao82, co82, eo82⟩ := Kd.R_slice HO280.out; subst eo82) | ((with_reducible refine gate_callee (f := 82) rfl ?_); refine goesL_ (some 80) rfl rfl Try.func82 z9_12 rfl #[.pointer (some ⟨g, 0, none⟩), .slice Ao82 y278.length co82] rfl z9_7 ?_; (with_reducible refine (spec_l1Cur_among.calls g s0_0 t264 t265 _ _ y278 t281 t282 t283 w0 _ ?side1 ?side2 ?side3 ?side4 ?side5 A75.out).mono ?_); (case side1 => repeat (first | (with_reducible first | exact HI0.out | apply IsS82.alloc | apply IsS82.drewN | apply IsS82.drew | apply IsS82.set_1 | apply IsS82.set_2 | refine IsS82.far ?_ NB0_232.out _ | refine IsS82.far ?_ NB0_247.out _) | exact HI0.out)); (case side2 => repeat (first | (with_reducible first | exact HB.out | apply below_alloc | apply pw_below_drewN | apply below_drew1 | refine below_set ?_ (IsS82.ge HI0.out) | refine below_set ?_ GE232.out | refine below_set ?_ GE247.out) | exact HB.out)); (case side3 => have zh := (Kd.R_reads' HO280.out).2.2; exact z9_C); (case side4 => exact (Kd.R_reads' HO280.out).2.1); (case side5 => exact far_slice (IsS82.own_ne HI0.out HO280.out z9_14)); rintro e w83 ⟨rfl, hi, hb, hk⟩; refine ⟨_, rfl, ?_⟩; have n0_ := z9_A (Kd.R_mono (Kd.R_keep (IsS82.apart (show IsS82 w0 _ g s0_0 t264 t265 from by repeat (first | (with_reducible first | exact HI0.out | apply IsS82.alloc | apply IsS82.drewN | apply IsS82.drew | apply IsS82.set_1 | apply IsS82.set_2 | refine IsS82.far ?_ NB0_232.out _ | refine IsS82.far ?_ NB0_247.out _) | exact HI0.out)) z9_5 z9_14) hk (fun _ h => h.2)) (fun _ h => h.1)); have n1_ := z9_A (KeepBut.blk hk (g' := gb232) (o := .cells #[.slice none 0 0, .int .i64 0, .int .i64 0, .int .i64 0] 30 (0, 0)) z9_4 NB232_0.out z9_18); have n2_ := z9_A (KeepBut.blk hk (g' := gb247) (o := .cells #[u248000, .int .i64 t236, .int .i64 t245, .int .i64 t248] 30 (0, 0)) z9_6 NB247_0.out z9_18); have n3_ := z9_A (Kd.R_mono (Kd.R_keep (IsS82.apart (show IsS82 w0 _ g s0_0 t264 t265 from by repeat (first | (with_reducible first | exact HI0.out | apply IsS82.alloc | apply IsS82.drewN | apply IsS82.drew | apply IsS82.set_1 | apply IsS82.set_2 | refine IsS82.far ?_ NB0_232.out _ | refine IsS82.far ?_ NB0_247.out _) | exact HI0.out)) (by (with_reducible repeat (first | apply Kd.R_alloc | apply Kd.R_drewN | apply Kd.R_drew)); exact HO280.out) z9_14) hk (fun _ h => h.2)) (fun _ h => h.1)); have n4_ := z9_A (KeepBut.trans z9_1 hk (.inl rfl)); have n5_ := z9_A (hb); have n6_ := z9_A (hi); clear HO_248000 BK232 BK247 HO280 HK HB HI0; revert n0_ n1_ n2_ n3_ n4_ n5_ n6_; intro HO_248000 BK232 BK247 HO280 HK HB HI0; (try clear hb); (try clear hb2); (try clear hk); (try clear hi); have hcz84_0 : w83.cell? ⟨gb247, 0, none⟩ = some (u248000) := bcz BK247.out 0 rfl; have hcz84_1 : w83.cell? ⟨gb247, 1, none⟩ = some (.int .i64 t236) := bcz BK247.out 1 rfl; have hcz84_2 : w83.cell? ⟨gb247, 2, none⟩ = some (.int .i64 t245) := bcz BK247.out 2 rfl; have hcz84_3 : w83.cell? ⟨gb247, 3, none⟩ = some (.int .i64 t248) := bcz BK247.out 3 rfl; obtain ⟨hfz84_0, hfz84_1, hfz84_2, hfz84_3⟩ := F4z (blk_frozen BK247.out); obtain ⟨Ao85, co85, eo85⟩ := Kd.R_slice HO_248000.out; subst eo85; have hnb86 := NB232_0.out; have hnc86 := NB0_232.out; have hcz87_0 : w83.cell? ⟨gb232, 0, none⟩ = some (.slice none 0 0) := bcz BK232.out 0 rfl; have hcz87_1 : w83.cell? ⟨gb232, 1, none⟩ = some (.int .i64 0) := bcz BK232.out 1 rfl; have hcz87_2 : w83.cell? ⟨gb232, 2, none⟩ = some (.int .i64 0) := bcz BK232.out 2 rfl; have hcz87_3 : w83.cell? ⟨gb232, 3, none⟩ = some (.int .i64 0) := bcz BK232.out 3 rfl; obtain ⟨hfz87_0, hfz87_1, hfz87_2, hfz87_3⟩ := F4z (blk_frozen BK232.out)))
         refine bodyPost_ret (results_cell_row rfl _ _ gb232 30 #[.slice Ao85 x248000_32.length co85, .int .i64 t236, .int .i64 t245, .int .i64 t281] (0, 0) _ rfl (by (with_reducible repeat (first | refine blk_drewN ?_ _ | refine blk_drew ?_ | refine blk_alloc ?_ _)); refine blk_put (cs := #[.slice Ao85 x248000_32.length co85, .int .i64 t236, .int .i64 t245, .int .i64 0]) ?_ 3 _ rfl; (with_reducible repeat (first | refine blk_drewN ?_ _ | refine blk_drew ?_ | refine blk_alloc ?_ _)); refine blk_put (cs := #[.slice Ao85 x248000_32.length co85, .int .i64 t236, .int .i64 0, .int .i64 0]) ?_ 2 _ rfl; (with_reducible repeat (first | refine blk_drewN ?_ _ | refine blk_drew ?_ | refine blk_alloc ?_ _)); refine blk_put (cs := #[.slice Ao85 x248000_32.length co85, .int .i64 0, .int .i64 0, .int .i64 0]) ?_ 1 _ rfl; (with_reducible repeat (first | refine blk_drewN ?_ _ | refine blk_drew ?_ | refine blk_alloc ?_ _)); refine blk_put (cs := #[.slice none 0 0, .int .i64 0, .int .i64 0, .int .i64 0]) ?_ 0 _ rfl; (with_reducible repeat (first | refine blk_drewN ?_ _ | refine blk_drew ?_ | refine blk_alloc ?_ _)); refine blk_far ?_ NB232_247.out _; (with_reducible repeat (first | refine blk_drewN ?_ _ | refine blk_drew ?_ | refine blk_alloc ?_ _)); exact BK232.out) Try.underlying30 rfl z9_12) rfl ?_
         exact ⟨_, z9_13, by (with_reducible repeat (first | apply Kd.R_alloc | apply Kd.R_drewN | apply Kd.R_drew)); exact Kd.R_mono (Kd.R_far (p := ⟨gb232, 3, none⟩) (Kd.R_far (p := ⟨gb232, 2, none⟩) (Kd.R_far (p := ⟨gb232, 1, none⟩) (Kd.R_far (p := ⟨gb232, 0, none⟩) (Kd.R_far (p := ⟨gb247, 3, none⟩) (Kd.R_types (Kd.R_types HO_248000.out BK247.out z9_14) BK232.out z9_14) (fun _ hk => hk.1.2) (.int .i64 t281)) (fun _ hk => hk.2) (.slice Ao85 x248000_32.length co85)) (fun _ hk => hk.2) (.int .i64 t236)) (fun _ hk => hk.2) (.int .i64 t245)) (fun _ hk => hk.2) (.int .i64 t281)) (fun _ hk => trivial), z9_2, z9_3, z9_1⟩
        ·rw [if_neg c74] at H
         have c74b0 : (t263 == 2) = false := beq_eq_false_iff_ne.mpr c74
         have c74b1 : (t263 != 2) = true := bne_iff_ne.mpr c74
         by_cases c88 : t263 = 3
         ·rw [if_pos c88] at H
          have c88b0 : (t263 == 3) = true := beq_iff_eq.mpr c88
          have c88b1 : (t263 != 3) = false := bne_eq_false_iff_eq.mpr c88
          clear c88
          obtain ⟨y284, hy284⟩ : ∃ y_ : List Int, y_ = (([(-1), 5] : List Int)) := ⟨_, rfl⟩
          replace H : ((spec_l1Cur_among.f s0_0 t264 t265 y284).bind fun bt287 => (if 0 < (x248000_32.length : Int) then (some ((x248000_32.set (0 : Int).toNat bt287.1), t236, t245, t248, bt287.2.1, bt287.2.2)) else (none))) = some (r1, r2, r3, r4, r5, r6) := by first | (rw [hy284]; with_reducible exact H) | (have H2_ := (Option.bind_some _ _).symm.trans H; rw [hy284]; with_reducible exact H2_) | (have H2_ := (Option.bind_some _ _).symm.trans H; with_reducible exact H2_) | with_reducible exact H | (rw [hy284]; exact H) | exact H
          have Ny284 := z9_A hy284
          clear hy284
          replace H := Option.bind_eq_some_iff.mp H
          obtain ⟨⟨t287, t288, t289⟩, A890, H⟩ := H
          (try dsimp only at H)
          have A89 := z9_A A890
          clear A890
          by_cases c90 : 0 < (x248000_32.length : Int)
          ·rw [if_pos c90] at H
           have c90b0 : decide (0 < (x248000_32.length : Int)) = true := decide_eq_true c90
           have c90b1 : decide (0 < x248000_32.length) = true := decide_eq_true (by omega)
           clear c90
           obtain ⟨y290, hy290⟩ : ∃ y_ : List Int, y_ = (x248000_32.set (0 : Int).toNat t287) := ⟨_, rfl⟩
           replace H : (some (y290, t236, t245, t248, t288, t289)) = some (r1, r2, r3, r4, r5, r6) := by first | (rw [hy290]; with_reducible exact H) | (have H2_ := (Option.bind_some _ _).symm.trans H; rw [hy290]; with_reducible exact H2_) | (have H2_ := (Option.bind_some _ _).symm.trans H; with_reducible exact H2_) | with_reducible exact H | (rw [hy290]; exact H) | exact H
           have Ny290 := z9_A hy290
           clear hy290
           simp only [Option.some.injEq, Prod.mk.injEq] at H
           obtain ⟨rfl, rfl, rfl, rfl, rfl, rfl⟩ := H
           try go_wp2_with (first | ((with_reducible refine gate_callee (f := 105) rfl ?_); refine goesL_ (some 53) rfl rfl Try.func105 z9_12 rfl #[.pointer (some ⟨g, 0, none⟩), .int .i64 40] rfl z9_7 ?_; (with_reducible refine (spec_l1Cur_pick.calls g s0_0 x1001_1 x1002_1 40 t263 t264 t265 w0 _ ?side1 ?side2 A46.out).mono ?_); (case side1 => repeat (first | (with_reducible first | exact HI0.out | apply IsS82.alloc | apply IsS82.drewN | apply IsS82.drew | apply IsS82.set_1 | apply IsS82.set_2 | refine IsS82.far ?_ NB0_232.out _ | refine IsS82.far ?_ NB0_247.out _) | exact HI0.out)); (case side2 => repeat (first | (with_reducible first | exact HB.out | apply below_alloc | apply pw_below_drewN | apply below_drew1 | refine below_set ?_ (IsS82.ge HI0.out) | refine below_set ?_ GE232.out | refine below_set ?_ GE247.out) | exact HB.out)); rintro e w92 ⟨rfl, hi, hb, hk⟩; refine ⟨_, rfl, ?_⟩; have n0_ := z9_A (Kd.R_mono (Kd.R_keep (IsS82.apart (show IsS82 w0 _ g s0_0 x1001_1 x1002_1 from by repeat (first | (with_reducible first | exact HI0.out | apply IsS82.alloc | apply IsS82.drewN | apply IsS82.drew | apply IsS82.set_1 | apply IsS82.set_2 | refine IsS82.far ?_ NB0_232.out _ | refine IsS82.far ?_ NB0_247.out _) | exact HI0.out)) z9_5 z9_14) hk (fun _ h => h.2)) (fun _ h => h.1)); have n1_ := z9_A (KeepBut.blk hk (g' := gb232) (o := .cells #[.slice none 0 0, .int .i64 0, .int .i64 0, .int .i64 0] 30 (0, 0)) z9_4 NB232_0.out z9_18); have n2_ := z9_A (KeepBut.blk hk (g' := gb247) (o := .cells #[u248000, .int .i64 t236, .int .i64 t245, .int .i64 t248] 30 (0, 0)) z9_6 NB247_0.out z9_18); have n3_ := z9_A (KeepBut.trans z9_1 hk (.inl rfl)); have n4_ := z9_A (hb); have n5_ := z9_A (hi); clear HO_248000 BK232 BK247 HK HB HI0; revert n0_ n1_ n2_ n3_ n4_ n5_; intro HO_248000 BK232 BK247 HK HB HI0; (try clear hb); (try clear hb2); (try clear hk); (try clear hi)))
           have n0_ := z9_A (Kd.R_drew HO_248000.out)
           have n1_ := z9_A (blk_drew BK232.out)
           have n2_ := z9_A (blk_drew BK247.out)
           have n3_ := z9_A (IsS82.drew HI0.out)
           have n4_ := z9_A (keep_drew HK.out)
           have n5_ := z9_A (below_drew1 HB.out)
           clear HO_248000
           clear BK232
           clear BK247
           clear HI0
           clear HK
           clear HB
           have HO_248000 := n0_
           have BK232 := n1_
           have BK247 := n2_
           have HI0 := n3_
           have HK := n4_
           have HB := n5_
           clear n0_ n1_ n2_ n3_ n4_ n5_
           refine start_ (n := 7) (S := fun w' => w'.cell? ⟨gb247, 0, none⟩ = some (u248000) ∧ w'.cell? ⟨gb247, 1, none⟩ = some (.int .i64 t236) ∧ w'.cell? ⟨gb247, 2, none⟩ = some (.int .i64 t245) ∧ w'.cell? ⟨gb247, 3, none⟩ = some (.int .i64 t248)) (ds := [6]) #[false, false, false, false, false, false, false] z9_12 rfl rfl ⟨bcz BK247.out 0 rfl, bcz BK247.out 1 rfl, bcz BK247.out 2 rfl, bcz BK247.out 3 rfl⟩ (fun hHeld => ?_)
           generalize w92.drew = w93 at HO_248000 BK232 BK247 HI0 HK HB hHeld ⊢
           refine pure_ (i := 0) (N := some 84) (v := ?_) (a' := ?_) #[true, false, false, false, false, false, false] rfl rfl z9_12 (fun _ _ _ h => h) (Or.inl ⟨by rfl, ?_⟩) ?_ ?_
           rotate_left
           ·intro w'
            go_simp
            with_reducible rfl
           rotate_left
           ·simp only [Act.put, List.setIfInBounds_toArray, List.set_cons_zero, List.set_cons_succ, i64_w, i32_w]
            rfl
           refine pure_ (i := 2) (N := some 86) (v := ?_) (a' := ?_) #[true, false, true, false, false, false, false] rfl rfl z9_12 (fun _ _ _ h => h) (Or.inl ⟨by rfl, ?_⟩) ?_ ?_
           rotate_left
           ·intro w'
            go_simp
            with_reducible rfl
           rotate_left
           ·simp only [Act.put, List.setIfInBounds_toArray, List.set_cons_zero, List.set_cons_succ, i64_w, i32_w]
            rfl
           refine take_ (i := 1) (N := some 85) (v := ?_) (a' := ?_) #[true, true, true, false, false, false, false] rfl rfl z9_12 (fun _ _ _ h => h) (Or.inl ⟨by rfl, ?_⟩) hHeld ?_ ?_
           rotate_left
           ·rintro w' ⟨s0, s1, s2, s3⟩
            go_simp
            with_reducible rfl
           rotate_left
           ·simp only [Act.put, List.setIfInBounds_toArray, List.set_cons_zero, List.set_cons_succ, i64_w, i32_w]
            rfl
           refine one_ (i := 3) (N := some 87) #[true, true, true, true, false, false, false] rfl rfl z9_12 z9_14 (fun K hK => ?_)
           refine Kd.R_lit_step (Kd.int .i64) _ 3 ?hg (N := 87) ?hd (xs := ([(-1), 5] : List Int)) (inner := [.int .i64 (-1), .int .i64 5]) (ok := fun _ => True) (okp := fun _ => True) ?hr ?hp (fun _ hk => hk) trivial (Below.refl _ _) (Nat.le_refl _) z9_18 ?_; (case hd => rfl); (case hg => rfl); (case hr => first | (go_simp; done) | (go_simp; rfl)); (case hp => exact (Reps.one (show Kd.M (Kd.int .i64) _ _ _ (-1) [.int .i64 (-1)] from rfl) (Reps.one (show Kd.M (Kd.int .i64) _ _ _ 5 [.int .i64 5] from rfl) (Reps.none _ _))))
           intro v285 w94 ho95 hb hg_ hnew_
           clear hg_ hnew_
           (first | rw [← Ny284.out] at ho95 | (simp only [Int.reduceToNat] at ho95; rw [← Ny284.out] at ho95))
           have n0_ := z9_A (Kd.R_elder' z9_5 (Kd.R_base ho95) hb)
           have n1_ := z9_A (Kd.R_lower (Kd.R_new' ho95 (Kd.R_lt z9_5)) (keep_size (w := w) (g := g) (row := none) z9_1))
           have n2_ := z9_A (blk_below (g := gb232) (o := .cells #[.slice none 0 0, .int .i64 0, .int .i64 0, .int .i64 0] 30 (0, 0)) z9_4 hb)
           have n3_ := z9_A (blk_below (g := gb247) (o := .cells #[u248000, .int .i64 t236, .int .i64 t245, .int .i64 t248] 30 (0, 0)) z9_6 hb)
           have n4_ := z9_A (IsS82.below z9_2 hb)
           have n5_ := z9_A (KeepBut.trans z9_1 (KeepBut.of_below hb g none) (.inl rfl))
           have n6_ := z9_A (below_step z9_3 hb)
           clear HO_248000
           clear BK232
           clear BK247
           clear HI0
           clear HK
           clear HB
           have HO_248000 := n0_
           have HO286 := n1_
           have BK232 := n2_
           have BK247 := n3_
           have HI0 := n4_
           have HK := n5_
           have HB := n6_
           clear n0_ n1_ n2_ n3_ n4_ n5_ n6_
           clear hb ho95
           obtain ⟨Ao96, co96, eo96⟩ := Kd.R_slice HO286.out
           (first | subst eo96 | (injection eo96 with f1_ f2_ f3_; have f4_ := f1_.symm; have f5_ := f3_.symm; clear f1_ f2_ f3_; subst f4_; subst f5_))
           refine hK.out _ _ ⟨bcz BK247.out 0 rfl, bcz BK247.out 1 rfl, bcz BK247.out 2 rfl, bcz BK247.out 3 rfl⟩ (fun hHeld => ?_)
           clear hK K
           refine norm_ (a' := ?_) ?_ ?_
           rotate_left
           ·show Act.put _ (some 87) _ = _
            simp only [Act.put, List.setIfInBounds_toArray, List.set_cons_zero, List.set_cons_succ, i64_w, i32_w]
            rfl
           refine one_ (i := 4) (N := some 88) #[true, true, true, true, true, false, false] rfl rfl z9_12 z9_14 (fun K hK => ?_)
           refine goes_ Try.func82 z9_12 rfl #[.pointer (some ⟨g, 0, none⟩), .slice Ao96 y284.length co96] (by rfl) rfl rfl z9_7 ?_
           with_reducible refine (spec_l1Cur_among.calls g s0_0 t264 t265 _ _ y284 t287 t288 t289 w0 _ ?side1 ?side2 ?side3 ?side4 ?side5 A89.out).mono ?_
           (case side1 => repeat (first | (with_reducible first | exact HI0.out | apply IsS82.alloc | apply IsS82.drewN | apply IsS82.drew | apply IsS82.set_1 | apply IsS82.set_2 | refine IsS82.far ?_ NB0_232.out _ | refine IsS82.far ?_ NB0_247.out _) | exact HI0.out))
           (case side2 => repeat (first | (with_reducible first | exact HB.out | apply below_alloc | apply pw_below_drewN | apply below_drew1 | refine below_set ?_ (IsS82.ge HI0.out) | refine below_set ?_ GE232.out | refine below_set ?_ GE247.out) | exact HB.out))
           (case side3 => have zh := (Kd.R_reads' HO286.out).2.2; exact z9_C)
           (case side4 => exact (Kd.R_reads' HO286.out).2.1)
           (case side5 => exact far_slice (IsS82.own_ne HI0.out HO286.out z9_14))
           rintro e w97 ⟨rfl, hi, hb, hk⟩
           refine ⟨_, rfl, ?_⟩
           have n0_ := z9_A (Kd.R_mono (Kd.R_keep (IsS82.apart (show IsS82 w0 _ g s0_0 t264 t265 from by repeat (first | (with_reducible first | exact HI0.out | apply IsS82.alloc | apply IsS82.drewN | apply IsS82.drew | apply IsS82.set_1 | apply IsS82.set_2 | refine IsS82.far ?_ NB0_232.out _ | refine IsS82.far ?_ NB0_247.out _) | exact HI0.out)) z9_5 z9_14) hk (fun _ h => h.2)) (fun _ h => h.1))
           have n1_ := z9_A (KeepBut.blk hk (g' := gb232) (o := .cells #[.slice none 0 0, .int .i64 0, .int .i64 0, .int .i64 0] 30 (0, 0)) z9_4 NB232_0.out z9_18)
           have n2_ := z9_A (KeepBut.blk hk (g' := gb247) (o := .cells #[u248000, .int .i64 t236, .int .i64 t245, .int .i64 t248] 30 (0, 0)) z9_6 NB247_0.out z9_18)
           have n3_ := z9_A (Kd.R_mono (Kd.R_keep (IsS82.apart (show IsS82 w0 _ g s0_0 t264 t265 from by repeat (first | (with_reducible first | exact HI0.out | apply IsS82.alloc | apply IsS82.drewN | apply IsS82.drew | apply IsS82.set_1 | apply IsS82.set_2 | refine IsS82.far ?_ NB0_232.out _ | refine IsS82.far ?_ NB0_247.out _) | exact HI0.out)) (by (with_reducible repeat (first | apply Kd.R_alloc | apply Kd.R_drewN | apply Kd.R_drew)); exact HO286.out) z9_14) hk (fun _ h => h.2)) (fun _ h => h.1))
           have n4_ := z9_A (KeepBut.trans z9_1 hk (.inl rfl))
           have n5_ := z9_A (hb)
           have n6_ := z9_A (hi)
           clear HO_248000
           clear BK232
           clear BK247
           clear HO286
           clear HK
           clear HB
           clear HI0
           have HO_248000 := n0_
           have BK232 := n1_
           have BK247 := n2_
           have HO286 := n3_
           have HK := n4_
           have HB := n5_
           have HI0 := n6_
           clear n0_ n1_ n2_ n3_ n4_ n5_ n6_
           (try clear hb)
           (try clear hb2)
           (try clear hk)
           (try clear hi)
           have p91 : 0 ≤ (0 : Int) := (by omega)
           have q91 : (0 : Int) < ((x248000_32.length : Int) : Int) := of_decide_eq_true (by first | (with_reducible assumption) | assumption)
           have qi91 : (0 < x248000_32.length) = True := eq_true (by omega)
           obtain ⟨go91, co91, eo91, gb91, gl91, cl91, HG91⟩ := Kd.R_form HO_248000.out (by omega)
           (first | cases eo91 | (injection eo91 with ea_ en_ ec_; (first | subst ea_ | (injection ea_ with ea_; subst ea_)); subst ec_; clear en_))
           have GB91 := z9_A gb91
           have GG91 := z9_A HG91
           clear gb91 gl91 HG91
           obtain ⟨hx91_0, hf91_0⟩ := Kd.R_celln 0 HO_248000.out (0 : Int) p91 q91
           (try rw [show ((0 : Int)).toNat = 0 from rfl] at hx91_0)
           (try simp only [Nat.reduceMul, Nat.zero_mul, Nat.zero_add, Nat.reduceAdd] at hx91_0)
           (try rw [show ((0 : Int)).toNat = 0 from rfl] at hf91_0)
           (try simp only [Nat.reduceMul, Nat.zero_mul, Nat.zero_add, Nat.reduceAdd] at hf91_0)
           replace p91 := eq_true p91
           replace q91 := eq_true q91
           have HN0_go91 := z9_A (show g ≠ go91 from by have h_ := IsS82.own_ne HI0.out HO_248000.out z9_14; intro e_; exact h_ (by rw [e_]; rfl))
           have HP98 := Kd.R_putn HO_248000.out (0 : Int) t287
           rw [← Ny290.out] at HP98
           have HQ98 := z9_A HP98
           clear HP98
           refine hK.out _ _ ⟨bcz BK247.out 0 rfl, bcz BK247.out 1 rfl, bcz BK247.out 2 rfl, bcz BK247.out 3 rfl⟩ (fun hHeld => ?_)
           clear hK K
           refine norm_ (a' := ?_) ?_ ?_
           rotate_left
           ·show Act.put _ (some 88) _ = _
            simp only [Act.put, List.setIfInBounds_toArray, List.set_cons_zero, List.set_cons_succ, i64_w, i32_w]
            rfl
           refine pure_ (i := 5) (N := some 89) (v := ?_) (a' := ?_) #[true, true, true, true, true, true, false] rfl rfl z9_12 (fun _ _ _ h => h) (Or.inl ⟨by rfl, ?_⟩) ?_ ?_
           rotate_left
           ·intro w'
            go_simp
            with_reducible rfl
           rotate_left
           ·simp only [Act.put, List.setIfInBounds_toArray, List.set_cons_zero, List.set_cons_succ, i64_w, i32_w]
            rfl
           refine last_ (i := 6) (N := none) #[true, true, true, true, true, true, true] rfl rfl z9_12 z9_14 (fun K hK => ?_)
           refine skip_ (w1 := ?_) (by rfl) rfl ?_ ?_
           rotate_left
           ·go_simp
            rfl
           refine hK.out _ _ ?_
           clear hK K
           refine done_ z9_12 ?_
           have n0_ : Aside0 (Kd.R (Kd.int .i64) 3 (w97.setCell ⟨go91, 0, none⟩ (.int .i64 t287)) w.heap.size (fun k_ => z9_S k_ Ao96 y284.length co96) (.slice (some ⟨go91, 0, none⟩) x248000_32.length co91) y290) := ⟨by (with_reducible repeat (first | apply Kd.R_alloc | apply Kd.R_drewN | apply Kd.R_drew)); exact Kd.R_mono HQ98.out (fun _ hk => hk.2)⟩
           have n1_ : Aside0 (Kd.R (Kd.int .i64) 3 (w97.setCell ⟨go91, 0, none⟩ (.int .i64 t287)) w.heap.size (fun k_ => z9_S k_ (some ⟨go91, 0, none⟩) x248000_32.length co91) (.slice Ao96 y284.length co96) y284) := ⟨by (with_reducible repeat (first | apply Kd.R_alloc | apply Kd.R_drewN | apply Kd.R_drew)); exact Kd.R_mono (Kd.R_far (p := ⟨go91, 0, none⟩) (Kd.R_mono HO286.out (fun k_ hk => (⟨hk, fun e_ => hk.2 (by rw [e_]; rfl)⟩ : _ ∧ k_ ≠ go91))) (fun _ hk => hk.2) (.int .i64 t287)) (fun _ hk => hk.1.2)⟩
           have n2_ : Aside0 ((w97.setCell ⟨go91, 0, none⟩ (.int .i64 t287)).heap[gb232]? = some (.cells #[.slice none 0 0, .int .i64 0, .int .i64 0, .int .i64 0] 30 (0, 0))) := ⟨by (with_reducible repeat (first | refine blk_drewN ?_ _ | refine blk_drew ?_ | refine blk_alloc ?_ _)); refine blk_far ?_ (by have h_ := Kd.R_ne HO_248000.out BK232.out z9_14; intro e_; exact h_ (by rw [e_]; rfl)) _; (with_reducible repeat (first | refine blk_drewN ?_ _ | refine blk_drew ?_ | refine blk_alloc ?_ _)); exact BK232.out⟩
           have n3_ : Aside0 ((w97.setCell ⟨go91, 0, none⟩ (.int .i64 t287)).heap[gb247]? = some (.cells #[.slice (some ⟨go91, 0, none⟩) x248000_32.length co91, .int .i64 t236, .int .i64 t245, .int .i64 t248] 30 (0, 0))) := ⟨by (with_reducible repeat (first | refine blk_drewN ?_ _ | refine blk_drew ?_ | refine blk_alloc ?_ _)); refine blk_far ?_ (by have h_ := Kd.R_ne HO_248000.out BK247.out z9_14; intro e_; exact h_ (by rw [e_]; rfl)) _; (with_reducible repeat (first | refine blk_drewN ?_ _ | refine blk_drew ?_ | refine blk_alloc ?_ _)); exact BK247.out⟩
           have n4_ : Aside0 (IsS82 w0 (w97.setCell ⟨go91, 0, none⟩ (.int .i64 t287)) g s0_0 t288 t289) := ⟨by repeat (first | (with_reducible first | exact HI0.out | apply IsS82.alloc | apply IsS82.drewN | apply IsS82.drew | apply IsS82.set_1 | apply IsS82.set_2 | refine IsS82.far ?_ HN0_go91.out _ | refine IsS82.far ?_ NB0_232.out _ | refine IsS82.far ?_ NB0_247.out _) | exact HI0.out)⟩
           have n5_ : Aside0 (KeepBut w (w97.setCell ⟨go91, 0, none⟩ (.int .i64 t287)) g none) := ⟨by repeat (first | (with_reducible first | exact HK.out | apply KeepBut.set_ | apply keep_drewN | apply keep_drew | apply keep_alloc | refine keep_far ?_ GB91.out _ | refine keep_far ?_ GW232.out _ | refine keep_far ?_ GW247.out _) | exact HK.out)⟩
           have n6_ : Aside0 (Below w0.heap.size w0 (w97.setCell ⟨go91, 0, none⟩ (.int .i64 t287))) := ⟨by repeat (first | (with_reducible first | exact HB.out | apply below_alloc | apply pw_below_drewN | apply below_drew1 | refine below_set ?_ (Nat.le_trans HL.out GB91.out) | refine below_set ?_ (IsS82.ge HI0.out) | refine below_set ?_ GE232.out | refine below_set ?_ GE247.out) | exact HB.out)⟩
           (try clear HO_248000)
           (try clear HO286)
           (try clear BK232)
           (try clear BK247)
           (try clear HI0)
           (try clear HK)
           (try clear HB)
           generalize (w97.setCell ⟨go91, 0, none⟩ (.int .i64 t287)) = w99 at n0_ n1_ n2_ n3_ n4_ n5_ n6_ ⊢
           have HO_248000 := n0_
           have HO286 := n1_
           have BK232 := n2_
           have BK247 := n3_
           have HI0 := n4_
           have HK := n5_
           have HB := n6_
           clear n0_ n1_ n2_ n3_ n4_ n5_ n6_
           have hnb100 := NB247_232.out
           have hnc100 := NB232_247.out
           have hnb101 := NB247_0.out
           have hnc101 := NB0_247.out
           have hcz102_0 : w99.cell? ⟨gb247, 0, none⟩ = some (.slice (some ⟨go91, 0, none⟩) x248000_32.length co91) := bcz BK247.out 0 rfl
           have hcz102_1 : w99.cell? ⟨gb247, 1, none⟩ = some (.int .i64 t236) := bcz BK247.out 1 rfl
           have hcz102_2 : w99.cell? ⟨gb247, 2, none⟩ = some (.int .i64 t245) := bcz BK247.out 2 rfl
           have hcz102_3 : w99.cell? ⟨gb247, 3, none⟩ = some (.int .i64 t248) := bcz BK247.out 3 rfl
           obtain ⟨hfz102_0, hfz102_1, hfz102_2, hfz102_3⟩ := F4z (blk_frozen BK247.out)
           have hnb103 := NB232_0.out
           have hnc103 := NB0_232.out
           have hcz104_0 : w99.cell? ⟨gb232, 0, none⟩ = some (.slice none 0 0) := bcz BK232.out 0 rfl
           have hcz104_1 : w99.cell? ⟨gb232, 1, none⟩ = some (.int .i64 0) := bcz BK232.out 1 rfl
           have hcz104_2 : w99.cell? ⟨gb232, 2, none⟩ = some (.int .i64 0) := bcz BK232.out 2 rfl
           have hcz104_3 : w99.cell? ⟨gb232, 3, none⟩ = some (.int .i64 0) := bcz BK232.out 3 rfl
           obtain ⟨hfz104_0, hfz104_1, hfz104_2, hfz104_3⟩ := F4z (blk_frozen BK232.out)
           try go_wp2
           refine bodyPost_ret (results_cell_row rfl _ _ gb232 30 #[.slice (some ⟨go91, 0, none⟩) x248000_32.length co91, .int .i64 t236, .int .i64 t245, .int .i64 t248] (0, 0) _ rfl (by (with_reducible repeat (first | refine blk_drewN ?_ _ | refine blk_drew ?_ | refine blk_alloc ?_ _)); refine blk_put (cs := #[.slice (some ⟨go91, 0, none⟩) x248000_32.length co91, .int .i64 t236, .int .i64 t245, .int .i64 0]) ?_ 3 _ rfl; (with_reducible repeat (first | refine blk_drewN ?_ _ | refine blk_drew ?_ | refine blk_alloc ?_ _)); refine blk_put (cs := #[.slice (some ⟨go91, 0, none⟩) x248000_32.length co91, .int .i64 t236, .int .i64 0, .int .i64 0]) ?_ 2 _ rfl; (with_reducible repeat (first | refine blk_drewN ?_ _ | refine blk_drew ?_ | refine blk_alloc ?_ _)); refine blk_put (cs := #[.slice (some ⟨go91, 0, none⟩) x248000_32.length co91, .int .i64 0, .int .i64 0, .int .i64 0]) ?_ 1 _ rfl; (with_reducible repeat (first | refine blk_drewN ?_ _ | refine blk_drew ?_ | refine blk_alloc ?_ _)); refine blk_put (cs := #[.slice none 0 0, .int .i64 0, .int .i64 0, .int .i64 0]) ?_ 0 _ rfl; (with_reducible repeat (first | refine blk_drewN ?_ _ | refine blk_drew ?_ | refine blk_alloc ?_ _)); exact BK232.out) Try.underlying30 rfl z9_12) rfl ?_
           exact ⟨_, z9_13, by (with_reducible repeat (first | apply Kd.R_alloc | apply Kd.R_drewN | apply Kd.R_drew)); exact Kd.R_mono (Kd.R_far (p := ⟨gb232, 3, none⟩) (Kd.R_far (p := ⟨gb232, 2, none⟩) (Kd.R_far (p := ⟨gb232, 1, none⟩) (Kd.R_far (p := ⟨gb232, 0, none⟩) (Kd.R_types HO_248000.out BK232.out z9_14) (fun _ hk => hk.2) (.slice (some ⟨go91, 0, none⟩) x248000_32.length co91)) (fun _ hk => hk.2) (.int .i64 t236)) (fun _ hk => hk.2) (.int .i64 t245)) (fun _ hk => hk.2) (.int .i64 t248)) (fun _ hk => trivial), z9_2, z9_3, z9_1⟩
          ·rw [if_neg c90] at H
           exact absurd H z9_18
         ·rw [if_neg c88] at H
          have c88b0 : (t263 == 3) = false := beq_eq_false_iff_ne.mpr c88
          have c88b1 : (t263 != 3) = true := bne_iff_ne.mpr c88
          by_cases c105 : t263 = 4
          ·rw [if_pos c105] at H
           have c105b0 : (t263 == 4) = true := beq_iff_eq.mpr c105
           have c105b1 : (t263 != 4) = false := bne_eq_false_iff_eq.mpr c105
           clear c105
           have H' := z9_A H
           clear H
           go_wp2_with (first | ((with_reducible refine gate_callee (f := 105) rfl ?_); refine goesL_ (some 53) rfl rfl Try.func105 z9_12 rfl #[.pointer (some ⟨g, 0, none⟩), .int .i64 40] rfl z9_7 ?_; (with_reducible refine (spec_l1Cur_pick.calls g s0_0 x1001_1 x1002_1 40 t263 t264 t265 w0 _ ?side1 ?side2 A46.out).mono ?_); (case side1 => repeat (first | (with_reducible first | exact HI0.out | apply IsS82.alloc | apply IsS82.drewN | apply IsS82.drew | apply IsS82.set_1 | apply IsS82.set_2 | refine IsS82.far ?_ NB0_232.out _ | refine IsS82.far ?_ NB0_247.out _) | exact HI0.out)); (case side2 => repeat (first | (with_reducible first | exact HB.out | apply below_alloc | apply pw_below_drewN | apply below_drew1 | refine below_set ?_ (IsS82.ge HI0.out) | refine below_set ?_ GE232.out | refine below_set ?_ GE247.out) | exact HB.out)); rintro e w106 ⟨rfl, hi, hb, hk⟩; refine ⟨_, rfl, ?_⟩; have n0_ := z9_A (Kd.R_mono (Kd.R_keep (IsS82.apart (show IsS82 w0 _ g s0_0 x1001_1 x1002_1 from by repeat (first | (with_reducible first | exact HI0.out | apply IsS82.alloc | apply IsS82.drewN | apply IsS82.drew | apply IsS82.set_1 | apply IsS82.set_2 | refine IsS82.far ?_ NB0_232.out _ | refine IsS82.far ?_ NB0_247.out _) | exact HI0.out)) z9_5 z9_14) hk (fun _ h => h.2)) (fun _ h => h.1)); have n1_ := z9_A (KeepBut.blk hk (g' := gb232) (o := .cells #[.slice none 0 0, .int .i64 0, .int .i64 0, .int .i64 0] 30 (0, 0)) z9_4 NB232_0.out z9_18); have n2_ := z9_A (KeepBut.blk hk (g' := gb247) (o := .cells #[u248000, .int .i64 t236, .int .i64 t245, .int .i64 t248] 30 (0, 0)) z9_6 NB247_0.out z9_18); have n3_ := z9_A (KeepBut.trans z9_1 hk (.inl rfl)); have n4_ := z9_A (hb); have n5_ := z9_A (hi); clear HO_248000 BK232 BK247 HK HB HI0; revert n0_ n1_ n2_ n3_ n4_ n5_; intro HO_248000 BK232 BK247 HK HB HI0; (try clear hb); (try clear hb2); (try clear hk); (try clear hi)))
           go_loopg [] kj32 (fun kq w' => ∃ (x248000_3 : List Int) (u248000 : Value), Aside0 (spec_l1Cur_market.l1 kq s0_0 t264 t265 x248000_3 t236 t245 t248 = some (r1, r2, r3, r4, r5, r6)) ∧ Aside0 (kq ≤ kj32) ∧ Aside0 (Kd.R (Kd.int .i64) 3 w' w.heap.size (fun _ => True) u248000 x248000_3) ∧ Aside0 (w'.heap[gb232]? = some (.cells #[(.slice none 0 0), .int .i64 0, .int .i64 0, .int .i64 0] 30 (0, 0))) ∧ Aside0 (w'.heap[gb247]? = some (.cells #[u248000, .int .i64 t236, .int .i64 t245, .int .i64 t248] 30 (0, 0))) ∧ Aside0 (IsS82 w0 w' g s0_0 t264 t265) ∧ Aside0 (KeepBut w w' g none) ∧ Aside0 (Below w0.heap.size w0 w'))
           case atStart => exact ⟨(x248000_32), (u248000), H', ⟨Nat.le_refl _⟩, ⟨z9_5⟩, ⟨z9_4⟩, ⟨z9_6⟩, ⟨z9_2⟩, ⟨z9_1⟩, ⟨z9_3⟩⟩
           case round =>
            clear H'
            (try clear c5); (try clear c6); (try clear c7); (try clear c9); (try clear p9); (try clear q9); (try clear hx9); (try clear qi9); (try clear hf9); (try clear c47); (try clear c47b0); (try clear c47b1); (try clear c54); (try clear c55); (try clear c58); (try clear c60); (try clear c60b0); (try clear c60b1); (try clear c63); (try clear c64); (try clear p64); (try clear c72); (try clear c74); (try clear c74b0); (try clear c74b1); (try clear c77); (try clear c78); (try clear c82); (try clear c86); (try clear c88); (try clear c88b0); (try clear c88b1); (try clear c90); (try clear c90b0); (try clear c90b1); (try clear p91); (try clear q91); (try clear hx91); (try clear qi91); (try clear hf91); (try clear c100); (try clear c101); (try clear c103); (try clear c105); (try clear c105b0); (try clear c105b1); (try clear hcz102_0); (try clear hcz102_1); (try clear hcz102_2); (try clear hcz102_3); (try clear hcz104_0); (try clear hcz104_1); (try clear hcz104_2); (try clear hcz104_3); (try clear hcz56_0); (try clear hcz56_1); (try clear hcz56_2); (try clear hcz56_3); (try clear hcz59_0); (try clear hcz59_1); (try clear hcz59_2); (try clear hcz59_3); (try clear hcz65_0); (try clear hcz65_1); (try clear hcz65_2); (try clear hcz65_3); (try clear hcz70_0); (try clear hcz70_1); (try clear hcz70_2); (try clear hcz70_3); (try clear hcz73_0); (try clear hcz73_1); (try clear hcz73_2); (try clear hcz73_3); (try clear hcz79_0); (try clear hcz79_1); (try clear hcz79_2); (try clear hcz79_3); (try clear hcz84_0); (try clear hcz84_1); (try clear hcz84_2); (try clear hcz84_3); (try clear hcz87_0); (try clear hcz87_1); (try clear hcz87_2); (try clear hcz87_3); (try clear hfz102_0); (try clear hfz102_1); (try clear hfz102_2); (try clear hfz102_3); (try clear hfz104_0); (try clear hfz104_1); (try clear hfz104_2); (try clear hfz104_3); (try clear hfz56_0); (try clear hfz56_1); (try clear hfz56_2); (try clear hfz56_3); (try clear hfz59_0); (try clear hfz59_1); (try clear hfz59_2); (try clear hfz59_3); (try clear hfz65_0); (try clear hfz65_1); (try clear hfz65_2); (try clear hfz65_3); (try clear hfz70_0); (try clear hfz70_1); (try clear hfz70_2); (try clear hfz70_3); (try clear hfz73_0); (try clear hfz73_1); (try clear hfz73_2); (try clear hfz73_3); (try clear hfz79_0); (try clear hfz79_1); (try clear hfz79_2); (try clear hfz79_3); (try clear hfz84_0); (try clear hfz84_1); (try clear hfz84_2); (try clear hfz84_3); (try clear hfz87_0); (try clear hfz87_1); (try clear hfz87_2); (try clear hfz87_3); (try clear hx91_0); (try clear p91); (try clear q91)
            obtain ⟨x248000_3, u248000, HA, HK3, HO_248000, BK232, BK247, HI0, HK, HB⟩ := hrel
            cases gk with
            | zero => exact absurd HA.out (by simp [spec_l1Cur_market.l1])
            | succ k3 =>
             have H := HA.out
             clear HA
             simp only [spec_l1Cur_market.l1] at H
             by_cases c107 : (x248000_3.length : Int) < 10
             ·rw [if_pos c107] at H
              have c107b0 : decide ((x248000_3.length : Int) < 10) = true := decide_eq_true c107
              have c107b1 : decide (x248000_3.length < 10) = true := decide_eq_true (by omega)
              clear c107
              by_cases c108 : x248000_3.length < 17592186044416
              ·rw [if_pos c108] at H
               have LMc108 := z9_A c108
               clear c108
               obtain ⟨y291, hy291⟩ : ∃ y_ : List Int, y_ = (x248000_3 ++ [1]) := ⟨_, rfl⟩
               replace H : (spec_l1Cur_market.l1 k3 s0_0 t264 t265 y291 t236 t245 t248) = some (r1, r2, r3, r4, r5, r6) := by first | (rw [hy291]; with_reducible exact H) | (have H2_ := (Option.bind_some _ _).symm.trans H; rw [hy291]; with_reducible exact H2_) | (have H2_ := (Option.bind_some _ _).symm.trans H; with_reducible exact H2_) | with_reducible exact H | (rw [hy291]; exact H) | exact H
               have Ny291 := z9_A hy291
               clear hy291
               have H' := z9_A H
               clear H
               have hnb109 := NB247_232.out
               have hnc109 := NB232_247.out
               have hnb110 := NB247_0.out
               have hnc110 := NB0_247.out
               have hcz111_0 : wr.cell? ⟨gb247, 0, none⟩ = some (u248000) := bcz BK247.out 0 rfl
               have hcz111_1 : wr.cell? ⟨gb247, 1, none⟩ = some (.int .i64 t236) := bcz BK247.out 1 rfl
               have hcz111_2 : wr.cell? ⟨gb247, 2, none⟩ = some (.int .i64 t245) := bcz BK247.out 2 rfl
               have hcz111_3 : wr.cell? ⟨gb247, 3, none⟩ = some (.int .i64 t248) := bcz BK247.out 3 rfl
               obtain ⟨hfz111_0, hfz111_1, hfz111_2, hfz111_3⟩ := F4z (blk_frozen BK247.out)
               obtain ⟨Ao112, co112, eo112⟩ := Kd.R_slice HO_248000.out
               subst eo112
               go_wp2_with (first | ((with_reducible refine gate_builtin (b := .append) (xs := #[.tmp 97, .tmp 98]) rfl ?_); at_builtin; refine Kd.R_append (Kd.int .i64) w.heap.size rfl (.tmp 97) (.tmp 98) 22 3 (.int .i64 0) 8 rfl Try.underlying22 info3 rfl z9_14 (by omega) (.slice Ao112 x248000_3.length co112) x248000_3 1 [.int .i64 1] (fun _ => True) (fun _ => False) rfl rfl ?aP (fun _ hk => hk.elim) ?aF ?aO (Below.refl _ _) ?aS ?aL ?_; (case aP => exact rfl); (case aF => exact (fun _ _ => trivial)); (case aO => exact z9_5); (case aS => exact (keep_size (w := w) (g := g) (row := none) z9_1)); (case aL => have := LMc108.out; omega); intro v292 w113 ho hb hg hat; rw [← Ny291.out] at ho; have n0_ := z9_A (blk_grown (g := gb232) (o := .cells #[.slice none 0 0, .int .i64 0, .int .i64 0, .int .i64 0] 30 (0, 0)) z9_4 hg (Kd.R_ne HO_248000.out BK232.out z9_14)); have n1_ := z9_A (blk_grown (g := gb247) (o := .cells #[.slice Ao112 x248000_3.length co112, .int .i64 t236, .int .i64 t245, .int .i64 t248] 30 (0, 0)) z9_6 hg (Kd.R_ne HO_248000.out BK247.out z9_14)); have n2_ := z9_A (IsS82.grown z9_2 hg (IsS82.own_ne HI0.out HO_248000.out z9_14)); have n3_ := z9_A (below_weaken z9_3 HL.out hb); have n4_ := z9_A (KeepBut.trans z9_1 (KeepBut.of_grown hg g) (Kd.R_base2 HO_248000.out)); have n5_ := z9_A (ho); clear BK232 BK247 HI0 HB HK HO_248000; revert n0_ n1_ n2_ n3_ n4_ n5_; intro BK232 BK247 HI0 HB HK HO293; clear ho hb hg hat; obtain ⟨Ao114, co114, eo114⟩ := Kd.R_slice HO293.out; subst eo114; have hcz115_0 : w113.cell? ⟨gb247, 0, none⟩ = some (.slice Ao112 x248000_3.length co112) := bcz BK247.out 0 rfl; have hcz115_1 : w113.cell? ⟨gb247, 1, none⟩ = some (.int .i64 t236) := bcz BK247.out 1 rfl; have hcz115_2 : w113.cell? ⟨gb247, 2, none⟩ = some (.int .i64 t245) := bcz BK247.out 2 rfl; have hcz115_3 : w113.cell? ⟨gb247, 3, none⟩ = some (.int .i64 t248) := bcz BK247.out 3 rfl; obtain ⟨hfz115_0, hfz115_1, hfz115_2, hfz115_3⟩ := F4z (blk_frozen BK247.out)))
               go_roundg k3
               case measure => have := HK1.out; have := HJ32.out; have := HK3.out; omega
               case rel => exact ⟨(y291), (.slice Ao114 y291.length co114), H', ⟨by have := HK1.out; have := HJ32.out; have := HK3.out; omega⟩, ⟨by (with_reducible repeat (first | apply Kd.R_alloc | apply Kd.R_drewN | apply Kd.R_drew)); exact Kd.R_mono (Kd.R_far (p := ⟨gb247, 0, none⟩) (Kd.R_types HO293.out BK247.out z9_14) (fun _ hk => hk.2) (.slice Ao114 y291.length co114)) (fun _ hk => trivial)⟩, ⟨z9_16⟩, ⟨by (with_reducible repeat (first | refine blk_drewN ?_ _ | refine blk_drew ?_ | refine blk_alloc ?_ _)); refine blk_put (cs := #[.slice Ao112 x248000_3.length co112, .int .i64 t236, .int .i64 t245, .int .i64 t248]) ?_ 0 _ rfl; (with_reducible repeat (first | refine blk_drewN ?_ _ | refine blk_drew ?_ | refine blk_alloc ?_ _)); exact BK247.out⟩, ⟨z9_2⟩, ⟨z9_1⟩, ⟨z9_3⟩⟩
              ·rw [if_neg c108] at H
               exact absurd H z9_18
             ·rw [if_neg c107] at H
              have c107b0 : decide ((x248000_3.length : Int) < 10) = false := decide_eq_false c107
              have c107b1 : decide (x248000_3.length < 10) = false := decide_eq_false (by omega)
              clear c107
              simp only [Option.some.injEq, Prod.mk.injEq] at H
              obtain ⟨rfl, rfl, rfl, rfl, rfl, rfl⟩ := H
              have hnb116 := NB247_232.out
              have hnc116 := NB232_247.out
              have hnb117 := NB247_0.out
              have hnc117 := NB0_247.out
              have hcz118_0 : wr.cell? ⟨gb247, 0, none⟩ = some (u248000) := bcz BK247.out 0 rfl
              have hcz118_1 : wr.cell? ⟨gb247, 1, none⟩ = some (.int .i64 t236) := bcz BK247.out 1 rfl
              have hcz118_2 : wr.cell? ⟨gb247, 2, none⟩ = some (.int .i64 t245) := bcz BK247.out 2 rfl
              have hcz118_3 : wr.cell? ⟨gb247, 3, none⟩ = some (.int .i64 t248) := bcz BK247.out 3 rfl
              obtain ⟨hfz118_0, hfz118_1, hfz118_2, hfz118_3⟩ := F4z (blk_frozen BK247.out)
              obtain ⟨Ao119, co119, eo119⟩ := Kd.R_slice HO_248000.out
              subst eo119
              have hnb120 := NB232_0.out
              have hnc120 := NB0_232.out
              have hcz121_0 : wr.cell? ⟨gb232, 0, none⟩ = some (.slice none 0 0) := bcz BK232.out 0 rfl
              have hcz121_1 : wr.cell? ⟨gb232, 1, none⟩ = some (.int .i64 0) := bcz BK232.out 1 rfl
              have hcz121_2 : wr.cell? ⟨gb232, 2, none⟩ = some (.int .i64 0) := bcz BK232.out 2 rfl
              have hcz121_3 : wr.cell? ⟨gb232, 3, none⟩ = some (.int .i64 0) := bcz BK232.out 3 rfl
              obtain ⟨hfz121_0, hfz121_1, hfz121_2, hfz121_3⟩ := F4z (blk_frozen BK232.out)
              go_wp2
              refine bodyPost_ret (results_cell_row rfl _ _ gb232 30 #[.slice Ao119 x248000_3.length co119, .int .i64 t236, .int .i64 t245, .int .i64 t248] (0, 0) _ rfl (by (with_reducible repeat (first | refine blk_drewN ?_ _ | refine blk_drew ?_ | refine blk_alloc ?_ _)); refine blk_put (cs := #[.slice Ao119 x248000_3.length co119, .int .i64 t236, .int .i64 t245, .int .i64 0]) ?_ 3 _ rfl; (with_reducible repeat (first | refine blk_drewN ?_ _ | refine blk_drew ?_ | refine blk_alloc ?_ _)); refine blk_put (cs := #[.slice Ao119 x248000_3.length co119, .int .i64 t236, .int .i64 0, .int .i64 0]) ?_ 2 _ rfl; (with_reducible repeat (first | refine blk_drewN ?_ _ | refine blk_drew ?_ | refine blk_alloc ?_ _)); refine blk_put (cs := #[.slice Ao119 x248000_3.length co119, .int .i64 0, .int .i64 0, .int .i64 0]) ?_ 1 _ rfl; (with_reducible repeat (first | refine blk_drewN ?_ _ | refine blk_drew ?_ | refine blk_alloc ?_ _)); refine blk_put (cs := #[.slice none 0 0, .int .i64 0, .int .i64 0, .int .i64 0]) ?_ 0 _ rfl; (with_reducible repeat (first | refine blk_drewN ?_ _ | refine blk_drew ?_ | refine blk_alloc ?_ _)); exact BK232.out) Try.underlying30 rfl z9_12) rfl ?_
              exact ⟨_, z9_13, by (with_reducible repeat (first | apply Kd.R_alloc | apply Kd.R_drewN | apply Kd.R_drew)); exact Kd.R_mono (Kd.R_far (p := ⟨gb232, 3, none⟩) (Kd.R_far (p := ⟨gb232, 2, none⟩) (Kd.R_far (p := ⟨gb232, 1, none⟩) (Kd.R_far (p := ⟨gb232, 0, none⟩) (Kd.R_types HO_248000.out BK232.out z9_14) (fun _ hk => hk.2) (.slice Ao119 x248000_3.length co119)) (fun _ hk => hk.2) (.int .i64 t236)) (fun _ hk => hk.2) (.int .i64 t245)) (fun _ hk => hk.2) (.int .i64 t248)) (fun _ hk => trivial), z9_2, z9_3, z9_1⟩
          ·rw [if_neg c105] at H
           have c105b0 : (t263 == 4) = false := beq_eq_false_iff_ne.mpr c105
           have c105b1 : (t263 != 4) = true := bne_iff_ne.mpr c105
           simp only [Option.some.injEq, Prod.mk.injEq] at H
           obtain ⟨rfl, rfl, rfl, rfl, rfl, rfl⟩ := H
           go_wp2_with (first | ((with_reducible refine gate_callee (f := 105) rfl ?_); refine goesL_ (some 53) rfl rfl Try.func105 z9_12 rfl #[.pointer (some ⟨g, 0, none⟩), .int .i64 40] rfl z9_7 ?_; (with_reducible refine (spec_l1Cur_pick.calls g s0_0 x1001_1 x1002_1 40 t263 t264 t265 w0 _ ?side1 ?side2 A46.out).mono ?_); (case side1 => repeat (first | (with_reducible first | exact HI0.out | apply IsS82.alloc | apply IsS82.drewN | apply IsS82.drew | apply IsS82.set_1 | apply IsS82.set_2 | refine IsS82.far ?_ NB0_232.out _ | refine IsS82.far ?_ NB0_247.out _) | exact HI0.out)); (case side2 => repeat (first | (with_reducible first | exact HB.out | apply below_alloc | apply pw_below_drewN | apply below_drew1 | refine below_set ?_ (IsS82.ge HI0.out) | refine below_set ?_ GE232.out | refine below_set ?_ GE247.out) | exact HB.out)); rintro e w122 ⟨rfl, hi, hb, hk⟩; refine ⟨_, rfl, ?_⟩; have n0_ := z9_A (Kd.R_mono (Kd.R_keep (IsS82.apart (show IsS82 w0 _ g s0_0 x1001_1 x1002_1 from by repeat (first | (with_reducible first | exact HI0.out | apply IsS82.alloc | apply IsS82.drewN | apply IsS82.drew | apply IsS82.set_1 | apply IsS82.set_2 | refine IsS82.far ?_ NB0_232.out _ | refine IsS82.far ?_ NB0_247.out _) | exact HI0.out)) z9_5 z9_14) hk (fun _ h => h.2)) (fun _ h => h.1)); have n1_ := z9_A (KeepBut.blk hk (g' := gb232) (o := .cells #[.slice none 0 0, .int .i64 0, .int .i64 0, .int .i64 0] 30 (0, 0)) z9_4 NB232_0.out z9_18); have n2_ := z9_A (KeepBut.blk hk (g' := gb247) (o := .cells #[u248000, .int .i64 t236, .int .i64 t245, .int .i64 t248] 30 (0, 0)) z9_6 NB247_0.out z9_18); have n3_ := z9_A (KeepBut.trans z9_1 hk (.inl rfl)); have n4_ := z9_A (hb); have n5_ := z9_A (hi); clear HO_248000 BK232 BK247 HK HB HI0; revert n0_ n1_ n2_ n3_ n4_ n5_; intro HO_248000 BK232 BK247 HK HB HI0; (try clear hb); (try clear hb2); (try clear hk); (try clear hi); have hnb123 := NB247_232.out; have hnc123 := NB232_247.out; have hnb124 := NB247_0.out; have hnc124 := NB0_247.out; have hcz125_0 : w122.cell? ⟨gb247, 0, none⟩ = some (u248000) := bcz BK247.out 0 rfl; have hcz125_1 : w122.cell? ⟨gb247, 1, none⟩ = some (.int .i64 t236) := bcz BK247.out 1 rfl; have hcz125_2 : w122.cell? ⟨gb247, 2, none⟩ = some (.int .i64 t245) := bcz BK247.out 2 rfl; have hcz125_3 : w122.cell? ⟨gb247, 3, none⟩ = some (.int .i64 t248) := bcz BK247.out 3 rfl; obtain ⟨hfz125_0, hfz125_1, hfz125_2, hfz125_3⟩ := F4z (blk_frozen BK247.out); obtain ⟨Ao126, co126, eo126⟩ := Kd.R_slice HO_248000.out; subst eo126; have hnb127 := NB232_0.out; have hnc127 := NB0_232.out; have hcz128_0 : w122.cell? ⟨gb232, 0, none⟩ = some (.slice none 0 0) := bcz BK232.out 0 rfl; have hcz128_1 : w122.cell? ⟨gb232, 1, none⟩ = some (.int .i64 0) := bcz BK232.out 1 rfl; have hcz128_2 : w122.cell? ⟨gb232, 2, none⟩ = some (.int .i64 0) := bcz BK232.out 2 rfl; have hcz128_3 : w122.cell? ⟨gb232, 3, none⟩ = some (.int .i64 0) := bcz BK232.out 3 rfl; obtain ⟨hfz128_0, hfz128_1, hfz128_2, hfz128_3⟩ := F4z (blk_frozen BK232.out)))
           refine bodyPost_ret (results_cell_row rfl _ _ gb232 30 #[.slice Ao126 x248000_32.length co126, .int .i64 t236, .int .i64 t245, .int .i64 t248] (0, 0) _ rfl (by (with_reducible repeat (first | refine blk_drewN ?_ _ | refine blk_drew ?_ | refine blk_alloc ?_ _)); refine blk_put (cs := #[.slice Ao126 x248000_32.length co126, .int .i64 t236, .int .i64 t245, .int .i64 0]) ?_ 3 _ rfl; (with_reducible repeat (first | refine blk_drewN ?_ _ | refine blk_drew ?_ | refine blk_alloc ?_ _)); refine blk_put (cs := #[.slice Ao126 x248000_32.length co126, .int .i64 t236, .int .i64 0, .int .i64 0]) ?_ 2 _ rfl; (with_reducible repeat (first | refine blk_drewN ?_ _ | refine blk_drew ?_ | refine blk_alloc ?_ _)); refine blk_put (cs := #[.slice Ao126 x248000_32.length co126, .int .i64 0, .int .i64 0, .int .i64 0]) ?_ 1 _ rfl; (with_reducible repeat (first | refine blk_drewN ?_ _ | refine blk_drew ?_ | refine blk_alloc ?_ _)); refine blk_put (cs := #[.slice none 0 0, .int .i64 0, .int .i64 0, .int .i64 0]) ?_ 0 _ rfl; (with_reducible repeat (first | refine blk_drewN ?_ _ | refine blk_drew ?_ | refine blk_alloc ?_ _)); exact BK232.out) Try.underlying30 rfl z9_12) rfl ?_
           exact ⟨_, z9_13, by (with_reducible repeat (first | apply Kd.R_alloc | apply Kd.R_drewN | apply Kd.R_drew)); exact Kd.R_mono (Kd.R_far (p := ⟨gb232, 3, none⟩) (Kd.R_far (p := ⟨gb232, 2, none⟩) (Kd.R_far (p := ⟨gb232, 1, none⟩) (Kd.R_far (p := ⟨gb232, 0, none⟩) (Kd.R_types HO_248000.out BK232.out z9_14) (fun _ hk => hk.2) (.slice Ao126 x248000_32.length co126)) (fun _ hk => hk.2) (.int .i64 t236)) (fun _ hk => hk.2) (.int .i64 t245)) (fun _ hk => hk.2) (.int .i64 t248)) (fun _ hk => trivial), z9_2, z9_3, z9_1⟩

end Go.Proofs.Ytiniocecpgjikaa.PFnProfits
