-- A text of this session (its program hook.py, over the kit's print.py): not a print of print.sh
-- THIN: one blank for two
import Derived.Test.YtiniocecpgjikaaPFnProfitsx0
import Derived.Test.YtiniocecpgjikaaPFnProfitsx4
import Derived.Test.YtiniocecpgjikaaPFnProfitsx5
namespace Go.Proofs.Ytiniocecpgjikaa.PFnProfits
open Go.RowKit Go.Proofs.YtiniocecpgjikaaW.PrintWords Go.Proofs.YtiniocecpgjikaaW.PrintLast Go.Proofs.YtiniocecpgjikaaW.PrintMore
attribute [local go_sem] max2_int min2_int max_two min_two max_three min_three max_four min_four   -- for this text's walks alone
set_option linter.unusedVariables false
set_option linter.unusedSimpArgs false

-- SQUEEZED
private theorem bcz {w : World} {g : Nat} {t : TypeId} {cs : Array Value} (h : w.heap[g]? = some (.cells cs t (0, 0))) (i : Nat) {v : Value} (e : cs[i]? = some v) : w.cell? ⟨g, i, none⟩ = some v := (blk_cell h i).trans e
theorem z6_A {p : Prop} (h : p) : Aside0 p := Aside0.mk h
theorem z6_C {p : Prop} (h : p := by repeat (first | exact zh | (with_reducible refine Kd.C_alloc ?_ _) | (with_reducible refine Kd.C_drewN ?_ _) | (with_reducible refine Kd.C_drew ?_))) : p := h
theorem z6_1 {p : Prop} (h : p := by repeat (first | (with_reducible first | exact HB.out | apply below_alloc | apply pw_below_drewN | apply below_drew1) | exact HB.out)) : p := h
theorem z6_2 {p : Prop} (h : p := by repeat (first | (with_reducible first | exact HB.out | apply below_alloc | apply pw_below_drewN | apply below_drew1 | refine below_set ?_ GE167.out | refine below_set ?_ GE168.out) | exact HB.out)) : p := h
theorem z6_3 {p : Prop} (h : p := by kernel_rfl) : p := h
theorem z6_4 {p : Prop} (h : p := by (try simp only [List.map_toArray, List.map_cons, List.map_nil]); first | done | rfl | (simp only [List.length_drop, List.length_take]; rfl)) : p := h
theorem z6_5 {p : Prop} (h : p := by (with_reducible repeat (first | refine blk_drewN ?_ _ | refine blk_drew ?_ | refine blk_alloc ?_ _)); exact BK167.out) : p := h
theorem z6_6 {p : Prop} (h : p := by repeat (first | (with_reducible first | exact HB.out | apply below_alloc | apply pw_below_drewN | apply below_drew1 | refine below_set ?_ GE172.out) | exact HB.out)) : p := h
theorem z6_7 {p : Prop} (h : p := by repeat (first | (with_reducible first | exact HB.out | apply below_alloc | apply pw_below_drewN | apply below_drew1 | refine below_set ?_ GE167.out) | exact HB.out)) : p := h
theorem z6_8 {p : Prop} (h : p := by first | rfl | (simp; done) | (simp [*]; done)) : p := h
theorem z6_9 {p : Prop} (h : p := by rfl) : p := h
theorem z6_10 {p : Prop} (h : p := by (with_reducible repeat (first | refine blk_drewN ?_ _ | refine blk_drew ?_ | refine blk_alloc ?_ _)); exact BK172.out) : p := h
theorem z6_11 {p : Prop} (h : p := by (with_reducible repeat (first | refine blk_drewN ?_ _ | refine blk_drew ?_ | refine blk_alloc ?_ _)); exact BK168.out) : p := h
theorem z6_12 {p : Prop} (h : p := by first | rfl | (simp [errW_none, errW_some] <;> rfl) | (simp [*, errW_none, errW_some] <;> rfl)) : p := h
theorem z6_13 {p : Prop} (h : p := by rw [hg]; exact (below_size z6_1)) : p := h

/-! ### impl_Market_maker: function 94 -/
def impl_Market_maker.f (k : Nat) (l0_0 : List Int) (a0_1 : Int) (a0_2 : Int) (a0_3 : Int) (a1_0 : Int) (a1_1 : Int) (a1_2 : Int) (a2 : Int) : Option (Int) := (impl_Market_sales.f k l0_0 a0_1 a0_2 a0_3 a2).bind fun t169 => ((impl_total.f k l0_0).bind fun t170 => ((impl_Market_rest.f k l0_0 a0_1 a0_2 a0_3 a2).bind fun t171 => (some (wrap64 ((wrap64 ((wrap64 ((wrap64 (100 - a1_2)) * a0_1)) * t169)) + (wrap64 (100 * (wrap64 ((wrap64 ((wrap64 ((wrap64 (a1_0 - a0_2)) * t170)) * a2)) - (wrap64 (a1_1 * t171)))))))))))
theorem impl_Market_maker.mono : ∀ a0 a1 a2 a3 a4 a5 a6 a7 k, LeO (impl_Market_maker.f k a0 a1 a2 a3 a4 a5 a6 a7) (impl_Market_maker.f (k + 1) a0 a1 a2 a3 a4 a5 a6 a7) := by
 intro a0 a1 a2 a3 a4 a5 a6 a7 k
 unfold impl_Market_maker.f
 repeat' first
   | (with_reducible exact impl_Market_rest.mono _ _ _ _ _ _)
   | (with_reducible exact impl_Market_sales.mono _ _ _ _ _ _)
   | (with_reducible exact impl_total.mono _ _)
   | (with_reducible exact LeO.refl _)
   | (with_reducible exact LeO.none _)
   | (with_reducible refine LeO.ite ?_ ?_)
   | (with_reducible refine LeO.bind ?_ (fun _ => ?_))
   | exact impl_Market_rest.mono _ _ _ _ _ _
   | exact impl_Market_sales.mono _ _ _ _ _ _
   | exact impl_total.mono _ _
   | exact LeO.none _
   | refine LeO.ite ?_ ?_
   | refine LeO.bind ?_ (fun _ => ?_)
def impl_Market_maker.T1 : Bool × List (List Nat × List Nat) := (true, [([], []), ([0], [0]), ([1], [1]), ([], []), ([3], [3]), ([2, 4], [2, 4]), ([], []), ([], []), ([6, 7], [6, 7]), ([5, 8], [5, 8]), ([], []), ([10], [10]), ([], []), ([12], [12]), ([11, 13], [11, 13]), ([], []), ([15], [15]), ([16, 8], [16]), ([14, 17], [14, 17]), ([], []), ([18, 19], [18, 19]), ([], []), ([21], [21]), ([], []), ([], []), ([23, 24, 17], [23, 24]), ([22, 25], [22, 25]), ([20, 26], [20, 26]), ([27], [27]), ([9, 28], [9, 28]), ([29, 25, 0, 1, 2, 3, 4, 5, 6, 7, 8, 9, 10, 11, 12, 13, 14, 15, 16, 17, 18, 19, 20, 21, 22, 23, 24, 25, 26, 27, 28, 29], [29])])
def impl_Market_maker.B1 : List Nat := [0, 1, 3, 0, 8, 31, 0, 0, 192, 511, 0, 1024, 0, 4096, 15360, 0, 32768, 98752, 261568, 0, 1048000, 0, 2097152, 0, 0, 25395648, 65241536, 134217152, 268434880, 536870911, 1073741823]
theorem impl_Market_maker.tab1 : rtab .any (opsOf Try.f94 1) = impl_Market_maker.T1 := z6_3
theorem impl_Market_maker.bits1 : waitsOk impl_Market_maker.T1.2 impl_Market_maker.B1 = true := z6_3
set_option maxHeartbeats 8000000 in
set_option maxRecDepth 100000 in
theorem impl_Market_maker.calls (k : Nat) (A0_0 : Option Addr) (c0_0 : Nat) (l0_0 : List Int) (a0_1 : Int) (a0_2 : Int) (a0_3 : Int) (a1_0 : Int) (a1_1 : Int) (a1_2 : Int) (a2 : Int) (r : Int) (w : World) (hr0_0 : Kd.C (Kd.int .i64) w A0_0 l0_0.length l0_0) (hc0_0 : l0_0.length ≤ c0_0) (h : impl_Market_maker.f k l0_0 a0_1 a0_2 a0_3 a1_0 a1_1 a1_2 a2 = some r) :
  Calls Try.prog 94 #[.agg #[.slice A0_0 l0_0.length c0_0, .int .i64 a0_1, .int .i64 a0_2, .int .i64 a0_3], .agg #[.int .i64 a1_0, .int .i64 a1_1, .int .i64 a1_2], .int .i64 a2] w fun e w' => e = .returned (.int .i64 r) ∧ Below w.heap.size w w' := by
 have hu30 := Try.underlying30
 have hu32 := Try.underlying32
 have HR0_0 := z6_A hr0_0
 have HC0_0 := z6_A hc0_0
 clear hr0_0 hc0_0
 have HB := z6_A (Below.refl w.heap.size w)
 have H : ((impl_Market_sales.f k l0_0 a0_1 a0_2 a0_3 a2).bind fun t169 => ((impl_total.f k l0_0).bind fun t170 => ((impl_Market_rest.f k l0_0 a0_1 a0_2 a0_3 a2).bind fun t171 => (some (wrap64 ((wrap64 ((wrap64 ((wrap64 (100 - a1_2)) * a0_1)) * t169)) + (wrap64 (100 * (wrap64 ((wrap64 ((wrap64 ((wrap64 (a1_0 - a0_2)) * t170)) * a2)) - (wrap64 (a1_1 * t171)))))))))))) = some r := h
 clear h
 replace H := Option.bind_eq_some_iff.mp H
 obtain ⟨t169, A40, H⟩ := H
 (try dsimp only at H)
 have A4 := z6_A A40
 clear A40
 replace H := Option.bind_eq_some_iff.mp H
 obtain ⟨t170, A50, H⟩ := H
 (try dsimp only at H)
 have A5 := z6_A A50
 clear A50
 replace H := Option.bind_eq_some_iff.mp H
 obtain ⟨t171, A60, H⟩ := H
 (try dsimp only at H)
 have A6 := z6_A A60
 clear A60
 obtain rfl := Option.some.inj H
 go_enter Try.func94, Try.ntmps94
 try go_wp2_with (first | ((with_reducible refine gate_dst (N := 3) rfl ?_); refine box_event ?hg (N := 3) ?hd (cs := #[.slice A0_0 l0_0.length c0_0, .int .i64 a0_1, .int .i64 a0_2, .int .i64 a0_3]) (t := 30) ?hr ?_; (case hd => rfl); (case hg => rfl); (case hr => first | (go_simp; done) | (go_simp; rfl)); intro gb167 hg w7 hbox hb; have n0_ := z6_A (below_step z6_1 hb); have n1_ := z6_A (hbox); have n2_ := z6_A ((z6_13 : w.heap.size ≤ gb167)); have n3_ := z6_A ((z6_13 : w.heap.size ≤ gb167)); clear HB; revert n0_ n1_ n2_ n3_; intro HB BK167 GW167 GE167; clear hb hbox hg) | ((with_reducible refine gate_dst (N := 4) rfl ?_); refine box_event ?hg (N := 4) ?hd (cs := #[.int .i64 a1_0, .int .i64 a1_1, .int .i64 a1_2]) (t := 32) ?hr ?_; (case hd => rfl); (case hg => rfl); (case hr => first | (go_simp; done) | (go_simp; rfl)); intro gb168 hg w8 hbox hb; have n0_ := z6_A (blk_below (g := gb167) (o := .cells #[.slice A0_0 l0_0.length c0_0, .int .i64 a0_1, .int .i64 a0_2, .int .i64 a0_3] 30 (0, 0)) z6_5 hb); have n1_ := z6_A (below_step z6_7 hb); have n2_ := z6_A (hbox); have n3_ := z6_A ((by rw [hg]; exact (below_size z6_7) : w.heap.size ≤ gb168)); have n4_ := z6_A ((by rw [hg]; exact (below_size z6_7) : w.heap.size ≤ gb168)); have n5_ := z6_A ((by rw [hg]; exact Nat.ne_of_lt (blk_lt (g := gb167) (o := .cells #[.slice A0_0 l0_0.length c0_0, .int .i64 a0_1, .int .i64 a0_2, .int .i64 a0_3] 30 (0, 0)) z6_5) : gb167 ≠ gb168)); have n6_ := z6_A ((by rw [hg]; exact Nat.ne_of_gt (blk_lt (g := gb167) (o := .cells #[.slice A0_0 l0_0.length c0_0, .int .i64 a0_1, .int .i64 a0_2, .int .i64 a0_3] 30 (0, 0)) z6_5) : gb168 ≠ gb167)); clear BK167 HB; revert n0_ n1_ n2_ n3_ n4_ n5_ n6_; intro BK167 HB BK168 GW168 GE168 NB167_168 NB168_167; clear hb hbox hg))
 have n0_ := z6_A (blk_drew BK167.out)
 have n1_ := z6_A (blk_drew BK168.out)
 have n2_ := z6_A (below_drew1 HB.out)
 clear BK167
 clear BK168
 clear HB
 have BK167 := n0_
 have BK168 := n1_
 have HB := n2_
 clear n0_ n1_ n2_
 refine start_ (n := 31) (S := fun w' => w'.cell? ⟨gb168, 0, none⟩ = some (.int .i64 a1_0) ∧ w'.cell? ⟨gb168, 1, none⟩ = some (.int .i64 a1_1) ∧ w'.cell? ⟨gb168, 2, none⟩ = some (.int .i64 a1_2) ∧ w'.cell? ⟨gb167, 0, none⟩ = some (.slice A0_0 l0_0.length c0_0) ∧ w'.cell? ⟨gb167, 1, none⟩ = some (.int .i64 a0_1) ∧ w'.cell? ⟨gb167, 2, none⟩ = some (.int .i64 a0_2) ∧ w'.cell? ⟨gb167, 3, none⟩ = some (.int .i64 a0_3)) (ds := []) #[false, false, false, false, false, false, false, false, false, false, false, false, false, false, false, false, false, false, false, false, false, false, false, false, false, false, false, false, false, false, false] z6_3 rfl rfl ⟨bcz BK168.out 0 rfl, bcz BK168.out 1 rfl, bcz BK168.out 2 rfl, bcz BK167.out 0 rfl, bcz BK167.out 1 rfl, bcz BK167.out 2 rfl, bcz BK167.out 3 rfl⟩ (fun hHeld => ?_); refine with_tabW impl_Market_maker.tab1 impl_Market_maker.bits1 (fun HT_ HW_ => ?_)
 generalize w8.drew = w9 at BK167 BK168 HB hHeld ⊢
 refine pure_ (i := 0) (N := some 7) (v := ?_) (a' := ?_) #[true, false, false, false, false, false, false, false, false, false, false, false, false, false, false, false, false, false, false, false, false, false, false, false, false, false, false, false, false, false, false] rfl rfl (any_of HT_.out z6_3) (fun _ _ _ h => h) (Or.inl ⟨z6_9, ?_⟩) ?_ ?_
 rotate_left
 ·intro w'
  go_simp
  with_reducible rfl
 rotate_left
 ·simp only [Act.put, List.setIfInBounds_toArray, List.set_cons_zero, List.set_cons_succ, i64_w, i32_w]
  rfl
 refine pure_ (i := 3) (N := some 10) (v := ?_) (a' := ?_) #[true, false, false, true, false, false, false, false, false, false, false, false, false, false, false, false, false, false, false, false, false, false, false, false, false, false, false, false, false, false, false] rfl rfl (any_of HT_.out z6_3) (fun _ _ _ h => h) (Or.inl ⟨z6_9, ?_⟩) ?_ ?_
 rotate_left
 ·intro w'
  go_simp
  with_reducible rfl
 rotate_left
 ·simp only [Act.put, List.setIfInBounds_toArray, List.set_cons_zero, List.set_cons_succ, i64_w, i32_w]
  rfl
 refine pure_ (i := 7) (N := some 14) (v := ?_) (a' := ?_) #[true, false, false, true, false, false, false, true, false, false, false, false, false, false, false, false, false, false, false, false, false, false, false, false, false, false, false, false, false, false, false] rfl rfl (any_of HT_.out z6_3) (fun _ _ _ h => h) (Or.inl ⟨z6_9, ?_⟩) ?_ ?_
 rotate_left
 ·intro w'
  go_simp
  with_reducible rfl
 rotate_left
 ·simp only [Act.put, List.setIfInBounds_toArray, List.set_cons_zero, List.set_cons_succ, i64_w, i32_w]
  rfl
 refine pure_ (i := 10) (N := some 17) (v := ?_) (a' := ?_) #[true, false, false, true, false, false, false, true, false, false, true, false, false, false, false, false, false, false, false, false, false, false, false, false, false, false, false, false, false, false, false] rfl rfl (any_of HT_.out z6_3) (fun _ _ _ h => h) (Or.inl ⟨z6_9, ?_⟩) ?_ ?_
 rotate_left
 ·intro w'
  go_simp
  with_reducible rfl
 rotate_left
 ·simp only [Act.put, List.setIfInBounds_toArray, List.set_cons_zero, List.set_cons_succ, i64_w, i32_w]
  rfl
 refine pure_ (i := 12) (N := some 19) (v := ?_) (a' := ?_) #[true, false, false, true, false, false, false, true, false, false, true, false, true, false, false, false, false, false, false, false, false, false, false, false, false, false, false, false, false, false, false] rfl rfl (any_of HT_.out z6_3) (fun _ _ _ h => h) (Or.inl ⟨z6_9, ?_⟩) ?_ ?_
 rotate_left
 ·intro w'
  go_simp
  with_reducible rfl
 rotate_left
 ·simp only [Act.put, List.setIfInBounds_toArray, List.set_cons_zero, List.set_cons_succ, i64_w, i32_w]
  rfl
 refine pure_ (i := 15) (N := some 22) (v := ?_) (a' := ?_) #[true, false, false, true, false, false, false, true, false, false, true, false, true, false, false, true, false, false, false, false, false, false, false, false, false, false, false, false, false, false, false] rfl rfl (any_of HT_.out z6_3) (fun _ _ _ h => h) (Or.inl ⟨z6_9, ?_⟩) ?_ ?_
 rotate_left
 ·intro w'
  go_simp
  with_reducible rfl
 rotate_left
 ·simp only [Act.put, List.setIfInBounds_toArray, List.set_cons_zero, List.set_cons_succ, i64_w, i32_w]
  rfl
 refine pure_ (i := 19) (N := some 26) (v := ?_) (a' := ?_) #[true, false, false, true, false, false, false, true, false, false, true, false, true, false, false, true, false, false, false, true, false, false, false, false, false, false, false, false, false, false, false] rfl rfl (any_of HT_.out z6_3) (fun _ _ _ h => h) (Or.inl ⟨z6_9, ?_⟩) ?_ ?_
 rotate_left
 ·intro w'
  go_simp
  with_reducible rfl
 rotate_left
 ·simp only [Act.put, List.setIfInBounds_toArray, List.set_cons_zero, List.set_cons_succ, i64_w, i32_w]
  rfl
 refine pure_ (i := 21) (N := some 28) (v := ?_) (a' := ?_) #[true, false, false, true, false, false, false, true, false, false, true, false, true, false, false, true, false, false, false, true, false, true, false, false, false, false, false, false, false, false, false] rfl rfl (any_of HT_.out z6_3) (fun _ _ _ h => h) (Or.inl ⟨z6_9, ?_⟩) ?_ ?_
 rotate_left
 ·intro w'
  go_simp
  with_reducible rfl
 rotate_left
 ·simp only [Act.put, List.setIfInBounds_toArray, List.set_cons_zero, List.set_cons_succ, i64_w, i32_w]
  rfl
 refine pure_ (i := 24) (N := some 31) (v := ?_) (a' := ?_) #[true, false, false, true, false, false, false, true, false, false, true, false, true, false, false, true, false, false, false, true, false, true, false, false, true, false, false, false, false, false, false] rfl rfl (any_of HT_.out z6_3) (fun _ _ _ h => h) (Or.inl ⟨z6_9, ?_⟩) ?_ ?_
 rotate_left
 ·intro w'
  go_simp
  with_reducible rfl
 rotate_left
 ·simp only [Act.put, List.setIfInBounds_toArray, List.set_cons_zero, List.set_cons_succ, i64_w, i32_w]
  rfl
 refine take_ (i := 1) (N := some 8) (v := ?_) (a' := ?_) #[true, true, false, true, false, false, false, true, false, false, true, false, true, false, false, true, false, false, false, true, false, true, false, false, true, false, false, false, false, false, false] rfl rfl (take_ofW HT_.out HW_.out z6_3) (fun _ _ _ h => h) (Or.inl ⟨z6_9, ?_⟩) hHeld ?_ ?_
 rotate_left
 ·rintro w' ⟨s0, s1, s2, s3, s4, s5, s6⟩
  go_simp
  with_reducible rfl
 rotate_left
 ·simp only [Act.put, List.setIfInBounds_toArray, List.set_cons_zero, List.set_cons_succ, i64_w, i32_w]
  rfl
 refine pure_ (i := 2) (N := some 9) (v := ?_) (a' := ?_) #[true, true, true, true, false, false, false, true, false, false, true, false, true, false, false, true, false, false, false, true, false, true, false, false, true, false, false, false, false, false, false] rfl rfl (any_of HT_.out z6_3) (fun _ _ _ h => h) (Or.inl ⟨z6_9, ?_⟩) ?_ ?_
 rotate_left
 ·intro w'
  go_simp
  with_reducible rfl
 rotate_left
 ·simp only [Act.put, List.setIfInBounds_toArray, List.set_cons_zero, List.set_cons_succ, i64_w, i32_w]
  rfl
 refine take_ (i := 4) (N := some 11) (v := ?_) (a' := ?_) #[true, true, true, true, true, false, false, true, false, false, true, false, true, false, false, true, false, false, false, true, false, true, false, false, true, false, false, false, false, false, false] rfl rfl (take_ofW HT_.out HW_.out z6_3) (fun _ _ _ h => h) (Or.inl ⟨z6_9, ?_⟩) hHeld ?_ ?_
 rotate_left
 ·rintro w' ⟨s0, s1, s2, s3, s4, s5, s6⟩
  go_simp
  with_reducible rfl
 rotate_left
 ·simp only [Act.put, List.setIfInBounds_toArray, List.set_cons_zero, List.set_cons_succ, i64_w, i32_w]
  rfl
 refine pure_ (i := 5) (N := some 12) (v := ?_) (a' := ?_) #[true, true, true, true, true, true, false, true, false, false, true, false, true, false, false, true, false, false, false, true, false, true, false, false, true, false, false, false, false, false, false] rfl rfl (any_of HT_.out z6_3) (fun _ _ _ h => h) (Or.inl ⟨z6_9, ?_⟩) ?_ ?_
 rotate_left
 ·intro w'
  go_simp
  with_reducible rfl
 rotate_left
 ·simp only [Act.put, List.setIfInBounds_toArray, List.set_cons_zero, List.set_cons_succ, i64_w, i32_w]
  rfl
 refine take_ (i := 6) (N := some 13) (v := ?_) (a' := ?_) #[true, true, true, true, true, true, true, true, false, false, true, false, true, false, false, true, false, false, false, true, false, true, false, false, true, false, false, false, false, false, false] rfl rfl (take_ofW HT_.out HW_.out z6_3) (fun _ _ _ h => h) (Or.inl ⟨z6_9, ?_⟩) hHeld ?_ ?_
 rotate_left
 ·rintro w' ⟨s0, s1, s2, s3, s4, s5, s6⟩
  go_simp
  with_reducible rfl
 rotate_left
 ·simp only [Act.put, List.setIfInBounds_toArray, List.set_cons_zero, List.set_cons_succ, i64_w, i32_w]
  rfl
 refine take_ (i := 11) (N := some 18) (v := ?_) (a' := ?_) #[true, true, true, true, true, true, true, true, false, false, true, true, true, false, false, true, false, false, false, true, false, true, false, false, true, false, false, false, false, false, false] rfl rfl (take_ofW HT_.out HW_.out z6_3) (fun _ _ _ h => h) (Or.inl ⟨z6_9, ?_⟩) hHeld ?_ ?_
 rotate_left
 ·rintro w' ⟨s0, s1, s2, s3, s4, s5, s6⟩
  go_simp
  with_reducible rfl
 rotate_left
 ·simp only [Act.put, List.setIfInBounds_toArray, List.set_cons_zero, List.set_cons_succ, i64_w, i32_w]
  rfl
 refine take_ (i := 13) (N := some 20) (v := ?_) (a' := ?_) #[true, true, true, true, true, true, true, true, false, false, true, true, true, true, false, true, false, false, false, true, false, true, false, false, true, false, false, false, false, false, false] rfl rfl (take_ofW HT_.out HW_.out z6_3) (fun _ _ _ h => h) (Or.inl ⟨z6_9, ?_⟩) hHeld ?_ ?_
 rotate_left
 ·rintro w' ⟨s0, s1, s2, s3, s4, s5, s6⟩
  go_simp
  with_reducible rfl
 rotate_left
 ·simp only [Act.put, List.setIfInBounds_toArray, List.set_cons_zero, List.set_cons_succ, i64_w, i32_w]
  rfl
 refine pure_ (i := 14) (N := some 21) (v := ?_) (a' := ?_) #[true, true, true, true, true, true, true, true, false, false, true, true, true, true, true, true, false, false, false, true, false, true, false, false, true, false, false, false, false, false, false] rfl rfl (any_of HT_.out z6_3) (fun _ _ _ h => h) (Or.inl ⟨z6_9, ?_⟩) ?_ ?_
 rotate_left
 ·intro w'
  go_simp
  with_reducible rfl
 rotate_left
 ·simp only [Act.put, List.setIfInBounds_toArray, List.set_cons_zero, List.set_cons_succ, i64_w, i32_w]
  rfl
 refine take_ (i := 16) (N := some 23) (v := ?_) (a' := ?_) #[true, true, true, true, true, true, true, true, false, false, true, true, true, true, true, true, true, false, false, true, false, true, false, false, true, false, false, false, false, false, false] rfl rfl (take_ofW HT_.out HW_.out z6_3) (fun _ _ _ h => h) (Or.inl ⟨z6_9, ?_⟩) hHeld ?_ ?_
 rotate_left
 ·rintro w' ⟨s0, s1, s2, s3, s4, s5, s6⟩
  go_simp
  with_reducible rfl
 rotate_left
 ·simp only [Act.put, List.setIfInBounds_toArray, List.set_cons_zero, List.set_cons_succ, i64_w, i32_w]
  rfl
 refine take_ (i := 22) (N := some 29) (v := ?_) (a' := ?_) #[true, true, true, true, true, true, true, true, false, false, true, true, true, true, true, true, true, false, false, true, false, true, true, false, true, false, false, false, false, false, false] rfl rfl (take_ofW HT_.out HW_.out z6_3) (fun _ _ _ h => h) (Or.inl ⟨z6_9, ?_⟩) hHeld ?_ ?_
 rotate_left
 ·rintro w' ⟨s0, s1, s2, s3, s4, s5, s6⟩
  go_simp
  with_reducible rfl
 rotate_left
 ·simp only [Act.put, List.setIfInBounds_toArray, List.set_cons_zero, List.set_cons_succ, i64_w, i32_w]
  rfl
 refine take_ (i := 23) (N := some 30) (v := ?_) (a' := ?_) #[true, true, true, true, true, true, true, true, false, false, true, true, true, true, true, true, true, false, false, true, false, true, true, true, true, false, false, false, false, false, false] rfl rfl (take_ofW HT_.out HW_.out z6_3) (fun _ _ _ h => h) (Or.inl ⟨z6_9, ?_⟩) hHeld ?_ ?_
 rotate_left
 ·rintro w' ⟨s0, s1, s2, s3, s4, s5, s6⟩
  go_simp
  with_reducible rfl
 rotate_left
 ·simp only [Act.put, List.setIfInBounds_toArray, List.set_cons_zero, List.set_cons_succ, i64_w, i32_w]
  rfl
 refine one_ (i := 8) (N := some 15) #[true, true, true, true, true, true, true, true, true, false, true, true, true, true, true, true, true, false, false, true, false, true, true, true, true, false, false, false, false, false, false] rfl rfl (one_of HT_.out z6_3) (by decide) (fun K hK => ?_)
 refine goes_ Try.func97 z6_3 rfl #[.agg #[.slice A0_0 l0_0.length c0_0, .int .i64 a0_1, .int .i64 a0_2, .int .i64 a0_3], .int .i64 a2] z6_9 rfl rfl z6_4 ?_
 with_reducible refine (impl_Market_sales.calls k _ _ l0_0 a0_1 a0_2 a0_3 a2 t169 _ ?side1 ?side2 A4.out).mono ?_
 (case side1 => have zh := (Kd.C_below HR0_0.out HB.out); exact z6_C)
 (case side2 => exact HC0_0.out)
 rintro e w10 ⟨rfl, hb⟩
 refine ⟨_, rfl, ?_⟩
 have n0_ := z6_A (blk_below (g := gb167) (o := .cells #[.slice A0_0 l0_0.length c0_0, .int .i64 a0_1, .int .i64 a0_2, .int .i64 a0_3] 30 (0, 0)) z6_5 hb)
 have n1_ := z6_A (blk_below (g := gb168) (o := .cells #[.int .i64 a1_0, .int .i64 a1_1, .int .i64 a1_2] 32 (0, 0)) z6_11 hb)
 have n2_ := z6_A (below_step z6_2 hb)
 clear BK167
 clear BK168
 clear HB
 have BK167 := n0_
 have BK168 := n1_
 have HB := n2_
 clear n0_ n1_ n2_
 (try clear hb)
 (try clear hb2)
 (try clear hk)
 (try clear hi)
 refine hK.out _ _ ⟨bcz BK168.out 0 rfl, bcz BK168.out 1 rfl, bcz BK168.out 2 rfl, bcz BK167.out 0 rfl, bcz BK167.out 1 rfl, bcz BK167.out 2 rfl, bcz BK167.out 3 rfl⟩ (fun hHeld => ?_)
 clear hK K
 refine norm_ (a' := ?_) ?_ ?_
 rotate_left
 ·show Act.put _ (some 15) _ = _
  simp only [Act.put, List.setIfInBounds_toArray, List.set_cons_zero, List.set_cons_succ, i64_w, i32_w]
  rfl
 refine pure_ (i := 9) (N := some 16) (v := ?_) (a' := ?_) #[true, true, true, true, true, true, true, true, true, true, true, true, true, true, true, true, true, false, false, true, false, true, true, true, true, false, false, false, false, false, false] rfl rfl (any_of HT_.out z6_3) (fun _ _ _ h => h) (Or.inl ⟨z6_9, ?_⟩) ?_ ?_
 rotate_left
 ·intro w'
  go_simp
  with_reducible rfl
 rotate_left
 ·simp only [Act.put, List.setIfInBounds_toArray, List.set_cons_zero, List.set_cons_succ, i64_w, i32_w]
  rfl
 refine one_ (i := 17) (N := some 24) #[true, true, true, true, true, true, true, true, true, true, true, true, true, true, true, true, true, true, false, true, false, true, true, true, true, false, false, false, false, false, false] rfl rfl (one_of HT_.out z6_3) (by decide) (fun K hK => ?_)
 refine goes_ Try.func85 z6_3 rfl #[.slice A0_0 l0_0.length c0_0] z6_9 rfl rfl z6_4 ?_
 with_reducible refine (impl_total.calls k _ _ l0_0 t170 _ ?side1 ?side2 A5.out).mono ?_
 (case side1 => have zh := (Kd.C_below HR0_0.out HB.out); exact z6_C)
 (case side2 => exact HC0_0.out)
 rintro e w' ⟨rfl, ⟨nd, rfl⟩⟩
 refine ⟨_, rfl, ?_⟩
 refine hK.out _ _ ⟨bcz BK168.out 0 rfl, bcz BK168.out 1 rfl, bcz BK168.out 2 rfl, bcz BK167.out 0 rfl, bcz BK167.out 1 rfl, bcz BK167.out 2 rfl, bcz BK167.out 3 rfl⟩ (fun hHeld => ?_)
 clear hK K
 refine norm_ (a' := ?_) ?_ ?_
 rotate_left
 ·show Act.put _ (some 24) _ = _
  simp only [Act.put, List.setIfInBounds_toArray, List.set_cons_zero, List.set_cons_succ, i64_w, i32_w]
  rfl
 refine pure_ (i := 18) (N := some 25) (v := ?_) (a' := ?_) #[true, true, true, true, true, true, true, true, true, true, true, true, true, true, true, true, true, true, true, true, false, true, true, true, true, false, false, false, false, false, false] rfl rfl (any_of HT_.out z6_3) (fun _ _ _ h => h) (Or.inl ⟨z6_9, ?_⟩) ?_ ?_
 rotate_left
 ·intro w'
  go_simp
  with_reducible rfl
 rotate_left
 ·simp only [Act.put, List.setIfInBounds_toArray, List.set_cons_zero, List.set_cons_succ, i64_w, i32_w]
  rfl
 refine pure_ (i := 20) (N := some 27) (v := ?_) (a' := ?_) #[true, true, true, true, true, true, true, true, true, true, true, true, true, true, true, true, true, true, true, true, true, true, true, true, true, false, false, false, false, false, false] rfl rfl (any_of HT_.out z6_3) (fun _ _ _ h => h) (Or.inl ⟨z6_9, ?_⟩) ?_ ?_
 rotate_left
 ·intro w'
  go_simp
  with_reducible rfl
 rotate_left
 ·simp only [Act.put, List.setIfInBounds_toArray, List.set_cons_zero, List.set_cons_succ, i64_w, i32_w]
  rfl
 refine one_ (i := 25) (N := some 32) #[true, true, true, true, true, true, true, true, true, true, true, true, true, true, true, true, true, true, true, true, true, true, true, true, true, true, false, false, false, false, false] rfl rfl (one_of HT_.out z6_3) (by decide) (fun K hK => ?_)
 refine goes_ Try.func107 z6_3 rfl #[.agg #[.slice A0_0 l0_0.length c0_0, .int .i64 a0_1, .int .i64 a0_2, .int .i64 a0_3], .int .i64 a2] z6_9 rfl rfl z6_4 ?_
 with_reducible refine (impl_Market_rest.calls k _ _ l0_0 a0_1 a0_2 a0_3 a2 t171 _ ?side1 ?side2 A6.out).mono ?_
 (case side1 => repeat (first | exact (Kd.C_below HR0_0.out z6_2) | (with_reducible refine Kd.C_alloc ?_ _) | (with_reducible refine Kd.C_drewN ?_ _) | (with_reducible refine Kd.C_drew ?_)))
 (case side2 => exact HC0_0.out)
 rintro e w11 ⟨rfl, hb⟩
 refine ⟨_, rfl, ?_⟩
 have n0_ := z6_A (blk_below (g := gb167) (o := .cells #[.slice A0_0 l0_0.length c0_0, .int .i64 a0_1, .int .i64 a0_2, .int .i64 a0_3] 30 (0, 0)) z6_5 hb)
 have n1_ := z6_A (blk_below (g := gb168) (o := .cells #[.int .i64 a1_0, .int .i64 a1_1, .int .i64 a1_2] 32 (0, 0)) z6_11 hb)
 have n2_ := z6_A (below_step z6_2 hb)
 clear BK167
 clear BK168
 clear HB
 have BK167 := n0_
 have BK168 := n1_
 have HB := n2_
 clear n0_ n1_ n2_
 (try clear hb)
 (try clear hb2)
 (try clear hk)
 (try clear hi)
 refine hK.out _ _ ⟨bcz BK168.out 0 rfl, bcz BK168.out 1 rfl, bcz BK168.out 2 rfl, bcz BK167.out 0 rfl, bcz BK167.out 1 rfl, bcz BK167.out 2 rfl, bcz BK167.out 3 rfl⟩ (fun hHeld => ?_)
 clear hK K
 refine norm_ (a' := ?_) ?_ ?_
 rotate_left
 ·show Act.put _ (some 32) _ = _
  simp only [Act.put, List.setIfInBounds_toArray, List.set_cons_zero, List.set_cons_succ, i64_w, i32_w]
  rfl
 refine pure_ (i := 26) (N := some 33) (v := ?_) (a' := ?_) #[true, true, true, true, true, true, true, true, true, true, true, true, true, true, true, true, true, true, true, true, true, true, true, true, true, true, true, false, false, false, false] rfl rfl (any_of HT_.out z6_3) (fun _ _ _ h => h) (Or.inl ⟨z6_9, ?_⟩) ?_ ?_
 rotate_left
 ·intro w'
  go_simp
  with_reducible rfl
 rotate_left
 ·simp only [Act.put, List.setIfInBounds_toArray, List.set_cons_zero, List.set_cons_succ, i64_w, i32_w]
  rfl
 refine pure_ (i := 27) (N := some 34) (v := ?_) (a' := ?_) #[true, true, true, true, true, true, true, true, true, true, true, true, true, true, true, true, true, true, true, true, true, true, true, true, true, true, true, true, false, false, false] rfl rfl (any_of HT_.out z6_3) (fun _ _ _ h => h) (Or.inl ⟨z6_9, ?_⟩) ?_ ?_
 rotate_left
 ·intro w'
  go_simp
  with_reducible rfl
 rotate_left
 ·simp only [Act.put, List.setIfInBounds_toArray, List.set_cons_zero, List.set_cons_succ, i64_w, i32_w]
  rfl
 refine pure_ (i := 28) (N := some 35) (v := ?_) (a' := ?_) #[true, true, true, true, true, true, true, true, true, true, true, true, true, true, true, true, true, true, true, true, true, true, true, true, true, true, true, true, true, false, false] rfl rfl (any_of HT_.out z6_3) (fun _ _ _ h => h) (Or.inl ⟨z6_9, ?_⟩) ?_ ?_
 rotate_left
 ·intro w'
  go_simp
  with_reducible rfl
 rotate_left
 ·simp only [Act.put, List.setIfInBounds_toArray, List.set_cons_zero, List.set_cons_succ, i64_w, i32_w]
  rfl
 refine pure_ (i := 29) (N := some 36) (v := ?_) (a' := ?_) #[true, true, true, true, true, true, true, true, true, true, true, true, true, true, true, true, true, true, true, true, true, true, true, true, true, true, true, true, true, true, false] rfl rfl (any_of HT_.out z6_3) (fun _ _ _ h => h) (Or.inl ⟨z6_9, ?_⟩) ?_ ?_
 rotate_left
 ·intro w'
  go_simp
  with_reducible rfl
 rotate_left
 ·simp only [Act.put, List.setIfInBounds_toArray, List.set_cons_zero, List.set_cons_succ, i64_w, i32_w]
  rfl
 refine pure_ (i := 30) (N := some 6) (v := ?_) (a' := ?_) #[true, true, true, true, true, true, true, true, true, true, true, true, true, true, true, true, true, true, true, true, true, true, true, true, true, true, true, true, true, true, true] rfl rfl (any_of HT_.out z6_3) (fun _ _ _ h => h) (Or.inl ⟨z6_9, ?_⟩) ?_ ?_
 rotate_left
 ·intro w'
  go_simp
  with_reducible rfl
 rotate_left
 ·simp only [Act.put, List.setIfInBounds_toArray, List.set_cons_zero, List.set_cons_succ, i64_w, i32_w]
  rfl
 refine done_ (done_of HT_.out z6_3) ?_
 try go_wp2
 go_ret
 exact ⟨z6_12, z6_2⟩

/-! ### impl_Market_joint: function 87 -/
def impl_Market_joint.f (k : Nat) (l0_0 : List Int) (a0_1 : Int) (a0_2 : Int) (a0_3 : Int) (a1 : Int) : Option (Int) := (impl_Market_seller.f k l0_0 a0_1 a0_2 a0_3 0 0 0 a1).bind fun t173 => ((impl_Market_maker.f k l0_0 a0_1 a0_2 a0_3 0 0 0 a1).bind fun t174 => (some (wrap64 (t173 + t174))))
theorem impl_Market_joint.mono : ∀ a0 a1 a2 a3 a4 k, LeO (impl_Market_joint.f k a0 a1 a2 a3 a4) (impl_Market_joint.f (k + 1) a0 a1 a2 a3 a4) := by
 intro a0 a1 a2 a3 a4 k
 unfold impl_Market_joint.f
 repeat' first
   | (with_reducible exact impl_Market_maker.mono _ _ _ _ _ _ _ _ _)
   | (with_reducible exact impl_Market_seller.mono _ _ _ _ _ _ _ _ _)
   | (with_reducible exact LeO.refl _)
   | (with_reducible exact LeO.none _)
   | (with_reducible refine LeO.ite ?_ ?_)
   | (with_reducible refine LeO.bind ?_ (fun _ => ?_))
   | exact impl_Market_maker.mono _ _ _ _ _ _ _ _ _
   | exact impl_Market_seller.mono _ _ _ _ _ _ _ _ _
   | exact LeO.none _
   | refine LeO.ite ?_ ?_
   | refine LeO.bind ?_ (fun _ => ?_)
def impl_Market_joint.T1 : Bool × List (List Nat × List Nat) := (true, [([], []), ([], []), ([], []), ([0, 1, 2], [0, 1, 2]), ([], []), ([], []), ([], []), ([4, 5, 6, 3], [4, 5, 6]), ([3, 7], [3, 7]), ([8, 7, 0, 1, 2, 3, 4, 5, 6, 7, 8], [8])])
def impl_Market_joint.B1 : List Nat := [0, 0, 0, 7, 0, 0, 0, 127, 255, 511]
theorem impl_Market_joint.tab1 : rtab .any (opsOf Try.f87 1) = impl_Market_joint.T1 := z6_3
theorem impl_Market_joint.bits1 : waitsOk impl_Market_joint.T1.2 impl_Market_joint.B1 = true := z6_3
set_option maxHeartbeats 8000000 in
set_option maxRecDepth 100000 in
theorem impl_Market_joint.calls (k : Nat) (A0_0 : Option Addr) (c0_0 : Nat) (l0_0 : List Int) (a0_1 : Int) (a0_2 : Int) (a0_3 : Int) (a1 : Int) (r : Int) (w : World) (hr0_0 : Kd.C (Kd.int .i64) w A0_0 l0_0.length l0_0) (hc0_0 : l0_0.length ≤ c0_0) (h : impl_Market_joint.f k l0_0 a0_1 a0_2 a0_3 a1 = some r) :
  Calls Try.prog 87 #[.agg #[.slice A0_0 l0_0.length c0_0, .int .i64 a0_1, .int .i64 a0_2, .int .i64 a0_3], .int .i64 a1] w fun e w' => e = .returned (.int .i64 r) ∧ Below w.heap.size w w' := by
 have hu30 := Try.underlying30
 have hu32 := Try.underlying32
 have HR0_0 := z6_A hr0_0
 have HC0_0 := z6_A hc0_0
 clear hr0_0 hc0_0
 have HB := z6_A (Below.refl w.heap.size w)
 have H : ((impl_Market_seller.f k l0_0 a0_1 a0_2 a0_3 0 0 0 a1).bind fun t173 => ((impl_Market_maker.f k l0_0 a0_1 a0_2 a0_3 0 0 0 a1).bind fun t174 => (some (wrap64 (t173 + t174))))) = some r := h
 clear h
 replace H := Option.bind_eq_some_iff.mp H
 obtain ⟨t173, A30, H⟩ := H
 (try dsimp only at H)
 have A3 := z6_A A30
 clear A30
 replace H := Option.bind_eq_some_iff.mp H
 obtain ⟨t174, A40, H⟩ := H
 (try dsimp only at H)
 have A4 := z6_A A40
 clear A40
 obtain rfl := Option.some.inj H
 go_enter Try.func87, Try.ntmps87
 try go_wp2_with (first | ((with_reducible refine gate_dst (N := 2) rfl ?_); refine box_event ?hg (N := 2) ?hd (cs := #[.slice A0_0 l0_0.length c0_0, .int .i64 a0_1, .int .i64 a0_2, .int .i64 a0_3]) (t := 30) ?hr ?_; (case hd => rfl); (case hg => rfl); (case hr => first | (go_simp; done) | (go_simp; rfl)); intro gb172 hg w5 hbox hb; have n0_ := z6_A (below_step z6_1 hb); have n1_ := z6_A (hbox); have n2_ := z6_A ((z6_13 : w.heap.size ≤ gb172)); have n3_ := z6_A ((z6_13 : w.heap.size ≤ gb172)); clear HB; revert n0_ n1_ n2_ n3_; intro HB BK172 GW172 GE172; clear hb hbox hg))
 have n0_ := z6_A (blk_drew BK172.out)
 have n1_ := z6_A (below_drew1 HB.out)
 clear BK172
 clear HB
 have BK172 := n0_
 have HB := n1_
 clear n0_ n1_
 refine start_ (n := 10) (S := fun w' => w'.cell? ⟨gb172, 0, none⟩ = some (.slice A0_0 l0_0.length c0_0) ∧ w'.cell? ⟨gb172, 1, none⟩ = some (.int .i64 a0_1) ∧ w'.cell? ⟨gb172, 2, none⟩ = some (.int .i64 a0_2) ∧ w'.cell? ⟨gb172, 3, none⟩ = some (.int .i64 a0_3)) (ds := []) #[false, false, false, false, false, false, false, false, false, false] z6_3 rfl rfl ⟨bcz BK172.out 0 rfl, bcz BK172.out 1 rfl, bcz BK172.out 2 rfl, bcz BK172.out 3 rfl⟩ (fun hHeld => ?_); refine with_tabW impl_Market_joint.tab1 impl_Market_joint.bits1 (fun HT_ HW_ => ?_)
 generalize w5.drew = w6 at BK172 HB hHeld ⊢
 refine pure_ (i := 1) (N := some 6) (v := ?_) (a' := ?_) #[false, true, false, false, false, false, false, false, false, false] rfl rfl (any_of HT_.out z6_3) (fun _ _ _ h => h) (Or.inl ⟨z6_9, ?_⟩) ?_ ?_
 rotate_left
 ·intro w'
  go_simp
  with_reducible rfl
 rotate_left
 ·simp only [Act.put, List.setIfInBounds_toArray, List.set_cons_zero, List.set_cons_succ, i64_w, i32_w]
  rfl
 refine pure_ (i := 2) (N := some 7) (v := ?_) (a' := ?_) #[false, true, true, false, false, false, false, false, false, false] rfl rfl (any_of HT_.out z6_3) (fun _ _ _ h => h) (Or.inl ⟨z6_9, ?_⟩) ?_ ?_
 rotate_left
 ·intro w'
  go_simp
  with_reducible rfl
 rotate_left
 ·simp only [Act.put, List.setIfInBounds_toArray, List.set_cons_zero, List.set_cons_succ, i64_w, i32_w]
  rfl
 refine pure_ (i := 5) (N := some 10) (v := ?_) (a' := ?_) #[false, true, true, false, false, true, false, false, false, false] rfl rfl (any_of HT_.out z6_3) (fun _ _ _ h => h) (Or.inl ⟨z6_9, ?_⟩) ?_ ?_
 rotate_left
 ·intro w'
  go_simp
  with_reducible rfl
 rotate_left
 ·simp only [Act.put, List.setIfInBounds_toArray, List.set_cons_zero, List.set_cons_succ, i64_w, i32_w]
  rfl
 refine pure_ (i := 6) (N := some 11) (v := ?_) (a' := ?_) #[false, true, true, false, false, true, true, false, false, false] rfl rfl (any_of HT_.out z6_3) (fun _ _ _ h => h) (Or.inl ⟨z6_9, ?_⟩) ?_ ?_
 rotate_left
 ·intro w'
  go_simp
  with_reducible rfl
 rotate_left
 ·simp only [Act.put, List.setIfInBounds_toArray, List.set_cons_zero, List.set_cons_succ, i64_w, i32_w]
  rfl
 refine take_ (i := 0) (N := some 5) (v := ?_) (a' := ?_) #[true, true, true, false, false, true, true, false, false, false] rfl rfl (take_ofW HT_.out HW_.out z6_3) (fun _ _ _ h => h) (Or.inl ⟨z6_9, ?_⟩) hHeld ?_ ?_
 rotate_left
 ·rintro w' ⟨s0, s1, s2, s3⟩
  go_simp
  with_reducible rfl
 rotate_left
 ·simp only [Act.put, List.setIfInBounds_toArray, List.set_cons_zero, List.set_cons_succ, i64_w, i32_w]
  rfl
 refine take_ (i := 4) (N := some 9) (v := ?_) (a' := ?_) #[true, true, true, false, true, true, true, false, false, false] rfl rfl (take_ofW HT_.out HW_.out z6_3) (fun _ _ _ h => h) (Or.inl ⟨z6_9, ?_⟩) hHeld ?_ ?_
 rotate_left
 ·rintro w' ⟨s0, s1, s2, s3⟩
  go_simp
  with_reducible rfl
 rotate_left
 ·simp only [Act.put, List.setIfInBounds_toArray, List.set_cons_zero, List.set_cons_succ, i64_w, i32_w]
  rfl
 refine one_ (i := 3) (N := some 8) #[true, true, true, true, true, true, true, false, false, false] rfl rfl (one_of HT_.out z6_3) (by decide) (fun K hK => ?_)
 refine goes_ Try.func89 z6_3 rfl #[.agg #[.slice A0_0 l0_0.length c0_0, .int .i64 a0_1, .int .i64 a0_2, .int .i64 a0_3], .agg #[.int .i64 0, .int .i64 0, .int .i64 0], .int .i64 a1] z6_9 rfl rfl z6_4 ?_
 with_reducible refine (impl_Market_seller.calls k _ _ l0_0 a0_1 a0_2 a0_3 0 0 0 a1 t173 _ ?side1 ?side2 A3.out).mono ?_
 (case side1 => have zh := (Kd.C_below HR0_0.out HB.out); exact z6_C)
 (case side2 => exact HC0_0.out)
 rintro e w7 ⟨rfl, hb⟩
 refine ⟨_, rfl, ?_⟩
 have n0_ := z6_A (blk_below (g := gb172) (o := .cells #[.slice A0_0 l0_0.length c0_0, .int .i64 a0_1, .int .i64 a0_2, .int .i64 a0_3] 30 (0, 0)) z6_10 hb)
 have n1_ := z6_A (below_step z6_6 hb)
 clear BK172
 clear HB
 have BK172 := n0_
 have HB := n1_
 clear n0_ n1_
 (try clear hb)
 (try clear hb2)
 (try clear hk)
 (try clear hi)
 refine hK.out _ _ ⟨bcz BK172.out 0 rfl, bcz BK172.out 1 rfl, bcz BK172.out 2 rfl, bcz BK172.out 3 rfl⟩ (fun hHeld => ?_)
 clear hK K
 refine norm_ (a' := ?_) ?_ ?_
 rotate_left
 ·show Act.put _ (some 8) _ = _
  simp only [Act.put, List.setIfInBounds_toArray, List.set_cons_zero, List.set_cons_succ, i64_w, i32_w]
  rfl
 refine one_ (i := 7) (N := some 12) #[true, true, true, true, true, true, true, true, false, false] rfl rfl (one_of HT_.out z6_3) (by decide) (fun K hK => ?_)
 refine goes_ Try.func94 z6_3 rfl #[.agg #[.slice A0_0 l0_0.length c0_0, .int .i64 a0_1, .int .i64 a0_2, .int .i64 a0_3], .agg #[.int .i64 0, .int .i64 0, .int .i64 0], .int .i64 a1] z6_9 rfl rfl z6_4 ?_
 with_reducible refine (impl_Market_maker.calls k _ _ l0_0 a0_1 a0_2 a0_3 0 0 0 a1 t174 _ ?side1 ?side2 A4.out).mono ?_
 (case side1 => have zh := (Kd.C_below HR0_0.out HB.out); exact z6_C)
 (case side2 => exact HC0_0.out)
 rintro e w8 ⟨rfl, hb⟩
 refine ⟨_, rfl, ?_⟩
 have n0_ := z6_A (blk_below (g := gb172) (o := .cells #[.slice A0_0 l0_0.length c0_0, .int .i64 a0_1, .int .i64 a0_2, .int .i64 a0_3] 30 (0, 0)) z6_10 hb)
 have n1_ := z6_A (below_step z6_6 hb)
 clear BK172
 clear HB
 have BK172 := n0_
 have HB := n1_
 clear n0_ n1_
 (try clear hb)
 (try clear hb2)
 (try clear hk)
 (try clear hi)
 refine hK.out _ _ ⟨bcz BK172.out 0 rfl, bcz BK172.out 1 rfl, bcz BK172.out 2 rfl, bcz BK172.out 3 rfl⟩ (fun hHeld => ?_)
 clear hK K
 refine norm_ (a' := ?_) ?_ ?_
 rotate_left
 ·show Act.put _ (some 12) _ = _
  simp only [Act.put, List.setIfInBounds_toArray, List.set_cons_zero, List.set_cons_succ, i64_w, i32_w]
  rfl
 refine pure_ (i := 8) (N := some 13) (v := ?_) (a' := ?_) #[true, true, true, true, true, true, true, true, true, false] rfl rfl (any_of HT_.out z6_3) (fun _ _ _ h => h) (Or.inl ⟨z6_9, ?_⟩) ?_ ?_
 rotate_left
 ·intro w'
  go_simp
  with_reducible rfl
 rotate_left
 ·simp only [Act.put, List.setIfInBounds_toArray, List.set_cons_zero, List.set_cons_succ, i64_w, i32_w]
  rfl
 refine pure_ (i := 9) (N := some 4) (v := ?_) (a' := ?_) #[true, true, true, true, true, true, true, true, true, true] rfl rfl (any_of HT_.out z6_3) (fun _ _ _ h => h) (Or.inl ⟨z6_9, ?_⟩) ?_ ?_
 rotate_left
 ·intro w'
  go_simp
  with_reducible rfl
 rotate_left
 ·simp only [Act.put, List.setIfInBounds_toArray, List.set_cons_zero, List.set_cons_succ, i64_w, i32_w]
  rfl
 refine done_ (done_of HT_.out z6_3) ?_
 try go_wp2
 go_ret
 exact ⟨z6_12, z6_6⟩

/-! ### impl_mostOrder: function 86 (by hand), handed the joint profit -/
def impl_mostOrder.m0 : Nat → List Int → Int → Int → Int → Int → Int → Option (Int)
 | 0, _, _, _, _, _, _ => none
 | k + 1, l, p, m, f, x3, x4 => if x4 ≤ 8 then ((impl_Market_joint.f k l p m f x4).bind fun t1 => ((impl_Market_joint.f k l p m f x3).bind fun t2 => (if t1 > t2 then (impl_mostOrder.m0 k l p m f x4 (wrap64 (x4 + 1))) else (impl_mostOrder.m0 k l p m f x3 (wrap64 (x4 + 1)))))) else (some x3)
set_option maxHeartbeats 8000000 in
set_option maxRecDepth 100000 in
theorem impl_mostOrder_joint (k : Nat) (A0_0 : Option Addr) (c0_0 : Nat) (l0_0 : List Int) (a0_1 : Int) (a0_2 : Int) (a0_3 : Int) (r : Int) (w : World) (hr0_0 : Kd.C (Kd.int .i64) w A0_0 l0_0.length l0_0) (hc0_0 : l0_0.length ≤ c0_0) (h : impl_mostOrder.m0 k l0_0 a0_1 a0_2 a0_3 0 1 = some r) :
  Calls Try.prog 86 #[.func (.func 87) #[.agg #[.slice A0_0 l0_0.length c0_0, .int .i64 a0_1, .int .i64 a0_2, .int .i64 a0_3]] #[]] w fun e w' => e = .returned (.int .i64 r) ∧ Below w.heap.size w w' := by
 have HR0_0 := z6_A hr0_0
 have HC0_0 := z6_A hc0_0
 clear hr0_0 hc0_0
 have HB := z6_A (Below.refl w.heap.size w)
 have H' := z6_A h
 clear h
 go_enter Try.func86, Try.ntmps86
 go_wp2
 go_loopg [3, 4] k (fun kq v3 v4 w' => ∃ (x3_1 : Int) (x4_1 : Int), v3 = .int .i64 x3_1 ∧ v4 = .int .i64 x4_1 ∧ Aside0 (impl_mostOrder.m0 kq l0_0 a0_1 a0_2 a0_3 x3_1 x4_1 = some r) ∧ Aside0 (kq ≤ k) ∧ Aside0 (Below w.heap.size w w'))
 case atStart => exact ⟨(0), (1), z6_8, z6_8, H', ⟨Nat.le_refl _⟩, HB⟩
 case round =>
  clear H' HB
  obtain ⟨x3_1, x4_1, rfl, rfl, HA, HK1, HB⟩ := hrel
  cases gk with
  | zero => exact absurd HA.out (by simp [impl_mostOrder.m0])
  | succ k1 =>
   have H := HA.out
   clear HA
   simp only [impl_mostOrder.m0] at H
   by_cases c2 : x4_1 ≤ 8
   ·rw [if_pos c2] at H
    have c2b0 : decide (x4_1 ≤ 8) = true := decide_eq_true c2
    clear c2
    cases e1 : impl_Market_joint.f k1 l0_0 a0_1 a0_2 a0_3 x4_1 with
    | none => rw [e1] at H; cases H
    | some t1 =>
     rw [e1, Option.bind_some] at H
     cases e2 : impl_Market_joint.f k1 l0_0 a0_1 a0_2 a0_3 x3_1 with
     | none => rw [e2] at H; cases H
     | some t2 =>
      rw [e2, Option.bind_some] at H
      have E1 := z6_A e1
      have E2 := z6_A e2
      have H' := z6_A H
      clear H e1 e2
      go_wp2_with fail
      refine (impl_Market_joint.calls k1 A0_0 c0_0 l0_0 a0_1 a0_2 a0_3 x4_1 t1 _ (Kd.C_below HR0_0.out HB.out) HC0_0.out E1.out).mono ?_
      rintro e w1 ⟨rfl, hb1⟩
      have HB1 := z6_A (below_step HB.out hb1)
      clear hb1
      go_wp2_with fail
      refine (impl_Market_joint.calls k1 A0_0 c0_0 l0_0 a0_1 a0_2 a0_3 x3_1 t2 _ (Kd.C_below HR0_0.out HB1.out) HC0_0.out E2.out).mono ?_
      rintro e w2 ⟨rfl, hb2⟩
      have HB2 := z6_A (below_step HB1.out hb2)
      clear hb2
      have HM := z6_A (Nat.le_trans (Nat.le_succ k1) HK1.out)
      by_cases ct : t1 > t2
      ·have H2 := H'.out
       rw [if_pos ct] at H2
       have ctb : decide (t1 > t2) = true := decide_eq_true ct
       clear H' ct
       have H' := z6_A H2
       clear H2
       go_wp2
       go_roundg k1
       case measure => have := HK1.out; omega
       case rel => exact ⟨_, _, rfl, rfl, H', HM, HB2⟩
      ·have H2 := H'.out
       rw [if_neg ct] at H2
       have ctb : decide (t1 > t2) = false := decide_eq_false ct
       clear H' ct
       have H' := z6_A H2
       clear H2
       go_wp2
       go_roundg k1
       case measure => have := HK1.out; omega
       case rel => exact ⟨_, _, rfl, rfl, H', HM, HB2⟩
   ·rw [if_neg c2] at H
    have c2b0 : decide (x4_1 ≤ 8) = false := decide_eq_false c2
    clear c2
    obtain rfl := Option.some.inj H
    go_wp2
    go_ret
    exact ⟨z6_8, HB.out⟩
theorem impl_mostOrder.mono_l : ∀ k, (∀ y0 y1 y2 y3 y4 y5, LeO (impl_mostOrder.m0 k y0 y1 y2 y3 y4 y5) (impl_mostOrder.m0 (k + 1) y0 y1 y2 y3 y4 y5))
 | 0 => fun _ _ _ _ _ _ r h => by simp [impl_mostOrder.m0] at h
 | k + 1 => by
  have ih0 := impl_mostOrder.mono_l k
  intro y0 y1 y2 y3 y4 y5
  unfold impl_mostOrder.m0
  repeat' first
   | (with_reducible exact ih0 _ _ _ _ _ _)
   | (with_reducible exact impl_Market_joint.mono _ _ _ _ _ _)
   | (with_reducible exact LeO.refl _)
   | (with_reducible exact LeO.none _)
   | (with_reducible refine LeO.ite ?_ ?_)
   | (with_reducible refine LeO.bind ?_ (fun _ => ?_))

/-! ### impl_Market_sellerOrder: function 79 (by hand) -/
theorem impl_Market_sellerOrder.bcell {W w1 : World} (hb : Below W.heap.size W w1) : (∀ b o, b < W.heap.size → w1.cell? ⟨b, o, none⟩ = W.cell? ⟨b, o, none⟩) ∧ (∀ b o, b < W.heap.size → w1.frozen? ⟨b, o, none⟩ = W.frozen? ⟨b, o, none⟩) :=
 ⟨fun b o h => hb.cell (p := ⟨b, o, none⟩) h, fun b o h => hb.frozen (p := ⟨b, o, none⟩) h⟩
def impl_Market_sellerOrder.m0 : Nat → List Int → Int → Int → Int → Int → Int → Int → Int → Int → Option (Int)
 | 0, _, _, _, _, _, _, _, _, _ => none
 | k + 1, l, p, m, f, a, b, c, x3, x4 => if x4 ≤ 8 then ((impl_Market_seller.f k l p m f a b c x4).bind fun t1 => ((impl_Market_seller.f k l p m f a b c x3).bind fun t2 => (if t1 > t2 then (impl_Market_sellerOrder.m0 k l p m f a b c x4 (wrap64 (x4 + 1))) else (impl_Market_sellerOrder.m0 k l p m f a b c x3 (wrap64 (x4 + 1)))))) else (some x3)
def impl_Market_sellerOrder.f (k : Nat) (l0_0 : List Int) (a0_1 : Int) (a0_2 : Int) (a0_3 : Int) (a1_0 : Int) (a1_1 : Int) (a1_2 : Int) : Option (Int) := impl_Market_sellerOrder.m0 k l0_0 a0_1 a0_2 a0_3 a1_0 a1_1 a1_2 0 1
theorem impl_Market_sellerOrder.mono_l : ∀ k, (∀ y0 y1 y2 y3 y4 y5 y6 y7 y8, LeO (impl_Market_sellerOrder.m0 k y0 y1 y2 y3 y4 y5 y6 y7 y8) (impl_Market_sellerOrder.m0 (k + 1) y0 y1 y2 y3 y4 y5 y6 y7 y8))
 | 0 => fun _ _ _ _ _ _ _ _ _ r h => by simp [impl_Market_sellerOrder.m0] at h
 | k + 1 => by
  have ih0 := impl_Market_sellerOrder.mono_l k
  intro y0 y1 y2 y3 y4 y5 y6 y7 y8
  unfold impl_Market_sellerOrder.m0
  repeat' first
   | (with_reducible exact ih0 _ _ _ _ _ _ _ _ _)
   | (with_reducible exact impl_Market_seller.mono _ _ _ _ _ _ _ _ _)
   | (with_reducible exact LeO.refl _)
   | (with_reducible exact LeO.none _)
   | (with_reducible refine LeO.ite ?_ ?_)
   | (with_reducible refine LeO.bind ?_ (fun _ => ?_))
theorem impl_Market_sellerOrder.mono : ∀ a0 a1 a2 a3 a4 a5 a6 k, LeO (impl_Market_sellerOrder.f k a0 a1 a2 a3 a4 a5 a6) (impl_Market_sellerOrder.f (k + 1) a0 a1 a2 a3 a4 a5 a6) := by
 intro a0 a1 a2 a3 a4 a5 a6 k
 exact impl_Market_sellerOrder.mono_l k _ _ _ _ _ _ _ _ _
set_option maxHeartbeats 8000000 in
set_option maxRecDepth 100000 in
theorem impl_Market_sellerOrder_fn (k : Nat) (A0_0 : Option Addr) (c0_0 : Nat) (l0_0 : List Int) (a0_1 : Int) (a0_2 : Int) (a0_3 : Int) (a1_0 : Int) (a1_1 : Int) (a1_2 : Int) (q r : Int) (gm gk : Nat) (w : World) (hr0_0 : Kd.C (Kd.int .i64) w A0_0 l0_0.length l0_0) (hc0_0 : l0_0.length ≤ c0_0)
  (hm : w.heap[gm]? = some (.cells #[.slice A0_0 l0_0.length c0_0, .int .i64 a0_1, .int .i64 a0_2, .int .i64 a0_3] 30 (0, 0))) (hk : w.heap[gk]? = some (.cells #[.int .i64 a1_0, .int .i64 a1_1, .int .i64 a1_2] 32 (0, 0)))
  (h : impl_Market_seller.f k l0_0 a0_1 a0_2 a0_3 a1_0 a1_1 a1_2 q = some r) :
  Calls Try.prog 104 #[.int .i64 q, .pointer (some ⟨gm, 0, none⟩), .pointer (some ⟨gk, 0, none⟩)] w fun e w' => e = .returned (.int .i64 r) ∧ Below w.heap.size w w' := by
 have hum := Try.underlying30
 have huc := Try.underlying32
 have HR0_0 := z6_A hr0_0
 have HC0_0 := z6_A hc0_0
 have E1 := z6_A h
 clear hr0_0 hc0_0 h
 have m0 : w.cell? ⟨gm, 0, none⟩ = some (.slice A0_0 l0_0.length c0_0) := bcz hm 0 rfl
 have m1 : w.cell? ⟨gm, 1, none⟩ = some (.int .i64 a0_1) := bcz hm 1 rfl
 have m2 : w.cell? ⟨gm, 2, none⟩ = some (.int .i64 a0_2) := bcz hm 2 rfl
 have m3 : w.cell? ⟨gm, 3, none⟩ = some (.int .i64 a0_3) := bcz hm 3 rfl
 have k0 : w.cell? ⟨gk, 0, none⟩ = some (.int .i64 a1_0) := bcz hk 0 rfl
 have k1 : w.cell? ⟨gk, 1, none⟩ = some (.int .i64 a1_1) := bcz hk 1 rfl
 have k2 : w.cell? ⟨gk, 2, none⟩ = some (.int .i64 a1_2) := bcz hk 2 rfl
 clear hm hk
 go_enter Try.func104, Try.ntmps104
 go_wp2_with fail
 refine (impl_Market_seller.calls k A0_0 c0_0 l0_0 a0_1 a0_2 a0_3 a1_0 a1_1 a1_2 q r _ HR0_0.out HC0_0.out E1.out).mono ?_
 rintro e w1 ⟨rfl, hb1⟩
 have HB1 := z6_A hb1
 clear hb1
 go_wp2
 go_ret
 exact ⟨rfl, HB1.out⟩
set_option maxHeartbeats 8000000 in
set_option maxRecDepth 100000 in
theorem impl_mostOrder_seller (k : Nat) (A0_0 : Option Addr) (c0_0 : Nat) (l0_0 : List Int) (a0_1 : Int) (a0_2 : Int) (a0_3 : Int) (a1_0 : Int) (a1_1 : Int) (a1_2 : Int) (r : Int) (bm bk : Nat) (w : World) (hr0_0 : Kd.C (Kd.int .i64) w A0_0 l0_0.length l0_0) (hc0_0 : l0_0.length ≤ c0_0)
  (hm : w.heap[bm]? = some (.cells #[.slice A0_0 l0_0.length c0_0, .int .i64 a0_1, .int .i64 a0_2, .int .i64 a0_3] 30 (0, 0))) (hk : w.heap[bk]? = some (.cells #[.int .i64 a1_0, .int .i64 a1_1, .int .i64 a1_2] 32 (0, 0)))
  (h : impl_Market_sellerOrder.m0 k l0_0 a0_1 a0_2 a0_3 a1_0 a1_1 a1_2 0 1 = some r) :
  Calls Try.prog 86 #[.func (.func 104) #[] #[.pointer (some ⟨bm, 0, none⟩), .pointer (some ⟨bk, 0, none⟩)]] w fun e w' => e = .returned (.int .i64 r) ∧ Below w.heap.size w w' := by
 have HR0_0 := z6_A hr0_0
 have HC0_0 := z6_A hc0_0
 have HGM := z6_A hm
 have HGK := z6_A hk
 clear hr0_0 hc0_0 hm hk
 have HB := z6_A (Below.refl w.heap.size w)
 have H' := z6_A h
 clear h
 go_enter Try.func86, Try.ntmps86
 go_wp2
 go_loopg [3, 4] k (fun kq v3 v4 w' => ∃ (x3_1 : Int) (x4_1 : Int), v3 = .int .i64 x3_1 ∧ v4 = .int .i64 x4_1 ∧ Aside0 (impl_Market_sellerOrder.m0 kq l0_0 a0_1 a0_2 a0_3 a1_0 a1_1 a1_2 x3_1 x4_1 = some r) ∧ Aside0 (kq ≤ k) ∧ Aside0 (Below w.heap.size w w'))
 case atStart => exact ⟨(0), (1), z6_8, z6_8, H', ⟨Nat.le_refl _⟩, HB⟩
 case round =>
  clear H' HB
  obtain ⟨x3_1, x4_1, rfl, rfl, HA, HK1, HB⟩ := hrel
  cases gk with
  | zero => exact absurd HA.out (by simp [impl_Market_sellerOrder.m0])
  | succ k1 =>
   have H := HA.out
   clear HA
   simp only [impl_Market_sellerOrder.m0] at H
   by_cases c2 : x4_1 ≤ 8
   ·rw [if_pos c2] at H
    have c2b0 : decide (x4_1 ≤ 8) = true := decide_eq_true c2
    clear c2
    cases e1 : impl_Market_seller.f k1 l0_0 a0_1 a0_2 a0_3 a1_0 a1_1 a1_2 x4_1 with
    | none => rw [e1] at H; cases H
    | some t1 =>
     rw [e1, Option.bind_some] at H
     cases e2 : impl_Market_seller.f k1 l0_0 a0_1 a0_2 a0_3 a1_0 a1_1 a1_2 x3_1 with
     | none => rw [e2] at H; cases H
     | some t2 =>
      rw [e2, Option.bind_some] at H
      have E1 := z6_A e1
      have E2 := z6_A e2
      have H' := z6_A H
      clear H e1 e2
      go_wp2_with fail
      refine (impl_Market_sellerOrder_fn k1 A0_0 c0_0 l0_0 a0_1 a0_2 a0_3 a1_0 a1_1 a1_2 x4_1 t1 bm bk _ (Kd.C_below HR0_0.out HB.out) HC0_0.out ((HB.out.block _ (blk_lt HGM.out)).trans HGM.out) ((HB.out.block _ (blk_lt HGK.out)).trans HGK.out) E1.out).mono ?_
      rintro e w1 ⟨rfl, hb1⟩
      have HB1 := z6_A (below_step HB.out hb1)
      clear hb1
      go_wp2_with fail
      refine (impl_Market_sellerOrder_fn k1 A0_0 c0_0 l0_0 a0_1 a0_2 a0_3 a1_0 a1_1 a1_2 x3_1 t2 bm bk _ (Kd.C_below HR0_0.out HB1.out) HC0_0.out ((HB1.out.block _ (blk_lt HGM.out)).trans HGM.out) ((HB1.out.block _ (blk_lt HGK.out)).trans HGK.out) E2.out).mono ?_
      rintro e w2 ⟨rfl, hb2⟩
      have HB2 := z6_A (below_step HB1.out hb2)
      clear hb2
      have HM := z6_A (Nat.le_trans (Nat.le_succ k1) HK1.out)
      by_cases ct : t1 > t2
      ·have H2 := H'.out
       rw [if_pos ct] at H2
       have ctb : decide (t1 > t2) = true := decide_eq_true ct
       clear H' ct
       have H' := z6_A H2
       clear H2
       go_wp2
       go_roundg k1
       case measure => have := HK1.out; omega
       case rel => exact ⟨_, _, rfl, rfl, H', HM, HB2⟩
      ·have H2 := H'.out
       rw [if_neg ct] at H2
       have ctb : decide (t1 > t2) = false := decide_eq_false ct
       clear H' ct
       have H' := z6_A H2
       clear H2
       go_wp2
       go_roundg k1
       case measure => have := HK1.out; omega
       case rel => exact ⟨_, _, rfl, rfl, H', HM, HB2⟩
   ·rw [if_neg c2] at H
    have c2b0 : decide (x4_1 ≤ 8) = false := decide_eq_false c2
    clear c2
    obtain rfl := Option.some.inj H
    go_wp2
    go_ret
    exact ⟨z6_8, HB.out⟩
set_option maxHeartbeats 8000000 in
set_option maxRecDepth 100000 in
theorem impl_Market_sellerOrder.calls (k : Nat) (A0_0 : Option Addr) (c0_0 : Nat) (l0_0 : List Int) (a0_1 : Int) (a0_2 : Int) (a0_3 : Int) (a1_0 : Int) (a1_1 : Int) (a1_2 : Int) (r : Int) (w : World) (hr0_0 : Kd.C (Kd.int .i64) w A0_0 l0_0.length l0_0) (hc0_0 : l0_0.length ≤ c0_0) (h : impl_Market_sellerOrder.f k l0_0 a0_1 a0_2 a0_3 a1_0 a1_1 a1_2 = some r) :
  Calls Try.prog 79 #[.agg #[.slice A0_0 l0_0.length c0_0, .int .i64 a0_1, .int .i64 a0_2, .int .i64 a0_3], .agg #[.int .i64 a1_0, .int .i64 a1_1, .int .i64 a1_2]] w fun e w' => e = .returned (.int .i64 r) ∧ Below w.heap.size w w' := by
 have hmf : ∀ (fn : Fn) (first cap : Array Value) (w : World), (Instr.makeFunc fn first cap).run Try.prog w = .ok (.func fn first cap) w := fun _ _ _ _ => rfl
 have HR0_0 := z6_A hr0_0
 have HC0_0 := z6_A hc0_0
 have H := z6_A h
 clear hr0_0 hc0_0 h
 go_enter Try.func79, Try.ntmps79
 go_wp2_with fail
 refine (impl_mostOrder_seller k A0_0 c0_0 l0_0 a0_1 a0_2 a0_3 a1_0 a1_1 a1_2 r _ _ _ (by repeat (first | exact HR0_0.out | (with_reducible refine Kd.C_alloc ?_ _))) HC0_0.out ?hm ?hk H.out).mono ?_
 case hm => exact blk_alloc (by simpa using heap_alloc_new w _) _
 case hk => simpa using heap_alloc_new (w.alloc _) _
 rintro e w1 ⟨rfl, hb1⟩
 have HB1 := z6_A hb1
 clear hb1
 go_wp2
 go_ret
 exact ⟨rfl, below_step (below_alloc (below_alloc (Below.refl _ _) _) _) HB1.out⟩

end Go.Proofs.Ytiniocecpgjikaa.PFnProfits
