-- A text of this session (its program hook.py, over the kit's print.py): not a print of print.sh
-- THIN: one blank for two
import Derived.Test.YtgkjnhajomjhcaaPFnAgesx0
import Derived.Test.YtgkjnhajomjhcaaPFnAgesx3
import Derived.Test.YtgkjnhajomjhcaaPFnAgesx4
import Derived.Test.YtgkjnhajomjhcaaPFnAgesx7
namespace Go.Proofs.Ytgkjnhajomjhcaa.PFnAges
open Go.RowKit Go.Proofs.YtgkjnhajomjhcaaW.PrintWords Go.Proofs.YtgkjnhajomjhcaaW.PrintLast Go.Proofs.YtgkjnhajomjhcaaW.PrintMore
attribute [local go_sem] max2_int min2_int max_two min_two max_three min_three max_four min_four   -- for this text's walks alone
set_option linter.unusedVariables false
set_option linter.unusedSimpArgs false

/-! ### impl_Shelf_bound: function 77 (by hand) -/
mutual
def impl_Shelf_bound.l0 : Nat → List Int → Int → Int → Int → List Int → List Int → Int → Int → Option (Int)
 | 0, _, _, _, _, _, _, _, _ => none
 | k + 1, s, b, e, a, f, g, c, d => if e < (s.length : Int) then (if 0 ≤ e then (if 0 ≤ (rd s e) then (if (rd s e) < (g.length : Int) then (impl_Shelf_bound.l0 k s (wrap64 (b + (rd g (rd s e)))) (wrap64 (e + 1)) a f g c d) else none) else none) else none) else (impl_Shelf_bound.l1 k s b 0 a f g c d)
def impl_Shelf_bound.l1 : Nat → List Int → Int → Int → Int → List Int → List Int → Int → Int → Option (Int)
 | 0, _, _, _, _, _, _, _, _ => none
 | k + 1, s, b, e, a, f, g, c, d => if e < (f.length : Int) then (if 0 ≤ e then ((impl_Shelf_bound.c0 k s 0 e a f g c d).bind fun t => (if t = true then (impl_Shelf_bound.l1 k s (wrap64 (b - (rd f e))) (wrap64 (e + 1)) a f g c d) else (impl_Shelf_bound.l1 k s b (wrap64 (e + 1)) a f g c d))) else none) else (some b)
def impl_Shelf_bound.c0 : Nat → List Int → Int → Int → Int → List Int → List Int → Int → Int → Option (Bool)
 | 0, _, _, _, _, _, _, _, _ => none
 | k + 1, s, b, i, a, e, f, c, d => if b < (s.length : Int) then (if 0 ≤ b then ((impl_Shelf_can.f a e f c d i (rd s b)).bind fun t => (if t = true then (some true) else (impl_Shelf_bound.c0 k s (wrap64 (b + 1)) i a e f c d))) else none) else (some false)
end
def impl_Shelf_bound.f (k : Nat) (a : Int) (b : List Int) (c : List Int) (d : Int) (e : Int) (f : List Int) : Option (Int) := impl_Shelf_bound.l0 k f 0 0 a b c d e
theorem impl_Shelf_bound.mono_l : ∀ k, (∀ y0 y1 y2 y3 y4 y5 y6 y7, LeO (impl_Shelf_bound.l0 k y0 y1 y2 y3 y4 y5 y6 y7) (impl_Shelf_bound.l0 (k + 1) y0 y1 y2 y3 y4 y5 y6 y7)) ∧ (∀ y0 y1 y2 y3 y4 y5 y6 y7, LeO (impl_Shelf_bound.l1 k y0 y1 y2 y3 y4 y5 y6 y7) (impl_Shelf_bound.l1 (k + 1) y0 y1 y2 y3 y4 y5 y6 y7)) ∧ (∀ y0 y1 y2 y3 y4 y5 y6 y7, LeO (impl_Shelf_bound.c0 k y0 y1 y2 y3 y4 y5 y6 y7) (impl_Shelf_bound.c0 (k + 1) y0 y1 y2 y3 y4 y5 y6 y7))
 | 0 => ⟨fun _ _ _ _ _ _ _ _ r h => by simp [impl_Shelf_bound.l0] at h, fun _ _ _ _ _ _ _ _ r h => by simp [impl_Shelf_bound.l1] at h, fun _ _ _ _ _ _ _ _ r h => by simp [impl_Shelf_bound.c0] at h⟩
 | k + 1 => by
  obtain ⟨ih0, ih1, ih2⟩ := impl_Shelf_bound.mono_l k
  refine ⟨?_, ?_, ?_⟩ <;> intros <;> (first | unfold impl_Shelf_bound.l0 | unfold impl_Shelf_bound.l1 | unfold impl_Shelf_bound.c0) <;> repeat' with_reducible first | apply ih0 | apply ih1 | apply ih2 | exact LeO.refl _ | refine LeO.ite ?_ ?_ | refine LeO.bind ?_ (fun _ => ?_)
theorem impl_Shelf_bound.mono : ∀ a0 a1 a2 a3 a4 a5 k, LeO (impl_Shelf_bound.f k a0 a1 a2 a3 a4 a5) (impl_Shelf_bound.f (k + 1) a0 a1 a2 a3 a4 a5) := by
 intro a0 a1 a2 a3 a4 a5 k
 exact (impl_Shelf_bound.mono_l k).1 _ _ _ _ _ _ _ _
set_option maxHeartbeats 8000000 in
set_option maxRecDepth 100000 in
theorem impl_Shelf_bound.fn (a0_0 : Int) (A0_1 : Option Addr) (c0_1 : Nat) (l0_1 : List Int) (A0_2 : Option Addr) (c0_2 : Nat) (l0_2 : List Int) (a0_3 : Int) (a0_4 : Int) (i x : Int) (t : Bool) (gs gi : Nat) (w : World) (hr0_1 : Kd.C (Kd.int .i64) w A0_1 l0_1.length l0_1) (hc0_1 : l0_1.length ≤ c0_1) (hr0_2 : Kd.C (Kd.int .i64) w A0_2 l0_2.length l0_2) (hc0_2 : l0_2.length ≤ c0_2)
  (hs : w.heap[gs]? = some (.cells #[.int .i64 a0_0, .slice A0_1 l0_1.length c0_1, .slice A0_2 l0_2.length c0_2, .int .i64 a0_3, .int .i64 a0_4] 30 (0, 0))) (hi : w.heap[gi]? = some (.cells #[.int .i64 i] 3 (0, 0)))
  (h : impl_Shelf_can.f a0_0 l0_1 l0_2 a0_3 a0_4 i x = some t) :
  Calls Try.prog 106 #[.int .i64 x, .pointer (some ⟨gs, 0, none⟩), .pointer (some ⟨gi, 0, none⟩)] w fun e w' => e = .returned (.bool t) ∧ Below w.heap.size w w' := by
 have hus := Try.underlying30
 have HR0_1 := zA hr0_1
 have HC0_1 := zA hc0_1
 have HR0_2 := zA hr0_2
 have HC0_2 := zA hc0_2
 have E1 := zA h
 clear hr0_1 hc0_1 hr0_2 hc0_2 h
 have m0 : w.cell? ⟨gs, 0, none⟩ = some (.int .i64 a0_0) := (blk_cell hs 0).trans rfl
 have m1 : w.cell? ⟨gs, 1, none⟩ = some (.slice A0_1 l0_1.length c0_1) := (blk_cell hs 1).trans rfl
 have m2 : w.cell? ⟨gs, 2, none⟩ = some (.slice A0_2 l0_2.length c0_2) := (blk_cell hs 2).trans rfl
 have m3 : w.cell? ⟨gs, 3, none⟩ = some (.int .i64 a0_3) := (blk_cell hs 3).trans rfl
 have m4 : w.cell? ⟨gs, 4, none⟩ = some (.int .i64 a0_4) := (blk_cell hs 4).trans rfl
 have k0 : w.cell? ⟨gi, 0, none⟩ = some (.int .i64 i) := (blk_cell hi 0).trans rfl
 clear hs hi
 go_enter Try.func106, Try.ntmps106
 go_wp2_with fail
 refine (impl_Shelf_can.calls a0_0 A0_1 c0_1 l0_1 A0_2 c0_2 l0_2 a0_3 a0_4 i x t _ HR0_1.out HC0_1.out HR0_2.out HC0_2.out E1.out).mono ?_
 rintro e w1 ⟨rfl, hb1⟩
 have HB1 := zA hb1
 clear hb1
 go_wp2
 go_ret
 exact ⟨rfl, HB1.out⟩
set_option maxHeartbeats 8000000 in
set_option maxRecDepth 100000 in
theorem impl_Shelf_bound.index (k : Nat) (a0_0 : Int) (A0_1 : Option Addr) (c0_1 : Nat) (l0_1 : List Int) (A0_2 : Option Addr) (c0_2 : Nat) (l0_2 : List Int) (a0_3 : Int) (a0_4 : Int) (A1 : Option Addr) (c1 : Nat) (l1 : List Int) (i : Int) (r : Bool) (gs gi : Nat) (w : World) (hr0_1 : Kd.C (Kd.int .i64) w A0_1 l0_1.length l0_1) (hc0_1 : l0_1.length ≤ c0_1) (hr0_2 : Kd.C (Kd.int .i64) w A0_2 l0_2.length l0_2) (hc0_2 : l0_2.length ≤ c0_2) (hr1 : Kd.C (Kd.int .i64) w A1 l1.length l1) (hc1 : l1.length ≤ c1)
  (hs : w.heap[gs]? = some (.cells #[.int .i64 a0_0, .slice A0_1 l0_1.length c0_1, .slice A0_2 l0_2.length c0_2, .int .i64 a0_3, .int .i64 a0_4] 30 (0, 0))) (hi : w.heap[gi]? = some (.cells #[.int .i64 i] 3 (0, 0)))
  (h : impl_Shelf_bound.c0 k l1 0 i a0_0 l0_1 l0_2 a0_3 a0_4 = some r) :
  Calls Try.prog 117 #[.slice A1 l1.length c1, .func (.func 106) #[] #[.pointer (some ⟨gs, 0, none⟩), .pointer (some ⟨gi, 0, none⟩)]] w fun e w' => (∃ j : Int, e = .returned (.int .i64 j) ∧ decide (0 ≤ j) = r) ∧ Below w.heap.size w w' := by
 have HR0_1 := zA hr0_1
 have HC0_1 := zA hc0_1
 have HR0_2 := zA hr0_2
 have HC0_2 := zA hc0_2
 have HR1 := zA hr1
 have HC1 := zA hc1
 have BS := zA hs
 have BI := zA hi
 clear hr0_1 hc0_1 hr0_2 hc0_2 hr1 hc1 hs hi
 have HB := zA (Below.refl w.heap.size w)
 have H' := zA h
 clear h
 go_enter Try.func117, Try.ntmps117
 go_wp2
 go_loopg [8] k (fun kq v8 w' => ∃ (x8_1 : Int), v8 = .int .i64 x8_1 ∧ Aside0 (impl_Shelf_bound.c0 kq l1 x8_1 i a0_0 l0_1 l0_2 a0_3 a0_4 = some r) ∧ Aside0 (kq ≤ k) ∧ Aside0 (Below w.heap.size w w'))
 case atStart => exact ⟨(0), (by rfl), H', ⟨Nat.le_refl _⟩, HB⟩
 case round =>
  clear H' HB
  obtain ⟨x8_1, rfl, HA, HK1, HB⟩ := hrel
  cases gk with
  | zero => exact absurd HA.out (by simp [impl_Shelf_bound.c0])
  | succ k1 =>
   have H := HA.out
   clear HA
   simp only [impl_Shelf_bound.c0] at H
   by_cases c2 : x8_1 < (l1.length : Int)
   ·rw [if_pos c2] at H
    have c2b0 : decide (x8_1 < (l1.length : Int)) = true := decide_eq_true c2
    clear c2
    by_cases c3 : 0 ≤ x8_1
    ·rw [if_pos c3] at H
     have c3b0 : decide (0 ≤ x8_1) = true := decide_eq_true c3
     clear c3
     cases e1 : impl_Shelf_can.f a0_0 l0_1 l0_2 a0_3 a0_4 i (rd l1 x8_1) with
     | none => rw [e1] at H; cases H
     | some t1 =>
      rw [e1, Option.bind_some] at H
      have E1 := zA e1
      have H' := zA H
      clear H e1
      have p128 : 0 ≤ (x8_1 : Int) := of_decide_eq_true (by (with_reducible assumption))
      have q128 : x8_1 < (l1.length : Int) := of_decide_eq_true (by (with_reducible assumption))
      obtain ⟨ad128, e128, hx128_0⟩ := Kd.at_int HR1.out x8_1 p128 q128
      cases e128
      replace hx128_0 := (HB.out.cell (World.block_lt_of_cell? w _ hx128_0)).trans hx128_0
      replace p128 := eq_true p128
      replace q128 := eq_true q128
      go_wp2_with fail
      refine (impl_Shelf_bound.fn a0_0 A0_1 c0_1 l0_1 A0_2 c0_2 l0_2 a0_3 a0_4 i (rd l1 x8_1) t1 gs gi _ (Kd.C_below HR0_1.out HB.out) HC0_1.out (Kd.C_below HR0_2.out HB.out) HC0_2.out (blk_below BS.out HB.out) (blk_below BI.out HB.out) E1.out).mono ?_
      rintro e w1 ⟨rfl, hb1⟩
      have HB1 := zA (below_step HB.out hb1)
      clear hb1
      cases t1 with
      | true =>
       have H2 := H'.out
       rw [if_pos rfl] at H2
       obtain rfl := Option.some.inj H2
       clear H2
       go_wp2
       go_ret
       exact ⟨⟨_, rfl, c3b0⟩, HB1.out⟩
      | false =>
       have H2 := H'.out
       rw [if_neg (by decide)] at H2
       have H3 := zA H2
       clear H2
       go_wp2
       go_roundg k1
       case measure => have := HK1.out; omega
       case rel => exact ⟨_, rfl, H3, ⟨Nat.le_trans (Nat.le_succ k1) HK1.out⟩, HB1⟩
    ·rw [if_neg c3] at H
     cases H
   ·rw [if_neg c2] at H
    have c2b0 : decide (x8_1 < (l1.length : Int)) = false := decide_eq_false c2
    clear c2
    obtain rfl := Option.some.inj H
    go_wp2
    go_ret
    exact ⟨⟨_, rfl, by decide⟩, HB.out⟩
set_option maxHeartbeats 8000000 in
set_option maxRecDepth 100000 in
theorem impl_Shelf_bound.contains (k : Nat) (a0_0 : Int) (A0_1 : Option Addr) (c0_1 : Nat) (l0_1 : List Int) (A0_2 : Option Addr) (c0_2 : Nat) (l0_2 : List Int) (a0_3 : Int) (a0_4 : Int) (A1 : Option Addr) (c1 : Nat) (l1 : List Int) (i : Int) (r : Bool) (gs gi : Nat) (w : World) (hr0_1 : Kd.C (Kd.int .i64) w A0_1 l0_1.length l0_1) (hc0_1 : l0_1.length ≤ c0_1) (hr0_2 : Kd.C (Kd.int .i64) w A0_2 l0_2.length l0_2) (hc0_2 : l0_2.length ≤ c0_2) (hr1 : Kd.C (Kd.int .i64) w A1 l1.length l1) (hc1 : l1.length ≤ c1)
  (hs : w.heap[gs]? = some (.cells #[.int .i64 a0_0, .slice A0_1 l0_1.length c0_1, .slice A0_2 l0_2.length c0_2, .int .i64 a0_3, .int .i64 a0_4] 30 (0, 0))) (hi : w.heap[gi]? = some (.cells #[.int .i64 i] 3 (0, 0)))
  (h : impl_Shelf_bound.c0 k l1 0 i a0_0 l0_1 l0_2 a0_3 a0_4 = some r) :
  Calls Try.prog 105 #[.slice A1 l1.length c1, .func (.func 106) #[] #[.pointer (some ⟨gs, 0, none⟩), .pointer (some ⟨gi, 0, none⟩)]] w fun e w' => e = .returned (.bool r) ∧ Below w.heap.size w w' := by
 have hI := zA (impl_Shelf_bound.index k a0_0 A0_1 c0_1 l0_1 A0_2 c0_2 l0_2 a0_3 a0_4 A1 c1 l1 i r gs gi w hr0_1 hc0_1 hr0_2 hc0_2 hr1 hc1 hs hi h)
 clear hr0_1 hc0_1 hr0_2 hc0_2 hr1 hc1 hs hi h
 go_enter Try.func105, Try.ntmps105
 go_wp2_with fail
 refine hI.out.mono ?_
 rintro e w1 ⟨⟨j, rfl, hj⟩, hb1⟩
 have HB1 := zA hb1
 have HJ := zA hj
 clear hb1 hj
 go_wp2
 go_ret
 exact ⟨by rw [← HJ.out]; rfl, HB1.out⟩
set_option maxHeartbeats 8000000 in
set_option maxRecDepth 100000 in
theorem impl_Shelf_bound.calls (k : Nat) (a0_0 : Int) (A0_1 : Option Addr) (c0_1 : Nat) (l0_1 : List Int) (A0_2 : Option Addr) (c0_2 : Nat) (l0_2 : List Int) (a0_3 : Int) (a0_4 : Int) (A1 : Option Addr) (c1 : Nat) (l1 : List Int) (r : Int) (w : World) (hr0_1 : Kd.C (Kd.int .i64) w A0_1 l0_1.length l0_1) (hc0_1 : l0_1.length ≤ c0_1) (hr0_2 : Kd.C (Kd.int .i64) w A0_2 l0_2.length l0_2) (hc0_2 : l0_2.length ≤ c0_2) (hr1 : Kd.C (Kd.int .i64) w A1 l1.length l1) (hc1 : l1.length ≤ c1) (h : impl_Shelf_bound.f k a0_0 l0_1 l0_2 a0_3 a0_4 l1 = some r) :
  Calls Try.prog 77 #[.agg #[.int .i64 a0_0, .slice A0_1 l0_1.length c0_1, .slice A0_2 l0_2.length c0_2, .int .i64 a0_3, .int .i64 a0_4], .slice A1 l1.length c1] w fun e w' => e = .returned (.int .i64 r) ∧ Below w.heap.size w w' := by
 have hmf : ∀ (fn : Fn) (first cap : Array Value) (w : World), (Instr.makeFunc fn first cap).run Try.prog w = .ok (.func fn first cap) w := fun _ _ _ _ => rfl
 have hu30 := Try.underlying30
 have HR0_1 := zA hr0_1
 have HC0_1 := zA hc0_1
 have HR0_2 := zA hr0_2
 have HC0_2 := zA hc0_2
 have HR1 := zA hr1
 have HC1 := zA hc1
 clear hr0_1 hc0_1 hr0_2 hc0_2 hr1 hc1
 have HB := zA (Below.refl w.heap.size w)
 unfold impl_Shelf_bound.f at h
 have H' := zA h
 clear h
 go_enter Try.func77, Try.ntmps77
 go_wp2_with ((with_reducible refine gate_dst (N := 2) rfl ?_); refine box_event ?hg (N := 2) ?hd (cs := #[.int .i64 a0_0, .slice A0_1 l0_1.length c0_1, .slice A0_2 l0_2.length c0_2, .int .i64 a0_3, .int .i64 a0_4]) (t := 30) ?hr ?_; (case hd => rfl); (case hg => rfl); (case hr => (go_simp; done)); intro gb hg w3 hbox hb; have BS := zA hbox; replace HB := zA (below_step HB.out hb); have GE := zA (show w.heap.size ≤ gb by rw [hg]; exact Nat.le_refl _); clear hb hbox hg)
 go_loopg [5, 12] k (fun kq v5 v12 w' => ∃ (x5_1 : Int) (x12_1 : Int), v5 = .int .i64 x5_1 ∧ v12 = .int .i64 x12_1 ∧ Aside0 (impl_Shelf_bound.l0 kq l1 x5_1 x12_1 a0_0 l0_1 l0_2 a0_3 a0_4 = some r) ∧ Aside0 (kq ≤ k) ∧ Aside0 (w'.heap[gb]? = some (.cells #[.int .i64 a0_0, .slice A0_1 l0_1.length c0_1, .slice A0_2 l0_2.length c0_2, .int .i64 a0_3, .int .i64 a0_4] 30 (0, 0))) ∧ Aside0 (Below w.heap.size w w'))
 case atStart => exact ⟨(0), (0), (by rfl), (by rfl), H', ⟨Nat.le_refl _⟩, BS, HB⟩
 case round =>
  clear H' BS HB
  obtain ⟨x5_1, x12_1, rfl, rfl, HA, HK1, BS, HB⟩ := hrel
  cases gk with
  | zero => exact absurd HA.out (by simp [impl_Shelf_bound.l0])
  | succ k1 =>
   have H := HA.out
   clear HA
   simp only [impl_Shelf_bound.l0] at H
   have m0 : wr.cell? ⟨gb, 0, none⟩ = some (.int .i64 a0_0) := (blk_cell BS.out 0).trans rfl
   have m1 : wr.cell? ⟨gb, 1, none⟩ = some (.slice A0_1 l0_1.length c0_1) := (blk_cell BS.out 1).trans rfl
   have m2 : wr.cell? ⟨gb, 2, none⟩ = some (.slice A0_2 l0_2.length c0_2) := (blk_cell BS.out 2).trans rfl
   by_cases c2 : x12_1 < (l1.length : Int)
   ·rw [if_pos c2] at H
    have c2b0 : decide (x12_1 < (l1.length : Int)) = true := decide_eq_true c2
    clear c2
    by_cases c3 : 0 ≤ x12_1
    ·rw [if_pos c3] at H
     have c3b0 : decide (0 ≤ x12_1) = true := decide_eq_true c3
     clear c3
     by_cases c4 : 0 ≤ (rd l1 x12_1)
     ·rw [if_pos c4] at H
      have c4b0 : decide (0 ≤ (rd l1 x12_1)) = true := decide_eq_true c4
      clear c4
      by_cases c5 : (rd l1 x12_1) < (l0_2.length : Int)
      ·rw [if_pos c5] at H
       have c5b0 : decide ((rd l1 x12_1) < (l0_2.length : Int)) = true := decide_eq_true c5
       clear c5
       have H' := zA H
       clear H
       have p148 : 0 ≤ (x12_1 : Int) := of_decide_eq_true (by (with_reducible assumption))
       have q148 : x12_1 < (l1.length : Int) := of_decide_eq_true (by (with_reducible assumption))
       obtain ⟨ad148, e148, hx148_0⟩ := Kd.at_int HR1.out x12_1 p148 q148
       cases e148
       replace hx148_0 := (HB.out.cell (World.block_lt_of_cell? w _ hx148_0)).trans hx148_0
       replace p148 := eq_true p148
       replace q148 := eq_true q148
       have p149 : 0 ≤ ((rd l1 x12_1) : Int) := of_decide_eq_true (by (with_reducible assumption))
       have q149 : (rd l1 x12_1) < (l0_2.length : Int) := of_decide_eq_true (by (with_reducible assumption))
       obtain ⟨ad149, e149, hx149_0⟩ := Kd.at_int HR0_2.out (rd l1 x12_1) p149 q149
       cases e149
       replace hx149_0 := (HB.out.cell (World.block_lt_of_cell? w _ hx149_0)).trans hx149_0
       replace p149 := eq_true p149
       replace q149 := eq_true q149
       go_wp2
       go_roundg k1
       case measure => have := HK1.out; omega
       case rel => exact ⟨_, _, rfl, rfl, H', ⟨Nat.le_trans (Nat.le_succ k1) HK1.out⟩, BS, HB⟩
      ·rw [if_neg c5] at H
       cases H
     ·rw [if_neg c4] at H
      cases H
    ·rw [if_neg c3] at H
     cases H
   ·rw [if_neg c2] at H
    have c2b0 : decide (x12_1 < (l1.length : Int)) = false := decide_eq_false c2
    clear c2
    have H' := zA H
    clear H
    go_wp2
    go_loopg [5, 27] k1 (fun kq v5 v27 w' => ∃ (x5_2 : Int) (x27_2 : Int), v5 = .int .i64 x5_2 ∧ v27 = .int .i64 x27_2 ∧ Aside0 (impl_Shelf_bound.l1 kq l1 x5_2 x27_2 a0_0 l0_1 l0_2 a0_3 a0_4 = some r) ∧ Aside0 (kq ≤ k1) ∧ Aside0 (w'.heap[gb]? = some (.cells #[.int .i64 a0_0, .slice A0_1 l0_1.length c0_1, .slice A0_2 l0_2.length c0_2, .int .i64 a0_3, .int .i64 a0_4] 30 (0, 0))) ∧ Aside0 (Below w.heap.size w w'))
    case atStart => exact ⟨_, (0), (by rfl), (by rfl), H', ⟨Nat.le_refl _⟩, BS, HB⟩
    case round =>
     clear H' BS HB m0 m1 m2
     obtain ⟨x5_2, x27_2, rfl, rfl, HA, HK2, BS, HB⟩ := hrel
     cases gk with
     | zero => exact absurd HA.out (by simp [impl_Shelf_bound.l1])
     | succ k2 =>
      have H := HA.out
      clear HA
      simp only [impl_Shelf_bound.l1] at H
      by_cases c6 : x27_2 < (l0_1.length : Int)
      ·rw [if_pos c6] at H
       have c6b0 : decide (x27_2 < (l0_1.length : Int)) = true := decide_eq_true c6
       clear c6
       by_cases c7 : 0 ≤ x27_2
       ·rw [if_pos c7] at H
        have c7b0 : decide (0 ≤ x27_2) = true := decide_eq_true c7
        clear c7
        cases e1 : impl_Shelf_bound.c0 k2 l1 0 x27_2 a0_0 l0_1 l0_2 a0_3 a0_4 with
        | none => rw [e1] at H; cases H
        | some t1 =>
         rw [e1, Option.bind_some] at H
         have E1 := zA e1
         have H' := zA H
         clear H e1
         have p148 : 0 ≤ (x27_2 : Int) := of_decide_eq_true (by (with_reducible assumption))
         have q148 : x27_2 < (l0_1.length : Int) := of_decide_eq_true (by (with_reducible assumption))
         obtain ⟨ad148, e148, hx148_0⟩ := Kd.at_int HR0_1.out x27_2 p148 q148
         cases e148
         replace hx148_0 := (HB.out.cell (World.block_lt_of_cell? w _ hx148_0)).trans hx148_0
         replace p148 := eq_true p148
         replace q148 := eq_true q148
         go_wp2_with fail
         have HBa : Below w.heap.size w (wr.alloc (Obj.cells #[Value.int IntKind.i64 x27_2] 3)) := by
          apply below_alloc
          exact HB.out
         have BSa := blk_alloc BS.out (Obj.cells #[Value.int IntKind.i64 x27_2] 3)
         refine (impl_Shelf_bound.contains k2 a0_0 _ c0_1 l0_1 A0_2 c0_2 l0_2 a0_3 a0_4 A1 c1 l1 x27_2 t1 gb wr.heap.size _ (Kd.C_below HR0_1.out HBa) HC0_1.out (Kd.C_below HR0_2.out HBa) HC0_2.out (Kd.C_below HR1.out HBa) HC1.out BSa (heap_alloc_new wr _) E1.out).mono ?_
         rintro e w1 ⟨rfl, hb1⟩
         have HB1 := zA (below_step HBa hb1)
         have BS1 := zA (blk_below BSa hb1)
         clear hb1 HBa BSa BS HB
         cases t1 with
         | true =>
          have H2 := H'.out
          rw [if_pos rfl] at H2
          have H3 := zA H2
          clear H2
          go_wp2
          go_roundg k2
          case measure => have := HK2.out; omega
          case rel => exact ⟨_, _, rfl, rfl, H3, ⟨Nat.le_trans (Nat.le_succ k2) HK2.out⟩, BS1, HB1⟩
         | false =>
          have H2 := H'.out
          rw [if_neg (by decide)] at H2
          have H3 := zA H2
          clear H2
          go_wp2
          go_roundg k2
          case measure => have := HK2.out; omega
          case rel => exact ⟨_, _, rfl, rfl, H3, ⟨Nat.le_trans (Nat.le_succ k2) HK2.out⟩, BS1, HB1⟩
       ·rw [if_neg c7] at H
        cases H
      ·rw [if_neg c6] at H
       have c6b0 : decide (x27_2 < (l0_1.length : Int)) = false := decide_eq_false c6
       clear c6
       obtain rfl := Option.some.inj H
       go_wp2
       go_ret
       exact ⟨rfl, HB.out⟩
/-! ### impl_LostProof: function 32 -/
def impl_LostProof.l0 : Nat → List Int → Int → List (List Int) → Int → Int → Int → List Int → List Int → Int → Int → Option (List Int × Bool)
 | 0, _, _, _, _, _, _, _, _, _, _ => none
 | k + 1, a, b, c, d, e, f, g, h, i, j => if e < d then (if 0 ≤ e then (if e < (c.length : Int) then ((impl_Shelf_bound.f k f g h i j (rd_L1 c e)).bind fun l => (if l > b then (impl_LostProof.l0 k (rd_L1 c e) l c d (wrap64 (e + 1)) f g h i j) else (impl_LostProof.l0 k a b c d (wrap64 (e + 1)) f g h i j))) else (none)) else (none)) else (some (a, true))
def impl_LostProof.f (k : Nat) (a : Int) (b : List Int) (c : List Int) (d : Int) (e : Int) : Option (List Int × Bool) := (impl_IsShelf.f k a b c d e).bind fun f => (if f = true then ((impl_sets.f k (c.length : Int)).bind fun g => (impl_LostProof.l0 k (([] : List Int)) 0 g (g.length : Int) 0 a b c d e)) else (some (([] : List Int), false)))
theorem impl_LostProof.mono_l : ∀ k, (∀ y0 y1 y2 y3 y4 y5 y6 y7 y8 y9, LeO (impl_LostProof.l0 k y0 y1 y2 y3 y4 y5 y6 y7 y8 y9) (impl_LostProof.l0 (k + 1) y0 y1 y2 y3 y4 y5 y6 y7 y8 y9))
 | 0 => fun _ _ _ _ _ _ _ _ _ _ r h => by simp [impl_LostProof.l0] at h
 | k + 1 => by
  have ih0 := impl_LostProof.mono_l k
  ·intro y0 y1 y2 y3 y4 y5 y6 y7 y8 y9
   unfold impl_LostProof.l0
   repeat' with_reducible first | apply ih0 | apply impl_Shelf_bound.mono | exact LeO.refl _ | refine LeO.ite ?_ ?_ | refine LeO.bind ?_ (fun _ => ?_)
theorem impl_LostProof.mono : ∀ a0 a1 a2 a3 a4 k, LeO (impl_LostProof.f k a0 a1 a2 a3 a4) (impl_LostProof.f (k + 1) a0 a1 a2 a3 a4) := by
 intro a0 a1 a2 a3 a4 k
 have ih0 := impl_LostProof.mono_l k
 unfold impl_LostProof.f
 repeat' with_reducible first | apply ih0 | apply impl_IsShelf.mono | apply impl_sets.mono | exact LeO.refl _ | refine LeO.ite ?_ ?_ | refine LeO.bind ?_ (fun _ => ?_)
set_option maxHeartbeats 8000000 in
set_option maxRecDepth 100000 in
theorem impl_LostProof.calls (k : Nat) (a0_0 : Int) (A0_1 : Option Addr) (c0_1 : Nat) (l0_1 : List Int) (A0_2 : Option Addr) (c0_2 : Nat) (l0_2 : List Int) (a0_3 : Int) (a0_4 : Int) (r1 : List Int) (r2 : Bool) (w : World) (hr0_1 : Kd.C (Kd.int .i64) w A0_1 l0_1.length l0_1) (hc0_1 : l0_1.length ≤ c0_1) (hr0_2 : Kd.C (Kd.int .i64) w A0_2 l0_2.length l0_2) (hc0_2 : l0_2.length ≤ c0_2) (h : impl_LostProof.f k a0_0 l0_1 l0_2 a0_3 a0_4 = some (r1, r2)) :
  Calls Try.prog 32 #[.agg #[.int .i64 a0_0, .slice A0_1 l0_1.length c0_1, .slice A0_2 l0_2.length c0_2, .int .i64 a0_3, .int .i64 a0_4]] w fun e w' => ∃ v0_ : Value, e = .returned (.tuple #[v0_, .bool r2]) ∧ Kd.R (Kd.int .i64) 3 w' w.heap.size (fun _ => True) v0_ r1 ∧ Below w.heap.size w w' := by
 have hu30 := Try.underlying30; have HR0_1 := zA hr0_1; have HC0_1 := zA hc0_1; clear hr0_1 hc0_1; have HR0_2 := zA hr0_2; have HC0_2 := zA hc0_2; clear hr0_2 hc0_2; have HB := zA (Below.refl w.heap.size w); unfold impl_LostProof.f at h; revert h; intro H; obtain ⟨t224, A2, H⟩ := zB H; by_cases c3 : t224 = true; rotate_left
 ·replace c3 := Bool.eq_false_iff.mpr c3; subst c3; rw [if_neg (show ¬ (false = true) by decide)] at H; simp only [Option.some.injEq, Prod.mk.injEq] at H; obtain ⟨rfl, rfl⟩ := H; go_enter Try.func32, Try.ntmps32; go_wp2_with (first | ((with_reducible refine gate_dst (N := 1) rfl ?_); refine box_event ?hg (N := 1) ?hd (cs := #[.int .i64 a0_0, .slice A0_1 l0_1.length c0_1, .slice A0_2 l0_2.length c0_2, .int .i64 a0_3, .int .i64 a0_4]) (t := 30) ?hr ?_; (case hd => rfl); (case hg => rfl); (case hr => (go_simp; done)); intro gb223 hg w22 hbox hb; have BK223 := zA hbox; have GW223 := zA (by rw [hg]; exact (below_size HB.out) : w.heap.size ≤ gb223); have GE223 := zA (by rw [hg]; exact (below_size HB.out) : w.heap.size ≤ gb223); replace HB := zA (below_step HB.out hb); clear hb hbox hg; have hcz23_0 := zcf5 BK223.out) | ((with_reducible refine gate_callee (f := 51) rfl ?_); refine goesL_ (some 10) rfl rfl Try.func51 (by kernel_rfl) rfl #[.agg #[.int .i64 a0_0, .slice A0_1 l0_1.length c0_1, .slice A0_2 l0_2.length c0_2, .int .i64 a0_3, .int .i64 a0_4]] rfl (by (try simp only [List.map_toArray, List.map_cons, List.map_nil]); rfl) ?_; (with_reducible refine (impl_IsShelf.calls k a0_0 _ _ l0_1 _ _ l0_2 a0_3 a0_4 false _ ?side1 ?side2 ?side3 ?side4 A2.out).mono ?_); (case side1 => exact (Kd.C_below HR0_1.out HB.out)); (case side2 => exact HC0_1.out); (case side3 => exact (Kd.C_below HR0_2.out HB.out)); (case side4 => exact HC0_2.out); rintro e w24 ⟨rfl, hb⟩; refine ⟨_, rfl, ?_⟩; replace BK223 := zA (blk_below BK223.out hb); replace HB := zA (below_step HB.out hb); clear hb)); go_ret2; exact ⟨_, by rfl, by exact Kd.R_nil _ _ _ _ _, by exact HB.out⟩
 subst c3; rw [if_pos rfl] at H; obtain ⟨y225, hy225⟩ : ∃ y_ : List Int, y_ = (([] : List Int)) := ⟨_, rfl⟩; (replace H : ((impl_sets.f k (l0_2.length : Int)).bind fun t228 => (impl_LostProof.l0 k y225 0 t228 (t228.length : Int) 0 a0_0 l0_1 l0_2 a0_3 a0_4)) = some (r1, r2) := by (rw [hy225]; with_reducible exact H)); have Ny225 := zA hy225; clear hy225; obtain ⟨t228, A4, H⟩ := zB H; have H' := zA H; clear H; go_enter Try.func32, Try.ntmps32; go_wp2_with (first | ((with_reducible refine gate_dst (N := 1) rfl ?_); refine box_event ?hg (N := 1) ?hd (cs := #[.int .i64 a0_0, .slice A0_1 l0_1.length c0_1, .slice A0_2 l0_2.length c0_2, .int .i64 a0_3, .int .i64 a0_4]) (t := 30) ?hr ?_; (case hd => rfl); (case hg => rfl); (case hr => (go_simp; done)); intro gb223 hg w5 hbox hb; have BK223 := zA hbox; have GW223 := zA (by rw [hg]; exact (below_size HB.out) : w.heap.size ≤ gb223); have GE223 := zA (by rw [hg]; exact (below_size HB.out) : w.heap.size ≤ gb223); replace HB := zA (below_step HB.out hb); clear hb hbox hg; have hcz6_0 := zcf5 BK223.out) | ((with_reducible refine gate_callee (f := 51) rfl ?_); refine goesL_ (some 10) rfl rfl Try.func51 (by kernel_rfl) rfl #[.agg #[.int .i64 a0_0, .slice A0_1 l0_1.length c0_1, .slice A0_2 l0_2.length c0_2, .int .i64 a0_3, .int .i64 a0_4]] rfl (by (try simp only [List.map_toArray, List.map_cons, List.map_nil]); rfl) ?_; (with_reducible refine (impl_IsShelf.calls k a0_0 _ _ l0_1 _ _ l0_2 a0_3 a0_4 true _ ?side1 ?side2 ?side3 ?side4 A2.out).mono ?_); (case side1 => exact (Kd.C_below HR0_1.out HB.out)); (case side2 => exact HC0_1.out); (case side3 => exact (Kd.C_below HR0_2.out HB.out)); (case side4 => exact HC0_2.out); rintro e w7 ⟨rfl, hb⟩; refine ⟨_, rfl, ?_⟩; replace BK223 := zA (blk_below BK223.out hb); replace HB := zA (below_step HB.out hb); clear hb) | ((with_reducible refine gate_dst (N := 12) rfl ?_); refine Kd.R_lit (Kd.int .i64) _ 3 ?hg (N := 12) ?hd (xs := ([] : List Int)) (inner := []) (ok := fun _ => True) (okp := fun _ => True) ?hr ?hp (fun _ hk => hk) trivial (Below.refl _ _) (Nat.le_refl _) (by simp) ?_; (case hd => rfl); (case hg => rfl); (case hr => (go_simp; done)); (case hp => exact (Reps.none _ _)); intro v226 w8 ho9 hb hg_ hnew_; clear hg_ hnew_; (rw [← Ny225.out] at ho9); have HO227 := zA (Kd.R_lower ho9 (below_size HB.out)); replace BK223 := zA (blk_below BK223.out hb); replace HB := zA (below_step HB.out hb); clear hb ho9; have hcz10_0 := zcf5 BK223.out) | ((with_reducible refine gate_callee (f := 76) rfl ?_); refine goesL_ (some 16) rfl rfl Try.func76 (by kernel_rfl) rfl #[.int .i64 (l0_2.length : Int)] rfl (by (try simp only [List.map_toArray, List.map_cons, List.map_nil]); rfl) ?_; (with_reducible refine (impl_sets.calls k (l0_2.length : Int) t228 _ A4.out).mono ?_); rintro e w11 ⟨v229, rfl, ho0, hb⟩; refine ⟨_, rfl, ?_⟩; have HO230 := zA (Kd.S_lower (Kd.S_new' ho0 (Kd.R_lt (by exact HO227.out))) (below_size HB.out)); replace HO227 := zA (Kd.R_below (by exact HO227.out) hb); replace BK223 := zA (blk_below BK223.out hb); replace HB := zA (below_step HB.out hb); clear hb ho0; obtain ⟨Ao12, co12, eo12⟩ := Kd.S_slice HO230.out; subst eo12)); go_loopg [4, 5, 18] k (fun kq v4 v5 v18 w' => ∃ (x4_1 : List Int) (x5_1 : Int) (x18_1 : Int), v5 = .int .i64 x5_1 ∧ v18 = .int .i64 x18_1 ∧ Aside0 (impl_LostProof.l0 kq x4_1 x5_1 t228 (t228.length : Int) x18_1 a0_0 l0_1 l0_2 a0_3 a0_4 = some (r1, r2)) ∧ Aside0 (kq ≤ k) ∧ Aside0 (Kd.R (Kd.int .i64) 3 w' w.heap.size (fun _ => True) v4 x4_1) ∧ Aside0 (Kd.S (Kd.slice 3 (Kd.int .i64)) 22 w' w.heap.size (fun _ => True) (.slice Ao12 t228.length co12) t228) ∧ Aside0 (w'.heap[gb223]? = some (.cells #[.int .i64 a0_0, (.slice A0_1 l0_1.length c0_1), (.slice A0_2 l0_2.length c0_2), .int .i64 a0_3, .int .i64 a0_4] 30 (0, 0))) ∧ Aside0 (Below w.heap.size w w')); case atStart => exact ⟨(y225), (0), (0), (by rfl), (by rfl), H', ⟨Nat.le_refl _⟩, ⟨by exact HO227.out⟩, ⟨by exact Kd.S_mono HO230.out (fun _ hk => trivial)⟩, ⟨BK223.out⟩, ⟨HB.out⟩⟩
 case round =>
 clear H' hcz10_0 hcz6_0; obtain ⟨x4_1, x5_1, x18_1, rfl, rfl, HA, HK1, HO_4, HO_16, BK223, HB⟩ := hrel; cases gk with
 | zero => exact absurd HA.out (by simp [impl_LostProof.l0])
 | succ k1 => ?_
 have H := HA.out; clear HA; simp only [impl_LostProof.l0] at H; by_cases c13 : x18_1 < (t228.length : Int); rotate_left
 ·rw [if_neg c13] at H; have c13b0 := decide_eq_false c13; clear c13; simp only [Option.some.injEq, Prod.mk.injEq] at H; obtain ⟨rfl, rfl⟩ := H; go_wp2; go_ret2; exact ⟨_, by rfl, by exact HO_4.out, by exact HB.out⟩
 rw [if_pos c13] at H; have c13b0 := decide_eq_true c13; clear c13; by_cases c14 : 0 ≤ x18_1; rotate_left
 ·rw [if_neg c14] at H; exact absurd H (by simp)
 rw [if_pos c14] at H; have c14b0 := decide_eq_true c14; clear c14; by_cases c15 : x18_1 < (t228.length : Int); rotate_left
 ·rw [if_neg c15] at H; exact absurd H (by simp)
 rw [if_pos c15] at H; have c15b0 := decide_eq_true c15; clear c15; obtain ⟨t232, A16, H⟩ := zB H; by_cases c17 : t232 > x5_1
 ·rw [if_pos c17] at H; have c17b0 : decide (x5_1 < t232) = true := decide_eq_true c17; clear c17; have H' := zA H; clear H; have p231 : 0 ≤ (x18_1 : Int) := of_decide_eq_true (by (with_reducible assumption)); have q231 : x18_1 < (t228.length : Int) := of_decide_eq_true (by (with_reducible assumption)); obtain ⟨ad231, A231_0, c231_0, e231, hx231_0, hl231_0, hi231_0⟩ := at_L1 (Kd.S_reads' HO_16.out).2.2 x18_1 p231 q231; cases e231; obtain ⟨ce231, hce231, hMe231, hcc231⟩ := Kd.S_get HO_16.out [] x18_1 p231 (by exact q231); obtain ⟨ve231_0, rfl, ge231_0⟩ := hMe231; have hv231_0 := hcc231 0 _ rfl; rw [Nat.add_zero, show ((Kd.slice 3 (Kd.int .i64))).sz = 1 from rfl, Nat.mul_one] at hv231_0; replace hv231_0 := Option.some.inj (hv231_0.symm.trans hx231_0); rw [hv231_0] at ge231_0; have HL231_0 := zA (show Kd.R (Kd.int .i64) 3 _ _ _ _ (rd_L1 t228 x18_1) from ge231_0); clear hv231_0 ge231_0 hcc231 hce231; have HR231_0 := zA hi231_0; have HC231_0 := zA hl231_0; clear hi231_0 hl231_0; replace p231 := eq_true p231; replace q231 := eq_true q231; have hcz18_0 := zcf5 BK223.out; go_wp2_with ((with_reducible refine gate_callee (f := 77) rfl ?_); refine goesL_ (some 24) rfl rfl Try.func77 (by kernel_rfl) rfl #[.agg #[.int .i64 a0_0, .slice A0_1 l0_1.length c0_1, .slice A0_2 l0_2.length c0_2, .int .i64 a0_3, .int .i64 a0_4], .slice A231_0 (rd_L1 t228 x18_1).length c231_0] rfl (by (try simp only [List.map_toArray, List.map_cons, List.map_nil]); rfl) ?_; (with_reducible refine (impl_Shelf_bound.calls k1 a0_0 _ _ l0_1 _ _ l0_2 a0_3 a0_4 _ _ (rd_L1 t228 x18_1) t232 _ ?side1 ?side2 ?side3 ?side4 ?side5 ?side6 A16.out).mono ?_); (case side1 => exact (Kd.C_below HR0_1.out HB.out)); (case side2 => exact HC0_1.out); (case side3 => exact (Kd.C_below HR0_2.out HB.out)); (case side4 => exact HC0_2.out); (case side5 => exact HR231_0.out); (case side6 => exact HC231_0.out); rintro e w19 ⟨rfl, hb⟩; refine ⟨_, rfl, ?_⟩; replace HO_4 := zA (Kd.R_below (by exact HO_4.out) hb); replace HO_16 := zA (Kd.S_below (by exact HO_16.out) hb); replace HL231_0 := zA (Kd.R_below (by exact HL231_0.out) hb); replace BK223 := zA (blk_below BK223.out hb); replace HR231_0 := zA (Kd.C_below HR231_0.out hb); replace HB := zA (below_step HB.out hb); clear hb); go_roundg k1; (case measure => have := HK1.out; omega); case rel => exact ⟨(rd_L1 t228 x18_1), (t232), (wrap64 (x18_1 + 1)), (by rfl), (by rfl), H', ⟨by have := HK1.out; omega⟩, ⟨by exact Kd.R_mono HL231_0.out (fun _ hk => trivial)⟩, ⟨by exact Kd.S_mono HO_16.out (fun _ hk => trivial)⟩, ⟨BK223.out⟩, ⟨HB.out⟩⟩
 rw [if_neg c17] at H; have c17b0 : decide (x5_1 < t232) = false := decide_eq_false c17; clear c17; have H' := zA H; clear H; have p231 : 0 ≤ (x18_1 : Int) := of_decide_eq_true (by (with_reducible assumption)); have q231 : x18_1 < (t228.length : Int) := of_decide_eq_true (by (with_reducible assumption)); obtain ⟨ad231, A231_0, c231_0, e231, hx231_0, hl231_0, hi231_0⟩ := at_L1 (Kd.S_reads' HO_16.out).2.2 x18_1 p231 q231; cases e231; obtain ⟨ce231, hce231, hMe231, hcc231⟩ := Kd.S_get HO_16.out [] x18_1 p231 (by exact q231); obtain ⟨ve231_0, rfl, ge231_0⟩ := hMe231; have hv231_0 := hcc231 0 _ rfl; rw [Nat.add_zero, show ((Kd.slice 3 (Kd.int .i64))).sz = 1 from rfl, Nat.mul_one] at hv231_0; replace hv231_0 := Option.some.inj (hv231_0.symm.trans hx231_0); rw [hv231_0] at ge231_0; have HL231_0 := zA (show Kd.R (Kd.int .i64) 3 _ _ _ _ (rd_L1 t228 x18_1) from ge231_0); clear hv231_0 ge231_0 hcc231 hce231; have HR231_0 := zA hi231_0; have HC231_0 := zA hl231_0; clear hi231_0 hl231_0; replace p231 := eq_true p231; replace q231 := eq_true q231; have hcz20_0 := zcf5 BK223.out; go_wp2_with ((with_reducible refine gate_callee (f := 77) rfl ?_); refine goesL_ (some 24) rfl rfl Try.func77 (by kernel_rfl) rfl #[.agg #[.int .i64 a0_0, .slice A0_1 l0_1.length c0_1, .slice A0_2 l0_2.length c0_2, .int .i64 a0_3, .int .i64 a0_4], .slice A231_0 (rd_L1 t228 x18_1).length c231_0] rfl (by (try simp only [List.map_toArray, List.map_cons, List.map_nil]); rfl) ?_; (with_reducible refine (impl_Shelf_bound.calls k1 a0_0 _ _ l0_1 _ _ l0_2 a0_3 a0_4 _ _ (rd_L1 t228 x18_1) t232 _ ?side1 ?side2 ?side3 ?side4 ?side5 ?side6 A16.out).mono ?_); (case side1 => exact (Kd.C_below HR0_1.out HB.out)); (case side2 => exact HC0_1.out); (case side3 => exact (Kd.C_below HR0_2.out HB.out)); (case side4 => exact HC0_2.out); (case side5 => exact HR231_0.out); (case side6 => exact HC231_0.out); rintro e w21 ⟨rfl, hb⟩; refine ⟨_, rfl, ?_⟩; replace HO_4 := zA (Kd.R_below (by exact HO_4.out) hb); replace HO_16 := zA (Kd.S_below (by exact HO_16.out) hb); replace HL231_0 := zA (Kd.R_below (by exact HL231_0.out) hb); replace BK223 := zA (blk_below BK223.out hb); replace HR231_0 := zA (Kd.C_below HR231_0.out hb); replace HB := zA (below_step HB.out hb); clear hb); go_roundg k1; (case measure => have := HK1.out; omega); case rel => exact ⟨(x4_1), (x5_1), (wrap64 (x18_1 + 1)), (by rfl), (by rfl), H', ⟨by have := HK1.out; omega⟩, ⟨by exact HO_4.out⟩, ⟨by exact HO_16.out⟩, ⟨BK223.out⟩, ⟨HB.out⟩⟩
/-! ### laws_vBig: function 41 -/
def laws_vBig.f (a : List Int) : Option (Bool) := some (decide ((a.length : Int) > 65536))
set_option maxHeartbeats 8000000 in
set_option maxRecDepth 100000 in
theorem laws_vBig.calls (A0 : Option Addr) (c0 : Nat) (l0 : List Int) (r : Bool) (w : World) (hr0 : Kd.C (Kd.int .u8) w A0 l0.length l0) (hc0 : l0.length ≤ c0) (h : laws_vBig.f l0 = some r) :
  Calls Try.prog 41 #[.slice A0 l0.length c0] w fun e w' => e = .returned (.bool r) ∧ Drawn0 w w' := by
 have HR0 := zA hr0; have HC0 := zA hc0; clear hr0 hc0; unfold laws_vBig.f at h; revert h; intro H; obtain rfl := Option.some.inj H; go_enter Try.func41, Try.ntmps41; go_wp2; go_ret; exact ⟨by rfl, by exact Drawn0.refl _⟩
/-! ### laws_vInts: function 49 -/
def laws_vInts.l0 : Nat → List Int → List Int → Int → Option (Bool)
 | 0, _, _, _ => none
 | k + 1, a, b, c => if c < (a.length : Int) then (if 0 ≤ c then (if c < (b.length : Int) then (if (rd a c) = (rd b c) then (laws_vInts.l0 k a b (wrap64 (c + 1))) else (some false)) else (none)) else (none)) else (some true)
def laws_vInts.f (k : Nat) (a : List Int) (b : List Int) : Option (Bool) := if (a.length : Int) = (b.length : Int) then (laws_vInts.l0 k a b 0) else (some false)
theorem laws_vInts.mono_l : ∀ k, (∀ y0 y1 y2, LeO (laws_vInts.l0 k y0 y1 y2) (laws_vInts.l0 (k + 1) y0 y1 y2))
 | 0 => fun _ _ _ r h => by simp [laws_vInts.l0] at h
 | k + 1 => by
  have ih0 := laws_vInts.mono_l k
  ·intro y0 y1 y2
   unfold laws_vInts.l0
   repeat' with_reducible first | apply ih0 | exact LeO.refl _ | refine LeO.ite ?_ ?_
theorem laws_vInts.mono : ∀ a0 a1 k, LeO (laws_vInts.f k a0 a1) (laws_vInts.f (k + 1) a0 a1) := by
 intro a0 a1 k
 have ih0 := laws_vInts.mono_l k
 unfold laws_vInts.f
 repeat' with_reducible first | apply ih0 | exact LeO.refl _ | refine LeO.ite ?_ ?_
set_option maxHeartbeats 8000000 in
set_option maxRecDepth 100000 in
theorem laws_vInts.calls (k : Nat) (A0 : Option Addr) (c0 : Nat) (l0 : List Int) (A1 : Option Addr) (c1 : Nat) (l1 : List Int) (r : Bool) (w : World) (hr0 : Kd.C (Kd.int .i64) w A0 l0.length l0) (hc0 : l0.length ≤ c0) (hr1 : Kd.C (Kd.int .i64) w A1 l1.length l1) (hc1 : l1.length ≤ c1) (h : laws_vInts.f k l0 l1 = some r) :
  Calls Try.prog 49 #[.slice A0 l0.length c0, .slice A1 l1.length c1] w fun e w' => e = .returned (.bool r) ∧ Drawn0 w w' := by
 have HR0 := zA hr0; have HC0 := zA hc0; clear hr0 hc0; have HR1 := zA hr1; have HC1 := zA hc1; clear hr1 hc1; unfold laws_vInts.f at h; revert h; intro H; by_cases c3 : (l0.length : Int) = (l1.length : Int); rotate_left
 ·rw [if_neg c3] at H; have c3b0 : ((l0.length : Int) == (l1.length : Int)) = false := beq_eq_false_iff_ne.mpr c3; have c3b1 : ((l0.length : Int) != (l1.length : Int)) = true := bne_iff_ne.mpr c3; (have c3b2 : (l0.length == l1.length) = false := by (simp at c3 ⊢; omega)); obtain rfl := Option.some.inj H; go_enter Try.func49, Try.ntmps49; go_wp2; go_ret; exact ⟨by rfl, by exact Drawn0.refl _⟩
 rw [if_pos c3] at H; have c3b0 : ((l0.length : Int) == (l1.length : Int)) = true := beq_iff_eq.mpr c3; have c3b1 : ((l0.length : Int) != (l1.length : Int)) = false := bne_eq_false_iff_eq.mpr c3; (have c3b2 : (l0.length == l1.length) = true := by (simp at c3 ⊢; omega)); clear c3; have H' := zA H; clear H; go_enter Try.func49, Try.ntmps49; go_wp2; go_loopg [5] k (fun kq v5 w' => ∃ (x5_1 : Int), v5 = .int .i64 x5_1 ∧ Aside0 (laws_vInts.l0 kq l0 l1 x5_1 = some r) ∧ Aside0 (kq ≤ k) ∧ Drawn0 w w'); case atStart => exact ⟨(0), (by rfl), H', ⟨Nat.le_refl _⟩, by exact Drawn0.refl _⟩
 case round =>
 clear H' c3b0 c3b1 c3b2; obtain ⟨x5_1, rfl, HA, HK1, ⟨m1, rfl⟩⟩ := hrel; cases gk with
 | zero => exact absurd HA.out (by simp [laws_vInts.l0])
 | succ k1 => ?_
 have H := HA.out; clear HA; simp only [laws_vInts.l0] at H; by_cases c4 : x5_1 < (l0.length : Int); rotate_left
 ·rw [if_neg c4] at H; have c4b0 := decide_eq_false c4; clear c4; obtain rfl := Option.some.inj H; go_wp2; go_ret; exact ⟨by rfl, by repeat (first | exact Drawn0.refl _ | apply Drawn0.step)⟩
 rw [if_pos c4] at H; have c4b0 := decide_eq_true c4; clear c4; by_cases c5 : 0 ≤ x5_1; rotate_left
 ·rw [if_neg c5] at H; exact absurd H (by simp)
 rw [if_pos c5] at H; have c5b0 := decide_eq_true c5; clear c5; by_cases c6 : x5_1 < (l1.length : Int); rotate_left
 ·rw [if_neg c6] at H; exact absurd H (by simp)
 rw [if_pos c6] at H; have c6b0 := decide_eq_true c6; clear c6; by_cases c7 : (rd l0 x5_1) = (rd l1 x5_1); rotate_left
 ·rw [if_neg c7] at H; have c7b0 : ((rd l0 x5_1) == (rd l1 x5_1)) = false := beq_eq_false_iff_ne.mpr c7; have c7b1 : ((rd l0 x5_1) != (rd l1 x5_1)) = true := bne_iff_ne.mpr c7; obtain rfl := Option.some.inj H; have p233 : 0 ≤ (x5_1 : Int) := of_decide_eq_true (by (with_reducible assumption)); have q233 : x5_1 < (l0.length : Int) := of_decide_eq_true (by (with_reducible assumption)); obtain ⟨ad233, e233, hx233_0⟩ := Kd.at_int HR0.out x5_1 p233 q233; cases e233; replace p233 := eq_true p233; replace q233 := eq_true q233; have p234 : 0 ≤ (x5_1 : Int) := of_decide_eq_true (by (with_reducible assumption)); have q234 : x5_1 < (l1.length : Int) := of_decide_eq_true (by (with_reducible assumption)); obtain ⟨ad234, e234, hx234_0⟩ := Kd.at_int HR1.out x5_1 p234 q234; cases e234; replace p234 := eq_true p234; replace q234 := eq_true q234; go_wp2; (repeat (go_quiet (fail); try go_wp2)); go_ret; exact ⟨by rfl, by repeat (first | exact Drawn0.refl _ | apply Drawn0.step)⟩
 rw [if_pos c7] at H; have c7b0 : ((rd l0 x5_1) == (rd l1 x5_1)) = true := beq_iff_eq.mpr c7; have c7b1 : ((rd l0 x5_1) != (rd l1 x5_1)) = false := bne_eq_false_iff_eq.mpr c7; clear c7; have H' := zA H; clear H; have p233 : 0 ≤ (x5_1 : Int) := of_decide_eq_true (by (with_reducible assumption)); have q233 : x5_1 < (l0.length : Int) := of_decide_eq_true (by (with_reducible assumption)); obtain ⟨ad233, e233, hx233_0⟩ := Kd.at_int HR0.out x5_1 p233 q233; cases e233; replace p233 := eq_true p233; replace q233 := eq_true q233; have p234 : 0 ≤ (x5_1 : Int) := of_decide_eq_true (by (with_reducible assumption)); have q234 : x5_1 < (l1.length : Int) := of_decide_eq_true (by (with_reducible assumption)); obtain ⟨ad234, e234, hx234_0⟩ := Kd.at_int HR1.out x5_1 p234 q234; cases e234; replace p234 := eq_true p234; replace q234 := eq_true q234; go_wp2; (repeat (go_quiet (fail); try go_wp2)); go_roundg k1; (case measure => have := HK1.out; omega); case rel => exact ⟨(wrap64 (x5_1 + 1)), (by rfl), H', ⟨by have := HK1.out; omega⟩, by repeat (first | exact Drawn0.refl _ | apply Drawn0.step)⟩
/-! ### impl_isSet: function 91 -/
def impl_isSet.l0 : Nat → List Int → Int → List Int → Int → Int → Option (Bool)
 | 0, _, _, _, _, _ => none
 | k + 1, a, b, c, d, e => if e < d then (if 0 ≤ e then (if e < (c.length : Int) then ((impl_within.f (rd c e) 0 (wrap64 (b - 1))).bind fun f => (if f = true then (if e > 0 then (if 0 ≤ (wrap64 (e - 1)) then (if (wrap64 (e - 1)) < (a.length : Int) then (if (rd a (wrap64 (e - 1))) ≥ (rd c e) then (some false) else (impl_isSet.l0 k a b c d (wrap64 (e + 1)))) else (none)) else (none)) else (impl_isSet.l0 k a b c d (wrap64 (e + 1)))) else (some false))) else (none)) else (none)) else (some true)
def impl_isSet.f (k : Nat) (a : List Int) (b : Int) : Option (Bool) := impl_isSet.l0 k a b a (a.length : Int) 0
theorem impl_isSet.mono_l : ∀ k, (∀ y0 y1 y2 y3 y4, LeO (impl_isSet.l0 k y0 y1 y2 y3 y4) (impl_isSet.l0 (k + 1) y0 y1 y2 y3 y4))
 | 0 => fun _ _ _ _ _ r h => by simp [impl_isSet.l0] at h
 | k + 1 => by
  have ih0 := impl_isSet.mono_l k
  ·intro y0 y1 y2 y3 y4
   unfold impl_isSet.l0
   repeat' with_reducible first | apply ih0 | exact LeO.refl _ | refine LeO.ite ?_ ?_ | refine LeO.bind ?_ (fun _ => ?_)
theorem impl_isSet.mono : ∀ a0 a1 k, LeO (impl_isSet.f k a0 a1) (impl_isSet.f (k + 1) a0 a1) := by
 intro a0 a1 k
 have ih0 := impl_isSet.mono_l k
 unfold impl_isSet.f
 repeat' with_reducible first | apply ih0
set_option maxHeartbeats 8000000 in
set_option maxRecDepth 100000 in
theorem impl_isSet.calls (k : Nat) (A0 : Option Addr) (c0 : Nat) (l0 : List Int) (a1 : Int) (r : Bool) (w : World) (hr0 : Kd.C (Kd.int .i64) w A0 l0.length l0) (hc0 : l0.length ≤ c0) (h : impl_isSet.f k l0 a1 = some r) :
  Calls Try.prog 91 #[.slice A0 l0.length c0, .int .i64 a1] w fun e w' => e = .returned (.bool r) ∧ Drawn0 w w' := by
 have HR0 := zA hr0; have HC0 := zA hc0; clear hr0 hc0; unfold impl_isSet.f at h; revert h; intro H; have H' := zA H; clear H; go_enter Try.func91, Try.ntmps91; go_wp2; go_loopg [9] k (fun kq v9 w' => ∃ (x9_1 : Int), v9 = .int .i64 x9_1 ∧ Aside0 (impl_isSet.l0 kq l0 a1 l0 (l0.length : Int) x9_1 = some r) ∧ Aside0 (kq ≤ k) ∧ Drawn0 w w'); case atStart => exact ⟨(0), (by rfl), H', ⟨Nat.le_refl _⟩, by exact Drawn0.refl _⟩
 case round =>
 clear H'; obtain ⟨x9_1, rfl, HA, HK1, ⟨m1, rfl⟩⟩ := hrel; cases gk with
 | zero => exact absurd HA.out (by simp [impl_isSet.l0])
 | succ k1 => ?_
 have H := HA.out; clear HA; simp only [impl_isSet.l0] at H; by_cases c3 : x9_1 < (l0.length : Int); rotate_left
 ·rw [if_neg c3] at H; have c3b0 := decide_eq_false c3; clear c3; obtain rfl := Option.some.inj H; go_wp2; go_ret; exact ⟨by rfl, by repeat (first | exact Drawn0.refl _ | apply Drawn0.step)⟩
 rw [if_pos c3] at H; have c3b0 := decide_eq_true c3; clear c3; by_cases c4 : 0 ≤ x9_1; rotate_left
 ·rw [if_neg c4] at H; exact absurd H (by simp)
 rw [if_pos c4] at H; have c4b0 := decide_eq_true c4; clear c4; by_cases c5 : x9_1 < (l0.length : Int); rotate_left
 ·rw [if_neg c5] at H; exact absurd H (by simp)
 rw [if_pos c5] at H; have c5b0 := decide_eq_true c5; clear c5; obtain ⟨t236, A6, H⟩ := zB H; by_cases c7 : t236 = true; rotate_left
 ·replace c7 := Bool.eq_false_iff.mpr c7; subst c7; rw [if_neg (show ¬ (false = true) by decide)] at H; obtain rfl := Option.some.inj H; have p235 : 0 ≤ (x9_1 : Int) := of_decide_eq_true (by (with_reducible assumption)); have q235 : x9_1 < (l0.length : Int) := of_decide_eq_true (by (with_reducible assumption)); obtain ⟨ad235, e235, hx235_0⟩ := Kd.at_int HR0.out x9_1 p235 q235; cases e235; replace p235 := eq_true p235; replace q235 := eq_true q235; go_wp2_with ((with_reducible refine gate_callee (f := 71) rfl ?_); refine goesL_ (some 17) rfl rfl Try.func71 (by kernel_rfl) rfl #[.int .i64 (rd l0 x9_1), .int .i64 0, .int .i64 (wrap64 (a1 - 1))] rfl (by (try simp only [List.map_toArray, List.map_cons, List.map_nil]); rfl) ?_; (with_reducible refine (impl_within.calls (rd l0 x9_1) 0 (wrap64 (a1 - 1)) false _ A6.out).mono ?_); rintro e w' ⟨rfl, ⟨nd, rfl⟩⟩; refine ⟨_, rfl, ?_⟩); go_ret; exact ⟨by rfl, by repeat (first | exact Drawn0.refl _ | apply Drawn0.step)⟩
 subst c7; rw [if_pos rfl] at H; by_cases c8 : x9_1 > 0; rotate_left
 ·rw [if_neg c8] at H; have c8b0 : decide (0 < x9_1) = false := decide_eq_false c8; clear c8; have H' := zA H; clear H; have p235 : 0 ≤ (x9_1 : Int) := of_decide_eq_true (by (with_reducible assumption)); have q235 : x9_1 < (l0.length : Int) := of_decide_eq_true (by (with_reducible assumption)); obtain ⟨ad235, e235, hx235_0⟩ := Kd.at_int HR0.out x9_1 p235 q235; cases e235; replace p235 := eq_true p235; replace q235 := eq_true q235; go_wp2_with ((with_reducible refine gate_callee (f := 71) rfl ?_); refine goesL_ (some 17) rfl rfl Try.func71 (by kernel_rfl) rfl #[.int .i64 (rd l0 x9_1), .int .i64 0, .int .i64 (wrap64 (a1 - 1))] rfl (by (try simp only [List.map_toArray, List.map_cons, List.map_nil]); rfl) ?_; (with_reducible refine (impl_within.calls (rd l0 x9_1) 0 (wrap64 (a1 - 1)) true _ A6.out).mono ?_); rintro e w' ⟨rfl, ⟨nd, rfl⟩⟩; refine ⟨_, rfl, ?_⟩); go_roundg k1; (case measure => have := HK1.out; omega); case rel => exact ⟨(wrap64 (x9_1 + 1)), (by rfl), H', ⟨by have := HK1.out; omega⟩, by repeat (first | exact Drawn0.refl _ | apply Drawn0.step)⟩
 rw [if_pos c8] at H; have c8b0 : decide (0 < x9_1) = true := decide_eq_true c8; clear c8; obtain ⟨ji9, hji9⟩ : ∃ j_ : Int, (wrap64 (x9_1 - 1)) = j_ := ⟨_, rfl⟩; (replace H : (if 0 ≤ (ji9) then (if (ji9) < (l0.length : Int) then (if (rd l0 (ji9)) ≥ (rd l0 x9_1) then (some false) else (impl_isSet.l0 k1 l0 a1 l0 (l0.length : Int) (wrap64 (x9_1 + 1)))) else (none)) else (none)) = some r := by (rw [hji9] at H; exact H)); have hji9w : (IntKind.i64.wrap (x9_1 - 1)) = ji9 := (i64_w _).trans hji9; by_cases c10 : 0 ≤ (ji9); rotate_left
 ·rw [if_neg c10] at H; exact absurd H (by simp)
 rw [if_pos c10] at H; have c10b0 := decide_eq_true c10; clear c10; by_cases c11 : (ji9) < (l0.length : Int); rotate_left
 ·rw [if_neg c11] at H; exact absurd H (by simp)
 rw [if_pos c11] at H; have c11b0 := decide_eq_true c11; clear c11; by_cases c12 : (rd l0 (ji9)) ≥ (rd l0 x9_1)
 ·rw [if_pos c12] at H; have c12b0 : decide ((rd l0 x9_1) ≤ (rd l0 (ji9))) = true := decide_eq_true c12; clear c12; obtain rfl := Option.some.inj H; have p235 : 0 ≤ (x9_1 : Int) := of_decide_eq_true (by (with_reducible assumption)); have q235 : x9_1 < (l0.length : Int) := of_decide_eq_true (by (with_reducible assumption)); obtain ⟨ad235, e235, hx235_0⟩ := Kd.at_int HR0.out x9_1 p235 q235; cases e235; replace p235 := eq_true p235; replace q235 := eq_true q235; go_wp2_with ((with_reducible refine gate_callee (f := 71) rfl ?_); refine goesL_ (some 17) rfl rfl Try.func71 (by kernel_rfl) rfl #[.int .i64 (rd l0 x9_1), .int .i64 0, .int .i64 (wrap64 (a1 - 1))] rfl (by (try simp only [List.map_toArray, List.map_cons, List.map_nil]); rfl) ?_; (with_reducible refine (impl_within.calls (rd l0 x9_1) 0 (wrap64 (a1 - 1)) true _ A6.out).mono ?_); rintro e w' ⟨rfl, ⟨nd, rfl⟩⟩; refine ⟨_, rfl, ?_⟩; have p237 : 0 ≤ ((ji9) : Int) := of_decide_eq_true (by (with_reducible assumption)); have q237 : (ji9) < (l0.length : Int) := of_decide_eq_true (by (with_reducible assumption)); obtain ⟨ad237, e237, hx237_0⟩ := Kd.at_int HR0.out (ji9) p237 q237; obtain rfl : ad235 = ad237 := (by injection e237); replace p237 := eq_true p237; replace q237 := eq_true q237); go_ret; exact ⟨by rfl, by repeat (first | exact Drawn0.refl _ | apply Drawn0.step)⟩
 rw [if_neg c12] at H; have c12b0 : decide ((rd l0 x9_1) ≤ (rd l0 (ji9))) = false := decide_eq_false c12; clear c12; have H' := zA H; clear H; have p235 : 0 ≤ (x9_1 : Int) := of_decide_eq_true (by (with_reducible assumption)); have q235 : x9_1 < (l0.length : Int) := of_decide_eq_true (by (with_reducible assumption)); obtain ⟨ad235, e235, hx235_0⟩ := Kd.at_int HR0.out x9_1 p235 q235; cases e235; replace p235 := eq_true p235; replace q235 := eq_true q235; go_wp2_with ((with_reducible refine gate_callee (f := 71) rfl ?_); refine goesL_ (some 17) rfl rfl Try.func71 (by kernel_rfl) rfl #[.int .i64 (rd l0 x9_1), .int .i64 0, .int .i64 (wrap64 (a1 - 1))] rfl (by (try simp only [List.map_toArray, List.map_cons, List.map_nil]); rfl) ?_; (with_reducible refine (impl_within.calls (rd l0 x9_1) 0 (wrap64 (a1 - 1)) true _ A6.out).mono ?_); rintro e w' ⟨rfl, ⟨nd, rfl⟩⟩; refine ⟨_, rfl, ?_⟩; have p237 : 0 ≤ ((ji9) : Int) := of_decide_eq_true (by (with_reducible assumption)); have q237 : (ji9) < (l0.length : Int) := of_decide_eq_true (by (with_reducible assumption)); obtain ⟨ad237, e237, hx237_0⟩ := Kd.at_int HR0.out (ji9) p237 q237; obtain rfl : ad235 = ad237 := (by injection e237); replace p237 := eq_true p237; replace q237 := eq_true q237); go_roundg k1; (case measure => have := HK1.out; omega); case rel => exact ⟨(wrap64 (x9_1 + 1)), (by rfl), H', ⟨by have := HK1.out; omega⟩, by repeat (first | exact Drawn0.refl _ | apply Drawn0.step)⟩
end Go.Proofs.Ytgkjnhajomjhcaa.PFnAges
