-- A text of this session (its program hook.py, over the kit's print.py): not a print of print.sh
import Derived.Test.YtiniocecpgjikaaPFnExactProfitLossx0
import Derived.Test.YtiniocecpgjikaaPFnExactProfitLossx4
import Derived.Test.YtiniocecpgjikaaPFnExactProfitLossx5
namespace Go.Proofs.Ytiniocecpgjikaa.PFnExactProfitLoss
open Go.RowKit Go.Proofs.YtiniocecpgjikaaW.PrintWords Go.Proofs.YtiniocecpgjikaaW.PrintLast Go.Proofs.YtiniocecpgjikaaW.PrintMore
attribute [local go_sem] max2_int min2_int max_two min_two max_three min_three max_four min_four   -- for this text's walks alone
set_option linter.unusedVariables false
set_option linter.unusedSimpArgs false

/-! ### impl_mostOrder: function 86 (by hand), handed the joint profit -/
def impl_mostOrder.m0 : Nat → List Int → Int → Int → Int → Int → Int → Option (Int)
  | 0, _, _, _, _, _, _ => none
  | k + 1, l, p, m, f, x3, x4 => if x4 ≤ 8 then ((impl_Market_joint.f k l p m f x4).bind fun t1 => ((impl_Market_joint.f k l p m f x3).bind fun t2 => (if t1 > t2 then (impl_mostOrder.m0 k l p m f x4 (wrap64 (x4 + 1))) else (impl_mostOrder.m0 k l p m f x3 (wrap64 (x4 + 1)))))) else (some x3)
set_option maxHeartbeats 8000000 in
set_option maxRecDepth 100000 in
theorem impl_mostOrder_joint (k : Nat) (A0_0 : Option Addr) (c0_0 : Nat) (l0_0 : List Int) (a0_1 : Int) (a0_2 : Int) (a0_3 : Int) (r : Int) (w : World) (hr0_0 : Kd.C (Kd.int .i64) w A0_0 l0_0.length l0_0) (hc0_0 : l0_0.length ≤ c0_0) (h : impl_mostOrder.m0 k l0_0 a0_1 a0_2 a0_3 0 1 = some r) :
    Calls Try.prog 86 #[.func (.func 87) #[.agg #[.slice A0_0 l0_0.length c0_0, .int .i64 a0_1, .int .i64 a0_2, .int .i64 a0_3]] #[]] w fun e w' => e = .returned (.int .i64 r) ∧ Below w.heap.size w w' := by
  have HR0_0 := Aside0.mk hr0_0
  have HC0_0 := Aside0.mk hc0_0
  clear hr0_0 hc0_0
  have HB := Aside0.mk (Below.refl w.heap.size w)
  have H' := Aside0.mk h
  clear h
  go_enter Try.func86, Try.ntmps86
  go_wp2
  go_loopg [3, 4] k (fun kq v3 v4 w' => ∃ (x3_1 : Int) (x4_1 : Int), v3 = .int .i64 x3_1 ∧ v4 = .int .i64 x4_1 ∧ Aside0 (impl_mostOrder.m0 kq l0_0 a0_1 a0_2 a0_3 x3_1 x4_1 = some r) ∧ Aside0 (kq ≤ k) ∧ Aside0 (Below w.heap.size w w'))
  case atStart => exact ⟨(0), (1), (by first | rfl | (simp; done) | (simp [*]; done)), (by first | rfl | (simp; done) | (simp [*]; done)), H', ⟨Nat.le_refl _⟩, HB⟩
  case round =>
    clear H' HB
    obtain ⟨x3_1, x4_1, rfl, rfl, HA, HK1, HB⟩ := hrel
    cases gk with
    | zero => exact absurd HA.out (by simp [impl_mostOrder.m0])
    | succ k1 =>
      have H := HA.out
      clear HA
      simp only [impl_mostOrder.m0] at H
      by_cases c2 : x4_1 ≤ 8
      · rw [if_pos c2] at H
        have c2b0 : decide (x4_1 ≤ 8) = true := decide_eq_true c2
        clear c2
        cases e1 : impl_Market_joint.f k1 l0_0 a0_1 a0_2 a0_3 x4_1 with
        | none => rw [e1] at H; cases H
        | some t1 =>
          rw [e1, Option.bind_some] at H
          cases e2 : impl_Market_joint.f k1 l0_0 a0_1 a0_2 a0_3 x3_1 with
          | none => rw [e2] at H; cases H
          | some t2 =>
            rw [e2, Option.bind_some] at H
            have E1 := Aside0.mk e1
            have E2 := Aside0.mk e2
            have H' := Aside0.mk H
            clear H e1 e2
            go_wp2_with fail
            refine (impl_Market_joint.calls k1 A0_0 c0_0 l0_0 a0_1 a0_2 a0_3 x4_1 t1 _ (Kd.C_below HR0_0.out HB.out) HC0_0.out E1.out).mono ?_
            rintro e w1 ⟨rfl, hb1⟩
            have HB1 := Aside0.mk (below_step HB.out hb1)
            clear hb1
            go_wp2_with fail
            refine (impl_Market_joint.calls k1 A0_0 c0_0 l0_0 a0_1 a0_2 a0_3 x3_1 t2 _ (Kd.C_below HR0_0.out HB1.out) HC0_0.out E2.out).mono ?_
            rintro e w2 ⟨rfl, hb2⟩
            have HB2 := Aside0.mk (below_step HB1.out hb2)
            clear hb2
            have HM := Aside0.mk (Nat.le_trans (Nat.le_succ k1) HK1.out)
            by_cases ct : t1 > t2
            · have H2 := H'.out
              rw [if_pos ct] at H2
              have ctb : decide (t1 > t2) = true := decide_eq_true ct
              clear H' ct
              have H' := Aside0.mk H2
              clear H2
              go_wp2
              go_roundg k1
              case measure => have := HK1.out; omega
              case rel => exact ⟨_, _, rfl, rfl, H', HM, HB2⟩
            · have H2 := H'.out
              rw [if_neg ct] at H2
              have ctb : decide (t1 > t2) = false := decide_eq_false ct
              clear H' ct
              have H' := Aside0.mk H2
              clear H2
              go_wp2
              go_roundg k1
              case measure => have := HK1.out; omega
              case rel => exact ⟨_, _, rfl, rfl, H', HM, HB2⟩
      · rw [if_neg c2] at H
        have c2b0 : decide (x4_1 ≤ 8) = false := decide_eq_false c2
        clear c2
        obtain rfl := Option.some.inj H
        go_wp2
        go_ret
        exact ⟨by first | rfl | (simp; done) | (simp [*]; done), HB.out⟩
theorem impl_mostOrder.mono_l : ∀ k, (∀ y0 y1 y2 y3 y4 y5, LeO (impl_mostOrder.m0 k y0 y1 y2 y3 y4 y5) (impl_mostOrder.m0 (k + 1) y0 y1 y2 y3 y4 y5))
  | 0 => fun _ _ _ _ _ _ r h => by simp [impl_mostOrder.m0] at h
  | k + 1 => by
    have ih0 := impl_mostOrder.mono_l k
    intro y0 y1 y2 y3 y4 y5
    unfold impl_mostOrder.m0
    repeat' first
      | (with_reducible exact ih0 _ _ _ _ _ _)
      | (with_reducible exact impl_Market_joint.mono _ _ _ _ _ _)
      | (with_reducible exact LeO.refl _)
      | (with_reducible exact LeO.none _)
      | (with_reducible refine LeO.ite ?_ ?_)
      | (with_reducible refine LeO.bind ?_ (fun _ => ?_))

/-! ### impl_Market_sellerOrder: function 79 (by hand) -/
theorem impl_Market_sellerOrder.bcell {W w1 : World} (hb : Below W.heap.size W w1) : (∀ b o, b < W.heap.size → w1.cell? ⟨b, o, none⟩ = W.cell? ⟨b, o, none⟩) ∧ (∀ b o, b < W.heap.size → w1.frozen? ⟨b, o, none⟩ = W.frozen? ⟨b, o, none⟩) :=
  ⟨fun b o h => hb.cell (p := ⟨b, o, none⟩) h, fun b o h => hb.frozen (p := ⟨b, o, none⟩) h⟩
def impl_Market_sellerOrder.m0 : Nat → List Int → Int → Int → Int → Int → Int → Int → Int → Int → Option (Int)
  | 0, _, _, _, _, _, _, _, _, _ => none
  | k + 1, l, p, m, f, a, b, c, x3, x4 => if x4 ≤ 8 then ((impl_Market_seller.f k l p m f a b c x4).bind fun t1 => ((impl_Market_seller.f k l p m f a b c x3).bind fun t2 => (if t1 > t2 then (impl_Market_sellerOrder.m0 k l p m f a b c x4 (wrap64 (x4 + 1))) else (impl_Market_sellerOrder.m0 k l p m f a b c x3 (wrap64 (x4 + 1)))))) else (some x3)
def impl_Market_sellerOrder.f (k : Nat) (l0_0 : List Int) (a0_1 : Int) (a0_2 : Int) (a0_3 : Int) (a1_0 : Int) (a1_1 : Int) (a1_2 : Int) : Option (Int) := impl_Market_sellerOrder.m0 k l0_0 a0_1 a0_2 a0_3 a1_0 a1_1 a1_2 0 1
theorem impl_Market_sellerOrder.mono_l : ∀ k, (∀ y0 y1 y2 y3 y4 y5 y6 y7 y8, LeO (impl_Market_sellerOrder.m0 k y0 y1 y2 y3 y4 y5 y6 y7 y8) (impl_Market_sellerOrder.m0 (k + 1) y0 y1 y2 y3 y4 y5 y6 y7 y8))
  | 0 => fun _ _ _ _ _ _ _ _ _ r h => by simp [impl_Market_sellerOrder.m0] at h
  | k + 1 => by
    have ih0 := impl_Market_sellerOrder.mono_l k
    intro y0 y1 y2 y3 y4 y5 y6 y7 y8
    unfold impl_Market_sellerOrder.m0
    repeat' first
      | (with_reducible exact ih0 _ _ _ _ _ _ _ _ _)
      | (with_reducible exact impl_Market_seller.mono _ _ _ _ _ _ _ _ _)
      | (with_reducible exact LeO.refl _)
      | (with_reducible exact LeO.none _)
      | (with_reducible refine LeO.ite ?_ ?_)
      | (with_reducible refine LeO.bind ?_ (fun _ => ?_))
theorem impl_Market_sellerOrder.mono : ∀ a0 a1 a2 a3 a4 a5 a6 k, LeO (impl_Market_sellerOrder.f k a0 a1 a2 a3 a4 a5 a6) (impl_Market_sellerOrder.f (k + 1) a0 a1 a2 a3 a4 a5 a6) := by
  intro a0 a1 a2 a3 a4 a5 a6 k
  exact impl_Market_sellerOrder.mono_l k _ _ _ _ _ _ _ _ _
set_option maxHeartbeats 8000000 in
set_option maxRecDepth 100000 in
theorem impl_Market_sellerOrder_fn (k : Nat) (A0_0 : Option Addr) (c0_0 : Nat) (l0_0 : List Int) (a0_1 : Int) (a0_2 : Int) (a0_3 : Int) (a1_0 : Int) (a1_1 : Int) (a1_2 : Int) (q r : Int) (gm gk : Nat) (w : World) (hr0_0 : Kd.C (Kd.int .i64) w A0_0 l0_0.length l0_0) (hc0_0 : l0_0.length ≤ c0_0)
    (hm : w.heap[gm]? = some (.cells #[.slice A0_0 l0_0.length c0_0, .int .i64 a0_1, .int .i64 a0_2, .int .i64 a0_3] 30 (0, 0))) (hk : w.heap[gk]? = some (.cells #[.int .i64 a1_0, .int .i64 a1_1, .int .i64 a1_2] 32 (0, 0)))
    (h : impl_Market_seller.f k l0_0 a0_1 a0_2 a0_3 a1_0 a1_1 a1_2 q = some r) :
    Calls Try.prog 104 #[.int .i64 q, .pointer (some ⟨gm, 0, none⟩), .pointer (some ⟨gk, 0, none⟩)] w fun e w' => e = .returned (.int .i64 r) ∧ Below w.heap.size w w' := by
  have hum := Try.underlying30
  have huc := Try.underlying32
  have HR0_0 := Aside0.mk hr0_0
  have HC0_0 := Aside0.mk hc0_0
  have E1 := Aside0.mk h
  clear hr0_0 hc0_0 h
  have m0 : w.cell? ⟨gm, 0, none⟩ = some (.slice A0_0 l0_0.length c0_0) := (blk_cell hm 0).trans rfl
  have m1 : w.cell? ⟨gm, 1, none⟩ = some (.int .i64 a0_1) := (blk_cell hm 1).trans rfl
  have m2 : w.cell? ⟨gm, 2, none⟩ = some (.int .i64 a0_2) := (blk_cell hm 2).trans rfl
  have m3 : w.cell? ⟨gm, 3, none⟩ = some (.int .i64 a0_3) := (blk_cell hm 3).trans rfl
  have k0 : w.cell? ⟨gk, 0, none⟩ = some (.int .i64 a1_0) := (blk_cell hk 0).trans rfl
  have k1 : w.cell? ⟨gk, 1, none⟩ = some (.int .i64 a1_1) := (blk_cell hk 1).trans rfl
  have k2 : w.cell? ⟨gk, 2, none⟩ = some (.int .i64 a1_2) := (blk_cell hk 2).trans rfl
  clear hm hk
  go_enter Try.func104, Try.ntmps104
  go_wp2_with fail
  refine (impl_Market_seller.calls k A0_0 c0_0 l0_0 a0_1 a0_2 a0_3 a1_0 a1_1 a1_2 q r _ HR0_0.out HC0_0.out E1.out).mono ?_
  rintro e w1 ⟨rfl, hb1⟩
  have HB1 := Aside0.mk hb1
  clear hb1
  go_wp2
  go_ret
  exact ⟨rfl, HB1.out⟩
set_option maxHeartbeats 8000000 in
set_option maxRecDepth 100000 in
theorem impl_mostOrder_seller (k : Nat) (A0_0 : Option Addr) (c0_0 : Nat) (l0_0 : List Int) (a0_1 : Int) (a0_2 : Int) (a0_3 : Int) (a1_0 : Int) (a1_1 : Int) (a1_2 : Int) (r : Int) (bm bk : Nat) (w : World) (hr0_0 : Kd.C (Kd.int .i64) w A0_0 l0_0.length l0_0) (hc0_0 : l0_0.length ≤ c0_0)
    (hm : w.heap[bm]? = some (.cells #[.slice A0_0 l0_0.length c0_0, .int .i64 a0_1, .int .i64 a0_2, .int .i64 a0_3] 30 (0, 0))) (hk : w.heap[bk]? = some (.cells #[.int .i64 a1_0, .int .i64 a1_1, .int .i64 a1_2] 32 (0, 0)))
    (h : impl_Market_sellerOrder.m0 k l0_0 a0_1 a0_2 a0_3 a1_0 a1_1 a1_2 0 1 = some r) :
    Calls Try.prog 86 #[.func (.func 104) #[] #[.pointer (some ⟨bm, 0, none⟩), .pointer (some ⟨bk, 0, none⟩)]] w fun e w' => e = .returned (.int .i64 r) ∧ Below w.heap.size w w' := by
  have HR0_0 := Aside0.mk hr0_0
  have HC0_0 := Aside0.mk hc0_0
  have HGM := Aside0.mk hm
  have HGK := Aside0.mk hk
  clear hr0_0 hc0_0 hm hk
  have HB := Aside0.mk (Below.refl w.heap.size w)
  have H' := Aside0.mk h
  clear h
  go_enter Try.func86, Try.ntmps86
  go_wp2
  go_loopg [3, 4] k (fun kq v3 v4 w' => ∃ (x3_1 : Int) (x4_1 : Int), v3 = .int .i64 x3_1 ∧ v4 = .int .i64 x4_1 ∧ Aside0 (impl_Market_sellerOrder.m0 kq l0_0 a0_1 a0_2 a0_3 a1_0 a1_1 a1_2 x3_1 x4_1 = some r) ∧ Aside0 (kq ≤ k) ∧ Aside0 (Below w.heap.size w w'))
  case atStart => exact ⟨(0), (1), (by first | rfl | (simp; done) | (simp [*]; done)), (by first | rfl | (simp; done) | (simp [*]; done)), H', ⟨Nat.le_refl _⟩, HB⟩
  case round =>
    clear H' HB
    obtain ⟨x3_1, x4_1, rfl, rfl, HA, HK1, HB⟩ := hrel
    cases gk with
    | zero => exact absurd HA.out (by simp [impl_Market_sellerOrder.m0])
    | succ k1 =>
      have H := HA.out
      clear HA
      simp only [impl_Market_sellerOrder.m0] at H
      by_cases c2 : x4_1 ≤ 8
      · rw [if_pos c2] at H
        have c2b0 : decide (x4_1 ≤ 8) = true := decide_eq_true c2
        clear c2
        cases e1 : impl_Market_seller.f k1 l0_0 a0_1 a0_2 a0_3 a1_0 a1_1 a1_2 x4_1 with
        | none => rw [e1] at H; cases H
        | some t1 =>
          rw [e1, Option.bind_some] at H
          cases e2 : impl_Market_seller.f k1 l0_0 a0_1 a0_2 a0_3 a1_0 a1_1 a1_2 x3_1 with
          | none => rw [e2] at H; cases H
          | some t2 =>
            rw [e2, Option.bind_some] at H
            have E1 := Aside0.mk e1
            have E2 := Aside0.mk e2
            have H' := Aside0.mk H
            clear H e1 e2
            go_wp2_with fail
            refine (impl_Market_sellerOrder_fn k1 A0_0 c0_0 l0_0 a0_1 a0_2 a0_3 a1_0 a1_1 a1_2 x4_1 t1 bm bk _ (Kd.C_below HR0_0.out HB.out) HC0_0.out ((HB.out.block _ (blk_lt HGM.out)).trans HGM.out) ((HB.out.block _ (blk_lt HGK.out)).trans HGK.out) E1.out).mono ?_
            rintro e w1 ⟨rfl, hb1⟩
            have HB1 := Aside0.mk (below_step HB.out hb1)
            clear hb1
            go_wp2_with fail
            refine (impl_Market_sellerOrder_fn k1 A0_0 c0_0 l0_0 a0_1 a0_2 a0_3 a1_0 a1_1 a1_2 x3_1 t2 bm bk _ (Kd.C_below HR0_0.out HB1.out) HC0_0.out ((HB1.out.block _ (blk_lt HGM.out)).trans HGM.out) ((HB1.out.block _ (blk_lt HGK.out)).trans HGK.out) E2.out).mono ?_
            rintro e w2 ⟨rfl, hb2⟩
            have HB2 := Aside0.mk (below_step HB1.out hb2)
            clear hb2
            have HM := Aside0.mk (Nat.le_trans (Nat.le_succ k1) HK1.out)
            by_cases ct : t1 > t2
            · have H2 := H'.out
              rw [if_pos ct] at H2
              have ctb : decide (t1 > t2) = true := decide_eq_true ct
              clear H' ct
              have H' := Aside0.mk H2
              clear H2
              go_wp2
              go_roundg k1
              case measure => have := HK1.out; omega
              case rel => exact ⟨_, _, rfl, rfl, H', HM, HB2⟩
            · have H2 := H'.out
              rw [if_neg ct] at H2
              have ctb : decide (t1 > t2) = false := decide_eq_false ct
              clear H' ct
              have H' := Aside0.mk H2
              clear H2
              go_wp2
              go_roundg k1
              case measure => have := HK1.out; omega
              case rel => exact ⟨_, _, rfl, rfl, H', HM, HB2⟩
      · rw [if_neg c2] at H
        have c2b0 : decide (x4_1 ≤ 8) = false := decide_eq_false c2
        clear c2
        obtain rfl := Option.some.inj H
        go_wp2
        go_ret
        exact ⟨by first | rfl | (simp; done) | (simp [*]; done), HB.out⟩
set_option maxHeartbeats 8000000 in
set_option maxRecDepth 100000 in
theorem impl_Market_sellerOrder.calls (k : Nat) (A0_0 : Option Addr) (c0_0 : Nat) (l0_0 : List Int) (a0_1 : Int) (a0_2 : Int) (a0_3 : Int) (a1_0 : Int) (a1_1 : Int) (a1_2 : Int) (r : Int) (w : World) (hr0_0 : Kd.C (Kd.int .i64) w A0_0 l0_0.length l0_0) (hc0_0 : l0_0.length ≤ c0_0) (h : impl_Market_sellerOrder.f k l0_0 a0_1 a0_2 a0_3 a1_0 a1_1 a1_2 = some r) :
    Calls Try.prog 79 #[.agg #[.slice A0_0 l0_0.length c0_0, .int .i64 a0_1, .int .i64 a0_2, .int .i64 a0_3], .agg #[.int .i64 a1_0, .int .i64 a1_1, .int .i64 a1_2]] w fun e w' => e = .returned (.int .i64 r) ∧ Below w.heap.size w w' := by
  have hmf : ∀ (fn : Fn) (first cap : Array Value) (w : World), (Instr.makeFunc fn first cap).run Try.prog w = .ok (.func fn first cap) w := fun _ _ _ _ => rfl
  have HR0_0 := Aside0.mk hr0_0
  have HC0_0 := Aside0.mk hc0_0
  have H := Aside0.mk h
  clear hr0_0 hc0_0 h
  go_enter Try.func79, Try.ntmps79
  go_wp2_with fail
  refine (impl_mostOrder_seller k A0_0 c0_0 l0_0 a0_1 a0_2 a0_3 a1_0 a1_1 a1_2 r _ _ _ (by repeat (first | exact HR0_0.out | (with_reducible refine Kd.C_alloc ?_ _))) HC0_0.out ?hm ?hk H.out).mono ?_
  case hm => exact blk_alloc (by simpa using heap_alloc_new w _) _
  case hk => simpa using heap_alloc_new (w.alloc _) _
  rintro e w1 ⟨rfl, hb1⟩
  have HB1 := Aside0.mk hb1
  clear hb1
  go_wp2
  go_ret
  exact ⟨rfl, below_step (below_alloc (below_alloc (Below.refl _ _) _) _) HB1.out⟩

/-! ### impl_Market_loss: function 65 (by hand) -/
def impl_Market_loss.f (k : Nat) (l0_0 : List Int) (a0_1 : Int) (a0_2 : Int) (a0_3 : Int) (a1_0 : Int) (a1_1 : Int) (a1_2 : Int) : Option (Int) := (impl_mostOrder.m0 k l0_0 a0_1 a0_2 a0_3 0 1).bind fun t1 => ((impl_Market_joint.f k l0_0 a0_1 a0_2 a0_3 t1).bind fun t2 => ((impl_Market_sellerOrder.f k l0_0 a0_1 a0_2 a0_3 a1_0 a1_1 a1_2).bind fun t3 => ((impl_Market_joint.f k l0_0 a0_1 a0_2 a0_3 t3).bind fun t4 => (some (wrap64 (t2 - t4))))))
theorem impl_Market_loss.mono : ∀ a0 a1 a2 a3 a4 a5 a6 k, LeO (impl_Market_loss.f k a0 a1 a2 a3 a4 a5 a6) (impl_Market_loss.f (k + 1) a0 a1 a2 a3 a4 a5 a6) := by
  intro a0 a1 a2 a3 a4 a5 a6 k
  have ih0 := impl_mostOrder.mono_l k
  unfold impl_Market_loss.f
  repeat' first
    | (with_reducible exact ih0 _ _ _ _ _ _)
    | (with_reducible exact impl_Market_joint.mono _ _ _ _ _ _)
    | (with_reducible exact impl_Market_sellerOrder.mono _ _ _ _ _ _ _ _)
    | (with_reducible exact LeO.refl _)
    | (with_reducible refine LeO.bind ?_ (fun _ => ?_))
set_option maxHeartbeats 8000000 in
set_option maxRecDepth 100000 in
theorem impl_Market_loss.calls (k : Nat) (A0_0 : Option Addr) (c0_0 : Nat) (l0_0 : List Int) (a0_1 : Int) (a0_2 : Int) (a0_3 : Int) (a1_0 : Int) (a1_1 : Int) (a1_2 : Int) (r : Int) (w : World) (hr0_0 : Kd.C (Kd.int .i64) w A0_0 l0_0.length l0_0) (hc0_0 : l0_0.length ≤ c0_0) (h : impl_Market_loss.f k l0_0 a0_1 a0_2 a0_3 a1_0 a1_1 a1_2 = some r) :
    Calls Try.prog 65 #[.agg #[.slice A0_0 l0_0.length c0_0, .int .i64 a0_1, .int .i64 a0_2, .int .i64 a0_3], .agg #[.int .i64 a1_0, .int .i64 a1_1, .int .i64 a1_2]] w fun e w' => e = .returned (.int .i64 r) ∧ Below w.heap.size w w' := by
  have hmf : ∀ (fn : Fn) (first cap : Array Value) (w : World), (Instr.makeFunc fn first cap).run Try.prog w = .ok (.func fn first cap) w := fun _ _ _ _ => rfl
  have hum := Try.underlying30
  have huc := Try.underlying32
  have HR0_0 := Aside0.mk hr0_0
  have HC0_0 := Aside0.mk hc0_0
  clear hr0_0 hc0_0
  unfold impl_Market_loss.f at h
  have h' := Option.bind_eq_some_iff.mp h
  clear h
  obtain ⟨t1, e1, h⟩ := h'
  have h' := Option.bind_eq_some_iff.mp h
  clear h
  obtain ⟨t2, e2, h⟩ := h'
  have h' := Option.bind_eq_some_iff.mp h
  clear h
  obtain ⟨t3, e3, h⟩ := h'
  have h' := Option.bind_eq_some_iff.mp h
  clear h
  obtain ⟨t4, e4, h⟩ := h'
  obtain rfl := Option.some.inj h
  have E1 := Aside0.mk e1
  have E2 := Aside0.mk e2
  have E3 := Aside0.mk e3
  have E4 := Aside0.mk e4
  clear e1 e2 e3 e4
  go_enter Try.func65, Try.ntmps65
  go_wp2_with fail
  have HC := Aside0.mk (Kd.C_alloc (Kd.C_alloc HR0_0.out (.cells #[.slice A0_0 l0_0.length c0_0, .int .i64 a0_1, .int .i64 a0_2, .int .i64 a0_3] 30)) (.cells #[.int .i64 a1_0, .int .i64 a1_1, .int .i64 a1_2] 32))
  have HB := Aside0.mk (below_alloc (below_alloc (Below.refl w.heap.size w) (.cells #[.slice A0_0 l0_0.length c0_0, .int .i64 a0_1, .int .i64 a0_2, .int .i64 a0_3] 30)) (.cells #[.int .i64 a1_0, .int .i64 a1_1, .int .i64 a1_2] 32))
  have hm : ((w.alloc (.cells #[.slice A0_0 l0_0.length c0_0, .int .i64 a0_1, .int .i64 a0_2, .int .i64 a0_3] 30)).alloc (.cells #[.int .i64 a1_0, .int .i64 a1_1, .int .i64 a1_2] 32)).heap[w.heap.size]? = some (.cells #[.slice A0_0 l0_0.length c0_0, .int .i64 a0_1, .int .i64 a0_2, .int .i64 a0_3] 30 (0, 0)) := blk_alloc (by simpa using heap_alloc_new w _) _
  have hk : ((w.alloc (.cells #[.slice A0_0 l0_0.length c0_0, .int .i64 a0_1, .int .i64 a0_2, .int .i64 a0_3] 30)).alloc (.cells #[.int .i64 a1_0, .int .i64 a1_1, .int .i64 a1_2] 32)).heap[w.heap.size + 1]? = some (.cells #[.int .i64 a1_0, .int .i64 a1_1, .int .i64 a1_2] 32 (0, 0)) := by simpa using heap_alloc_new (w.alloc _) _
  generalize (w.alloc (.cells #[.slice A0_0 l0_0.length c0_0, .int .i64 a0_1, .int .i64 a0_2, .int .i64 a0_3] 30)).alloc (.cells #[.int .i64 a1_0, .int .i64 a1_1, .int .i64 a1_2] 32) = W0 at HC HB hm hk ⊢
  generalize w.heap.size = bm at hm hk ⊢
  have s0 : W0.cell? ⟨bm, 0, none⟩ = some (.slice A0_0 l0_0.length c0_0) := (blk_cell hm 0).trans rfl
  have s1 : W0.cell? ⟨bm, 1, none⟩ = some (.int .i64 a0_1) := (blk_cell hm 1).trans rfl
  have s2 : W0.cell? ⟨bm, 2, none⟩ = some (.int .i64 a0_2) := (blk_cell hm 2).trans rfl
  have s3 : W0.cell? ⟨bm, 3, none⟩ = some (.int .i64 a0_3) := (blk_cell hm 3).trans rfl
  have s4 : W0.cell? ⟨bm + 1, 0, none⟩ = some (.int .i64 a1_0) := (blk_cell hk 0).trans rfl
  have s5 : W0.cell? ⟨bm + 1, 1, none⟩ = some (.int .i64 a1_1) := (blk_cell hk 1).trans rfl
  have s6 : W0.cell? ⟨bm + 1, 2, none⟩ = some (.int .i64 a1_2) := (blk_cell hk 2).trans rfl
  have LT := Aside0.mk (blk_lt hk)
  clear hm hk HR0_0
  go_region_held3 (fun w' => w'.cell? ⟨bm, 0, none⟩ = some (.slice A0_0 l0_0.length c0_0) ∧ w'.cell? ⟨bm, 1, none⟩ = some (.int .i64 a0_1) ∧ w'.cell? ⟨bm, 2, none⟩ = some (.int .i64 a0_2) ∧ w'.cell? ⟨bm, 3, none⟩ = some (.int .i64 a0_3) ∧ w'.cell? ⟨bm + 1, 0, none⟩ = some (.int .i64 a1_0) ∧ w'.cell? ⟨bm + 1, 1, none⟩ = some (.int .i64 a1_1) ∧ w'.cell? ⟨bm + 1, 2, none⟩ = some (.int .i64 a1_2))
    (first
      | go_keep
      | (go_split_ands; refine ⟨?_, ?_, ?_, ?_, ?_, ?_, ?_⟩ <;> exact pw_cell_below (by assumption) (by assumption)))
    (first
      | (go_at_call 86; with_reducible refine (impl_mostOrder_joint k A0_0 c0_0 l0_0 a0_1 a0_2 a0_3 t1 _ ?_ HC0_0.out E1.out).mono ?_; (repeat (first | exact HC.out | (with_reducible refine Kd.C_drew ?_) | (with_reducible refine Kd.C_below ?_ (by assumption)))); rintro e wA ⟨rfl, hbA⟩)
      | (go_at_call 79; with_reducible refine (impl_Market_sellerOrder.calls k A0_0 c0_0 l0_0 a0_1 a0_2 a0_3 a1_0 a1_1 a1_2 t3 _ ?_ HC0_0.out E3.out).mono ?_; (repeat (first | exact HC.out | (with_reducible refine Kd.C_drew ?_) | (with_reducible refine Kd.C_below ?_ (by assumption)))); rintro e wB ⟨rfl, hbB⟩)
      | (go_at_call 87; with_reducible refine (impl_Market_joint.calls k A0_0 c0_0 l0_0 a0_1 a0_2 a0_3 t1 t2 _ ?_ HC0_0.out E2.out).mono ?_; (repeat (first | exact HC.out | (with_reducible refine Kd.C_drew ?_) | (with_reducible refine Kd.C_below ?_ (by assumption)))); rintro e wC ⟨rfl, hbC⟩)
      | (go_at_call 87; with_reducible refine (impl_Market_joint.calls k A0_0 c0_0 l0_0 a0_1 a0_2 a0_3 t3 t4 _ ?_ HC0_0.out E4.out).mono ?_; (repeat (first | exact HC.out | (with_reducible refine Kd.C_drew ?_) | (with_reducible refine Kd.C_below ?_ (by assumption)))); rintro e wD ⟨rfl, hbD⟩))
  go_wp2
  go_ret
  exact ⟨by first | rfl | (simp only [i64_w]; rfl) | (simp [i64_w]; done), by repeat (first | exact HB.out | apply below_drew1 | refine below_step ?_ (by assumption))⟩

/-! ### impl_ProfitLoss: function 17 -/
def impl_ProfitLoss.f (k : Nat) (l0_0 : List Int) (a0_1 : Int) (a0_2 : Int) (a0_3 : Int) (a1_0 : Int) (a1_1 : Int) (a1_2 : Int) : Option (Int × Bool) := (impl_isDeal.f k l0_0 a0_1 a0_2 a0_3 a1_0 a1_1 a1_2).bind fun t203 => (if t203 = true then ((impl_Market_loss.f k l0_0 a0_1 a0_2 a0_3 a1_0 a1_1 a1_2).bind fun t204 => (some (t204, true))) else (some (0, false)))
theorem impl_ProfitLoss.mono : ∀ a0 a1 a2 a3 a4 a5 a6 k, LeO (impl_ProfitLoss.f k a0 a1 a2 a3 a4 a5 a6) (impl_ProfitLoss.f (k + 1) a0 a1 a2 a3 a4 a5 a6) := by
  intro a0 a1 a2 a3 a4 a5 a6 k
  unfold impl_ProfitLoss.f
  repeat' first
      | (with_reducible exact impl_Market_loss.mono _ _ _ _ _ _ _ _)
      | (with_reducible exact impl_isDeal.mono _ _ _ _ _ _ _ _)
      | (with_reducible exact LeO.refl _)
      | (with_reducible exact LeO.none _)
      | (with_reducible refine LeO.ite ?_ ?_)
      | (with_reducible refine LeO.bind ?_ (fun _ => ?_))
      | exact impl_Market_loss.mono _ _ _ _ _ _ _ _
      | exact impl_isDeal.mono _ _ _ _ _ _ _ _
      | exact LeO.none _
      | refine LeO.ite ?_ ?_
      | refine LeO.bind ?_ (fun _ => ?_)
set_option maxHeartbeats 8000000 in
set_option maxRecDepth 100000 in
theorem impl_ProfitLoss.calls (k : Nat) (A0_0 : Option Addr) (c0_0 : Nat) (l0_0 : List Int) (a0_1 : Int) (a0_2 : Int) (a0_3 : Int) (a1_0 : Int) (a1_1 : Int) (a1_2 : Int) (r1 : Int) (r2 : Bool) (w : World) (hr0_0 : Kd.C (Kd.int .i64) w A0_0 l0_0.length l0_0) (hc0_0 : l0_0.length ≤ c0_0) (h : impl_ProfitLoss.f k l0_0 a0_1 a0_2 a0_3 a1_0 a1_1 a1_2 = some (r1, r2)) :
    Calls Try.prog 17 #[.agg #[.slice A0_0 l0_0.length c0_0, .int .i64 a0_1, .int .i64 a0_2, .int .i64 a0_3], .agg #[.int .i64 a1_0, .int .i64 a1_1, .int .i64 a1_2]] w fun e w' => e = .returned (.tuple #[.int .i64 r1, .bool r2]) ∧ Below w.heap.size w w' := by
  have hu30 := Try.underlying30
  have hu32 := Try.underlying32
  have HR0_0 := Aside0.mk hr0_0
  have HC0_0 := Aside0.mk hc0_0
  clear hr0_0 hc0_0
  have HB := Aside0.mk (Below.refl w.heap.size w)
  have H : ((impl_isDeal.f k l0_0 a0_1 a0_2 a0_3 a1_0 a1_1 a1_2).bind fun t203 => (if t203 = true then ((impl_Market_loss.f k l0_0 a0_1 a0_2 a0_3 a1_0 a1_1 a1_2).bind fun t204 => (some (t204, true))) else (some (0, false)))) = some (r1, r2) := h
  clear h
  replace H := Option.bind_eq_some_iff.mp H
  obtain ⟨t203, A30, H⟩ := H
  replace H : (if t203 = true then ((impl_Market_loss.f k l0_0 a0_1 a0_2 a0_3 a1_0 a1_1 a1_2).bind fun t204 => (some (t204, true))) else (some (0, false))) = some (r1, r2) := H
  have A3 := Aside0.mk A30
  clear A30
  by_cases c4 : t203 = true
  · subst c4
    have H1 : ((impl_Market_loss.f k l0_0 a0_1 a0_2 a0_3 a1_0 a1_1 a1_2).bind fun t204 => (some (t204, true))) = some (r1, r2) := by rw [if_pos rfl] at H; exact H
    clear H
    have H := H1
    clear H1
    replace H := Option.bind_eq_some_iff.mp H
    obtain ⟨t204, A50, H⟩ := H
    replace H : (some (t204, true)) = some (r1, r2) := H
    have A5 := Aside0.mk A50
    clear A50
    simp only [Option.some.injEq, Prod.mk.injEq] at H
    obtain ⟨rfl, rfl⟩ := H
    go_enter Try.func17, Try.ntmps17
    go_wp2_with (first | ((with_reducible refine gate_dst (N := 2) rfl ?_); refine box_event ?hg (N := 2) ?hd (cs := #[.slice A0_0 l0_0.length c0_0, .int .i64 a0_1, .int .i64 a0_2, .int .i64 a0_3]) (t := 30) ?hr ?_; (case hd => rfl); (case hg => rfl); (case hr => first | (go_simp; done) | (go_simp; rfl)); intro gb201 hg w6 hbox hb; have n0_ := Aside0.mk (below_step (by repeat (first | (with_reducible first | exact HB.out | apply below_alloc | apply pw_below_drewN | apply below_drew1) | exact HB.out)) hb); have n1_ := Aside0.mk (hbox); have n2_ := Aside0.mk ((by rw [hg]; exact (below_size (by repeat (first | (with_reducible first | exact HB.out | apply below_alloc | apply pw_below_drewN | apply below_drew1) | exact HB.out))) : w.heap.size ≤ gb201)); have n3_ := Aside0.mk ((by rw [hg]; exact (below_size (by repeat (first | (with_reducible first | exact HB.out | apply below_alloc | apply pw_below_drewN | apply below_drew1) | exact HB.out))) : w.heap.size ≤ gb201)); clear HB; have HB := n0_; have BK201 := n1_; have GW201 := n2_; have GE201 := n3_; clear n0_ n1_ n2_ n3_; clear hb hbox hg) | ((with_reducible refine gate_dst (N := 3) rfl ?_); refine box_event ?hg (N := 3) ?hd (cs := #[.int .i64 a1_0, .int .i64 a1_1, .int .i64 a1_2]) (t := 32) ?hr ?_; (case hd => rfl); (case hg => rfl); (case hr => first | (go_simp; done) | (go_simp; rfl)); intro gb202 hg w7 hbox hb; have n0_ := Aside0.mk (blk_below (g := gb201) (o := .cells #[.slice A0_0 l0_0.length c0_0, .int .i64 a0_1, .int .i64 a0_2, .int .i64 a0_3] 30 (0, 0)) (by (with_reducible repeat (first | refine blk_drewN ?_ _ | refine blk_drew ?_ | refine blk_alloc ?_ _)); exact BK201.out) hb); have n1_ := Aside0.mk (below_step (by repeat (first | (with_reducible first | exact HB.out | apply below_alloc | apply pw_below_drewN | apply below_drew1 | refine below_set ?_ GE201.out) | exact HB.out)) hb); have n2_ := Aside0.mk (hbox); have n3_ := Aside0.mk ((by rw [hg]; exact (below_size (by repeat (first | (with_reducible first | exact HB.out | apply below_alloc | apply pw_below_drewN | apply below_drew1 | refine below_set ?_ GE201.out) | exact HB.out))) : w.heap.size ≤ gb202)); have n4_ := Aside0.mk ((by rw [hg]; exact (below_size (by repeat (first | (with_reducible first | exact HB.out | apply below_alloc | apply pw_below_drewN | apply below_drew1 | refine below_set ?_ GE201.out) | exact HB.out))) : w.heap.size ≤ gb202)); have n5_ := Aside0.mk ((by rw [hg]; exact Nat.ne_of_lt (blk_lt (g := gb201) (o := .cells #[.slice A0_0 l0_0.length c0_0, .int .i64 a0_1, .int .i64 a0_2, .int .i64 a0_3] 30 (0, 0)) (by (with_reducible repeat (first | refine blk_drewN ?_ _ | refine blk_drew ?_ | refine blk_alloc ?_ _)); exact BK201.out)) : gb201 ≠ gb202)); have n6_ := Aside0.mk ((by rw [hg]; exact Nat.ne_of_gt (blk_lt (g := gb201) (o := .cells #[.slice A0_0 l0_0.length c0_0, .int .i64 a0_1, .int .i64 a0_2, .int .i64 a0_3] 30 (0, 0)) (by (with_reducible repeat (first | refine blk_drewN ?_ _ | refine blk_drew ?_ | refine blk_alloc ?_ _)); exact BK201.out)) : gb202 ≠ gb201)); clear BK201; clear HB; have BK201 := n0_; have HB := n1_; have BK202 := n2_; have GW202 := n3_; have GE202 := n4_; have NB201_202 := n5_; have NB202_201 := n6_; clear n0_ n1_ n2_ n3_ n4_ n5_ n6_; clear hb hbox hg; have hnb8 := NB201_202.out; have hnc8 := NB202_201.out; have hcz9_0 : w7.cell? ⟨gb201, 0, none⟩ = some (.slice A0_0 l0_0.length c0_0) := (blk_cell BK201.out 0).trans rfl; have hcz9_1 : w7.cell? ⟨gb201, 1, none⟩ = some (.int .i64 a0_1) := (blk_cell BK201.out 1).trans rfl; have hcz9_2 : w7.cell? ⟨gb201, 2, none⟩ = some (.int .i64 a0_2) := (blk_cell BK201.out 2).trans rfl; have hcz9_3 : w7.cell? ⟨gb201, 3, none⟩ = some (.int .i64 a0_3) := (blk_cell BK201.out 3).trans rfl; have hfz9_0 := blk_frozen BK201.out 0; have hfz9_1 := blk_frozen BK201.out 1; have hfz9_2 := blk_frozen BK201.out 2; have hfz9_3 := blk_frozen BK201.out 3; have hcz10_0 : w7.cell? ⟨gb202, 0, none⟩ = some (.int .i64 a1_0) := (blk_cell BK202.out 0).trans rfl; have hcz10_1 : w7.cell? ⟨gb202, 1, none⟩ = some (.int .i64 a1_1) := (blk_cell BK202.out 1).trans rfl; have hcz10_2 : w7.cell? ⟨gb202, 2, none⟩ = some (.int .i64 a1_2) := (blk_cell BK202.out 2).trans rfl; have hfz10_0 := blk_frozen BK202.out 0; have hfz10_1 := blk_frozen BK202.out 1; have hfz10_2 := blk_frozen BK202.out 2) | ((with_reducible refine gate_callee (f := 64) rfl ?_); refine goesL_ (some 8) rfl rfl Try.func64 (by kernel_rfl) rfl #[.agg #[.slice A0_0 l0_0.length c0_0, .int .i64 a0_1, .int .i64 a0_2, .int .i64 a0_3], .agg #[.int .i64 a1_0, .int .i64 a1_1, .int .i64 a1_2]] rfl (by (try simp only [List.map_toArray, List.map_cons, List.map_nil]); first | done | rfl | (simp only [List.length_drop, List.length_take]; rfl)) ?_; (with_reducible refine (impl_isDeal.calls k _ _ l0_0 a0_1 a0_2 a0_3 a1_0 a1_1 a1_2 true _ ?side1 ?side2 A3.out).mono ?_); (case side1 => repeat (first | exact (Kd.C_below HR0_0.out HB.out) | (with_reducible refine Kd.C_alloc ?_ _) | (with_reducible refine Kd.C_drewN ?_ _) | (with_reducible refine Kd.C_drew ?_))); (case side2 => exact HC0_0.out); rintro e w11 ⟨rfl, hb⟩; refine ⟨_, rfl, ?_⟩; have n0_ := Aside0.mk (blk_below (g := gb201) (o := .cells #[.slice A0_0 l0_0.length c0_0, .int .i64 a0_1, .int .i64 a0_2, .int .i64 a0_3] 30 (0, 0)) (by (with_reducible repeat (first | refine blk_drewN ?_ _ | refine blk_drew ?_ | refine blk_alloc ?_ _)); exact BK201.out) hb); have n1_ := Aside0.mk (blk_below (g := gb202) (o := .cells #[.int .i64 a1_0, .int .i64 a1_1, .int .i64 a1_2] 32 (0, 0)) (by (with_reducible repeat (first | refine blk_drewN ?_ _ | refine blk_drew ?_ | refine blk_alloc ?_ _)); exact BK202.out) hb); have n2_ := Aside0.mk (below_step (by repeat (first | (with_reducible first | exact HB.out | apply below_alloc | apply pw_below_drewN | apply below_drew1 | refine below_set ?_ GE201.out | refine below_set ?_ GE202.out) | exact HB.out)) hb); clear BK201; clear BK202; clear HB; have BK201 := n0_; have BK202 := n1_; have HB := n2_; clear n0_ n1_ n2_; (try clear hb); (try clear hb2); (try clear hk); (try clear hi); have hcz12_0 : w11.cell? ⟨gb201, 0, none⟩ = some (.slice A0_0 l0_0.length c0_0) := (blk_cell BK201.out 0).trans rfl; have hcz12_1 : w11.cell? ⟨gb201, 1, none⟩ = some (.int .i64 a0_1) := (blk_cell BK201.out 1).trans rfl; have hcz12_2 : w11.cell? ⟨gb201, 2, none⟩ = some (.int .i64 a0_2) := (blk_cell BK201.out 2).trans rfl; have hcz12_3 : w11.cell? ⟨gb201, 3, none⟩ = some (.int .i64 a0_3) := (blk_cell BK201.out 3).trans rfl; have hfz12_0 := blk_frozen BK201.out 0; have hfz12_1 := blk_frozen BK201.out 1; have hfz12_2 := blk_frozen BK201.out 2; have hfz12_3 := blk_frozen BK201.out 3; have hcz13_0 : w11.cell? ⟨gb202, 0, none⟩ = some (.int .i64 a1_0) := (blk_cell BK202.out 0).trans rfl; have hcz13_1 : w11.cell? ⟨gb202, 1, none⟩ = some (.int .i64 a1_1) := (blk_cell BK202.out 1).trans rfl; have hcz13_2 : w11.cell? ⟨gb202, 2, none⟩ = some (.int .i64 a1_2) := (blk_cell BK202.out 2).trans rfl; have hfz13_0 := blk_frozen BK202.out 0; have hfz13_1 := blk_frozen BK202.out 1; have hfz13_2 := blk_frozen BK202.out 2) | ((with_reducible refine gate_callee (f := 65) rfl ?_); refine goesL_ (some 12) rfl rfl Try.func65 (by kernel_rfl) rfl #[.agg #[.slice A0_0 l0_0.length c0_0, .int .i64 a0_1, .int .i64 a0_2, .int .i64 a0_3], .agg #[.int .i64 a1_0, .int .i64 a1_1, .int .i64 a1_2]] rfl (by (try simp only [List.map_toArray, List.map_cons, List.map_nil]); first | done | rfl | (simp only [List.length_drop, List.length_take]; rfl)) ?_; (with_reducible refine (impl_Market_loss.calls k _ _ l0_0 a0_1 a0_2 a0_3 a1_0 a1_1 a1_2 t204 _ ?side1 ?side2 A5.out).mono ?_); (case side1 => repeat (first | exact (Kd.C_below HR0_0.out HB.out) | (with_reducible refine Kd.C_alloc ?_ _) | (with_reducible refine Kd.C_drewN ?_ _) | (with_reducible refine Kd.C_drew ?_))); (case side2 => exact HC0_0.out); rintro e w14 ⟨rfl, hb⟩; refine ⟨_, rfl, ?_⟩; have n0_ := Aside0.mk (blk_below (g := gb201) (o := .cells #[.slice A0_0 l0_0.length c0_0, .int .i64 a0_1, .int .i64 a0_2, .int .i64 a0_3] 30 (0, 0)) (by (with_reducible repeat (first | refine blk_drewN ?_ _ | refine blk_drew ?_ | refine blk_alloc ?_ _)); exact BK201.out) hb); have n1_ := Aside0.mk (blk_below (g := gb202) (o := .cells #[.int .i64 a1_0, .int .i64 a1_1, .int .i64 a1_2] 32 (0, 0)) (by (with_reducible repeat (first | refine blk_drewN ?_ _ | refine blk_drew ?_ | refine blk_alloc ?_ _)); exact BK202.out) hb); have n2_ := Aside0.mk (below_step (by repeat (first | (with_reducible first | exact HB.out | apply below_alloc | apply pw_below_drewN | apply below_drew1 | refine below_set ?_ GE201.out | refine below_set ?_ GE202.out) | exact HB.out)) hb); clear BK201; clear BK202; clear HB; have BK201 := n0_; have BK202 := n1_; have HB := n2_; clear n0_ n1_ n2_; (try clear hb); (try clear hb2); (try clear hk); (try clear hi)))
    go_ret2
    exact ⟨by first | rfl | (simp [errW_none, errW_some] <;> rfl) | (simp [*, errW_none, errW_some] <;> rfl), by repeat (first | (with_reducible first | exact HB.out | apply below_alloc | apply pw_below_drewN | apply below_drew1 | refine below_set ?_ GE201.out | refine below_set ?_ GE202.out) | exact HB.out)⟩
  · replace c4 := Bool.eq_false_iff.mpr c4
    subst c4
    have H1 : (some (0, false)) = some (r1, r2) := by rw [if_neg (show ¬ (false = true) by decide)] at H; exact H
    clear H
    have H := H1
    clear H1
    simp only [Option.some.injEq, Prod.mk.injEq] at H
    obtain ⟨rfl, rfl⟩ := H
    go_enter Try.func17, Try.ntmps17
    go_wp2_with (first | ((with_reducible refine gate_dst (N := 2) rfl ?_); refine box_event ?hg (N := 2) ?hd (cs := #[.slice A0_0 l0_0.length c0_0, .int .i64 a0_1, .int .i64 a0_2, .int .i64 a0_3]) (t := 30) ?hr ?_; (case hd => rfl); (case hg => rfl); (case hr => first | (go_simp; done) | (go_simp; rfl)); intro gb201 hg w15 hbox hb; have n0_ := Aside0.mk (below_step (by repeat (first | (with_reducible first | exact HB.out | apply below_alloc | apply pw_below_drewN | apply below_drew1) | exact HB.out)) hb); have n1_ := Aside0.mk (hbox); have n2_ := Aside0.mk ((by rw [hg]; exact (below_size (by repeat (first | (with_reducible first | exact HB.out | apply below_alloc | apply pw_below_drewN | apply below_drew1) | exact HB.out))) : w.heap.size ≤ gb201)); have n3_ := Aside0.mk ((by rw [hg]; exact (below_size (by repeat (first | (with_reducible first | exact HB.out | apply below_alloc | apply pw_below_drewN | apply below_drew1) | exact HB.out))) : w.heap.size ≤ gb201)); clear HB; have HB := n0_; have BK201 := n1_; have GW201 := n2_; have GE201 := n3_; clear n0_ n1_ n2_ n3_; clear hb hbox hg) | ((with_reducible refine gate_dst (N := 3) rfl ?_); refine box_event ?hg (N := 3) ?hd (cs := #[.int .i64 a1_0, .int .i64 a1_1, .int .i64 a1_2]) (t := 32) ?hr ?_; (case hd => rfl); (case hg => rfl); (case hr => first | (go_simp; done) | (go_simp; rfl)); intro gb202 hg w16 hbox hb; have n0_ := Aside0.mk (blk_below (g := gb201) (o := .cells #[.slice A0_0 l0_0.length c0_0, .int .i64 a0_1, .int .i64 a0_2, .int .i64 a0_3] 30 (0, 0)) (by (with_reducible repeat (first | refine blk_drewN ?_ _ | refine blk_drew ?_ | refine blk_alloc ?_ _)); exact BK201.out) hb); have n1_ := Aside0.mk (below_step (by repeat (first | (with_reducible first | exact HB.out | apply below_alloc | apply pw_below_drewN | apply below_drew1 | refine below_set ?_ GE201.out) | exact HB.out)) hb); have n2_ := Aside0.mk (hbox); have n3_ := Aside0.mk ((by rw [hg]; exact (below_size (by repeat (first | (with_reducible first | exact HB.out | apply below_alloc | apply pw_below_drewN | apply below_drew1 | refine below_set ?_ GE201.out) | exact HB.out))) : w.heap.size ≤ gb202)); have n4_ := Aside0.mk ((by rw [hg]; exact (below_size (by repeat (first | (with_reducible first | exact HB.out | apply below_alloc | apply pw_below_drewN | apply below_drew1 | refine below_set ?_ GE201.out) | exact HB.out))) : w.heap.size ≤ gb202)); have n5_ := Aside0.mk ((by rw [hg]; exact Nat.ne_of_lt (blk_lt (g := gb201) (o := .cells #[.slice A0_0 l0_0.length c0_0, .int .i64 a0_1, .int .i64 a0_2, .int .i64 a0_3] 30 (0, 0)) (by (with_reducible repeat (first | refine blk_drewN ?_ _ | refine blk_drew ?_ | refine blk_alloc ?_ _)); exact BK201.out)) : gb201 ≠ gb202)); have n6_ := Aside0.mk ((by rw [hg]; exact Nat.ne_of_gt (blk_lt (g := gb201) (o := .cells #[.slice A0_0 l0_0.length c0_0, .int .i64 a0_1, .int .i64 a0_2, .int .i64 a0_3] 30 (0, 0)) (by (with_reducible repeat (first | refine blk_drewN ?_ _ | refine blk_drew ?_ | refine blk_alloc ?_ _)); exact BK201.out)) : gb202 ≠ gb201)); clear BK201; clear HB; have BK201 := n0_; have HB := n1_; have BK202 := n2_; have GW202 := n3_; have GE202 := n4_; have NB201_202 := n5_; have NB202_201 := n6_; clear n0_ n1_ n2_ n3_ n4_ n5_ n6_; clear hb hbox hg; have hnb17 := NB201_202.out; have hnc17 := NB202_201.out; have hcz18_0 : w16.cell? ⟨gb201, 0, none⟩ = some (.slice A0_0 l0_0.length c0_0) := (blk_cell BK201.out 0).trans rfl; have hcz18_1 : w16.cell? ⟨gb201, 1, none⟩ = some (.int .i64 a0_1) := (blk_cell BK201.out 1).trans rfl; have hcz18_2 : w16.cell? ⟨gb201, 2, none⟩ = some (.int .i64 a0_2) := (blk_cell BK201.out 2).trans rfl; have hcz18_3 : w16.cell? ⟨gb201, 3, none⟩ = some (.int .i64 a0_3) := (blk_cell BK201.out 3).trans rfl; have hfz18_0 := blk_frozen BK201.out 0; have hfz18_1 := blk_frozen BK201.out 1; have hfz18_2 := blk_frozen BK201.out 2; have hfz18_3 := blk_frozen BK201.out 3; have hcz19_0 : w16.cell? ⟨gb202, 0, none⟩ = some (.int .i64 a1_0) := (blk_cell BK202.out 0).trans rfl; have hcz19_1 : w16.cell? ⟨gb202, 1, none⟩ = some (.int .i64 a1_1) := (blk_cell BK202.out 1).trans rfl; have hcz19_2 : w16.cell? ⟨gb202, 2, none⟩ = some (.int .i64 a1_2) := (blk_cell BK202.out 2).trans rfl; have hfz19_0 := blk_frozen BK202.out 0; have hfz19_1 := blk_frozen BK202.out 1; have hfz19_2 := blk_frozen BK202.out 2) | ((with_reducible refine gate_callee (f := 64) rfl ?_); refine goesL_ (some 8) rfl rfl Try.func64 (by kernel_rfl) rfl #[.agg #[.slice A0_0 l0_0.length c0_0, .int .i64 a0_1, .int .i64 a0_2, .int .i64 a0_3], .agg #[.int .i64 a1_0, .int .i64 a1_1, .int .i64 a1_2]] rfl (by (try simp only [List.map_toArray, List.map_cons, List.map_nil]); first | done | rfl | (simp only [List.length_drop, List.length_take]; rfl)) ?_; (with_reducible refine (impl_isDeal.calls k _ _ l0_0 a0_1 a0_2 a0_3 a1_0 a1_1 a1_2 false _ ?side1 ?side2 A3.out).mono ?_); (case side1 => repeat (first | exact (Kd.C_below HR0_0.out HB.out) | (with_reducible refine Kd.C_alloc ?_ _) | (with_reducible refine Kd.C_drewN ?_ _) | (with_reducible refine Kd.C_drew ?_))); (case side2 => exact HC0_0.out); rintro e w20 ⟨rfl, hb⟩; refine ⟨_, rfl, ?_⟩; have n0_ := Aside0.mk (blk_below (g := gb201) (o := .cells #[.slice A0_0 l0_0.length c0_0, .int .i64 a0_1, .int .i64 a0_2, .int .i64 a0_3] 30 (0, 0)) (by (with_reducible repeat (first | refine blk_drewN ?_ _ | refine blk_drew ?_ | refine blk_alloc ?_ _)); exact BK201.out) hb); have n1_ := Aside0.mk (blk_below (g := gb202) (o := .cells #[.int .i64 a1_0, .int .i64 a1_1, .int .i64 a1_2] 32 (0, 0)) (by (with_reducible repeat (first | refine blk_drewN ?_ _ | refine blk_drew ?_ | refine blk_alloc ?_ _)); exact BK202.out) hb); have n2_ := Aside0.mk (below_step (by repeat (first | (with_reducible first | exact HB.out | apply below_alloc | apply pw_below_drewN | apply below_drew1 | refine below_set ?_ GE201.out | refine below_set ?_ GE202.out) | exact HB.out)) hb); clear BK201; clear BK202; clear HB; have BK201 := n0_; have BK202 := n1_; have HB := n2_; clear n0_ n1_ n2_; (try clear hb); (try clear hb2); (try clear hk); (try clear hi)))
    go_ret2
    exact ⟨by first | rfl | (simp [errW_none, errW_some] <;> rfl) | (simp [*, errW_none, errW_some] <;> rfl), by repeat (first | (with_reducible first | exact HB.out | apply below_alloc | apply pw_below_drewN | apply below_drew1 | refine below_set ?_ GE201.out | refine below_set ?_ GE202.out) | exact HB.out)⟩

end Go.Proofs.Ytiniocecpgjikaa.PFnExactProfitLoss
