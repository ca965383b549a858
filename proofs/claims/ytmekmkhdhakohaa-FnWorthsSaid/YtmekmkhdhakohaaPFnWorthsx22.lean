-- A text of this session (its program hook.py, over the kit's print.py): not a print of print.sh
-- THIN: one blank for two
import Derived.Test.YtmekmkhdhakohaaPFnWorthsx0
namespace Go.Proofs.Ytmekmkhdhakohaa.PFnWorths
open Go.RowKit Go.Proofs.YtmekmkhdhakohaaW.PrintWords Go.Proofs.YtmekmkhdhakohaaW.PrintLast Go.Proofs.YtmekmkhdhakohaaW.PrintMore
attribute [local go_sem] max2_int min2_int max_two min_two max_three min_three max_four min_four   -- for this text's walks alone
set_option linter.unusedVariables false
set_option linter.unusedSimpArgs false

-- SQUEEZED
theorem z22_A {p : Prop} (h : p) : Aside0 p := Aside0.mk h
theorem z22_1 {p : Prop} (h : p := by repeat (with_reducible first | exact HB.out | apply pw_below_drewN | refine below_set ?_ (IsS114.ge a6.out))) : p := h
theorem z22_2 {p : Prop} (h : p := by (try simp only [List.map_toArray, List.map_cons, List.map_nil]); rfl) : p := h
theorem z22_3 {p : Prop} (h : p := by repeat (with_reducible first | exact HK.out | apply KeepBut.set_ | apply keep_drewN)) : p := h
theorem z22_4 {p : Prop} (h : p := by (try simp only [Int.add_zero]); repeat (with_reducible first | exact a6.out | apply IsS114.drewN | apply IsS114.set_1 | apply IsS114.set_2)) : p := h
theorem z22_5 {p : Prop} (h : p := by (with_reducible assumption)) : p := h
theorem z22_6 {p : Prop} (h : p := by repeat (with_reducible first | exact a6.out | apply IsS114.drewN | apply IsS114.set_1 | apply IsS114.set_2)) : p := h

/-! ### laws_rBig: function 47 -/
def laws_rBig.f (a : List Int) : Option (Bool) := some (decide ((a.length : Int) > 65536))
set_option maxHeartbeats 8000000 in
set_option maxRecDepth 100000 in
theorem laws_rBig.calls (A0 : Option Addr) (c0 : Nat) (l0 : List Int) (r : Bool) (w : World) (a7 : Kd.C (Kd.int .u8) w A0 l0.length l0) (o1 : l0.length ≤ c0) (h : laws_rBig.f l0 = some r) :
  Calls Try.prog 47 #[.slice A0 l0.length c0] w fun e w' => e = .returned (.bool r) ∧ Drawn0 w w' := by
 have p1 := z22_A a7; have p2 := z22_A o1; clear a7 o1; unfold laws_rBig.f at h; revert h; intro H; obtain rfl := Option.some.inj H; go_enter Try.func47, Try.ntmps47; go_wp2; go_ret; exact ⟨by rfl, by exact Drawn0.refl _⟩
/-- A state of type 114 at block g of W; what its slices lead to came in by w0. -/
def IsS114 (w0 W : World) (g : Nat) (f0 : List Int) (f1 : Int) (f2 : Int) : Prop := ∃ A0 c0, W.heap[g]? = some (.cells #[.slice A0 f0.length c0, .int .i64 f1, .int .u64 f2] 114 (0, 0)) ∧ w0.heap.size ≤ g ∧ Kd.C (Kd.int .u8) w0 A0 f0.length f0
theorem IsS114.grown {w0 W : World} {g : Nat} {f0 : List Int} {f1 : Int} {f2 : Int} {W1 : World} {row : Option Nat} (h : IsS114 w0 W g f0 f1 f2) (hw : W.grownBy W1 row) (hne : some g ≠ row) : IsS114 w0 W1 g f0 f1 f2 := by
 obtain ⟨A0, c0, hb, hg, a7⟩ := h
 exact ⟨A0, c0, blk_grown hb hw hne, hg, a7⟩
theorem IsS114.own_neN {w0 W : World} {g : Nat} {f0 : List Int} {f1 : Int} {f2 : Int} {α : Type} {d : Kd α} {e : Nat} {base : Nat} {ok : Nat → Prop} {v : Value} {xs : List α} (h : IsS114 w0 W g f0 f1 f2) (ho : Kd.N d e W base ok v xs) (ht : e ≠ 114) : some g ≠ v.ownBlock := by
 obtain ⟨A0, c0, hb, hg, a7⟩ := h
 exact Kd.N_ne ho hb ht
theorem IsS114.fresh {w0 W : World} {g : Nat} {f0 : List Int} {f1 : Int} {f2 : Int} (h : IsS114 w0 W g f0 f1 f2) : ∀ k, W.heap.size ≤ k → k ≠ g := by
 obtain ⟨A0, c0, hb, hg, a7⟩ := h
 exact Kd.freshB hb
theorem IsS114.kept {w0 W : World} {g : Nat} {f0 : List Int} {f1 : Int} {f2 : Int} {W1 : World} {S : Nat → Prop} (h : IsS114 w0 W g f0 f1 f2) (hk : Kept W W1 S) (hne : ¬ S g) : IsS114 w0 W1 g f0 f1 f2 := by
 obtain ⟨A0, c0, hb, hg, a7⟩ := h
 exact ⟨A0, c0, blk_kept hb hk hne, hg, a7⟩
theorem IsS114.below {w0 W : World} {g : Nat} {f0 : List Int} {f1 : Int} {f2 : Int} {W1 : World} (h : IsS114 w0 W g f0 f1 f2) (hw : Below W.heap.size W W1) : IsS114 w0 W1 g f0 f1 f2 := h.grown (grown_of_below hw none) (by simp)
theorem IsS114.alloc {w0 W : World} {g : Nat} {f0 : List Int} {f1 : Int} {f2 : Int} (h : IsS114 w0 W g f0 f1 f2) (o : Obj) : IsS114 w0 (W.alloc o) g f0 f1 f2 := h.below (below_alloc (Below.refl _ _) o)
theorem IsS114.drewN {w0 W : World} {g : Nat} {f0 : List Int} {f1 : Int} {f2 : Int} (h : IsS114 w0 W g f0 f1 f2) (m : Nat) : IsS114 w0 (W.drewN m) g f0 f1 f2 := h
theorem IsS114.drew {w0 W : World} {g : Nat} {f0 : List Int} {f1 : Int} {f2 : Int} (h : IsS114 w0 W g f0 f1 f2) : IsS114 w0 W.drew g f0 f1 f2 := h
theorem IsS114.at_ {w0 W : World} {g : Nat} {f0 : List Int} {f1 : Int} {f2 : Int} {w' : World} {m : Nat} (hq : W.drewN m = w') (h : IsS114 w0 W g f0 f1 f2) : IsS114 w0 w' g f0 f1 f2 := by subst hq; exact IsS114.drewN h m
theorem IsS114.apart {w0 W : World} {g : Nat} {f0 : List Int} {f1 : Int} {f2 : Int} {α : Type} {d : Kd α} {e : Nat} {base : Nat} {ok : Nat → Prop} {v : Value} {xs : List α} (h : IsS114 w0 W g f0 f1 f2) (ho : d.R e W base ok v xs) (ht : ∀ q, q ∈ e :: d.E → q ≠ 114) : d.R e W base (fun k => ok k ∧ k ≠ g) v xs := by
 obtain ⟨A0, c0, hb, hg, a7⟩ := h
 exact Kd.R_types ho hb ht
theorem IsS114.own_ne {w0 W : World} {g : Nat} {f0 : List Int} {f1 : Int} {f2 : Int} {α : Type} {d : Kd α} {e : Nat} {base : Nat} {ok : Nat → Prop} {v : Value} {xs : List α} (h : IsS114 w0 W g f0 f1 f2) (ho : d.R e W base ok v xs) (ht : e ≠ 114) : some g ≠ v.ownBlock := by
 obtain ⟨A0, c0, hb, hg, a7⟩ := h
 exact Kd.R_ne ho hb ht
theorem IsS114.apartQ {w0 W : World} {g : Nat} {f0 : List Int} {f1 : Int} {f2 : Int} {α : Type} {d : Kd α} {e : Nat} {base : Nat} {ok : Nat → Prop} {v : Value} {xs : List α} (h : IsS114 w0 W g f0 f1 f2) (ho : d.Q e W base ok v xs) (ht : ∀ q, q ∈ e :: d.E → q ≠ 114) : d.Q e W base (fun k => ok k ∧ k ≠ g) v xs := by
 obtain ⟨A0, c0, hb, hg, a7⟩ := h
 exact Kd.Q_types ho hb ht
theorem IsS114.own_neQ {w0 W : World} {g : Nat} {f0 : List Int} {f1 : Int} {f2 : Int} {α : Type} {d : Kd α} {e : Nat} {base : Nat} {ok : Nat → Prop} {v : Value} {xs : List α} (h : IsS114 w0 W g f0 f1 f2) (ho : d.Q e W base ok v xs) (ht : e ≠ 114) : some g ≠ v.ownBlock := by
 obtain ⟨A0, c0, hb, hg, a7⟩ := h
 exact Kd.Q_ne ho hb ht
theorem IsS114.apartS {w0 W : World} {g : Nat} {f0 : List Int} {f1 : Int} {f2 : Int} {α : Type} {d : Kd α} {e : Nat} {base : Nat} {ok : Nat → Prop} {v : Value} {xs : List α} (h : IsS114 w0 W g f0 f1 f2) (ho : d.S e W base ok v xs) (ht : ∀ q, q ∈ e :: d.E → q ≠ 114) : d.S e W base (fun k => ok k ∧ k ≠ g) v xs := by
 obtain ⟨A0, c0, hb, hg, a7⟩ := h
 exact Kd.S_types ho hb ht
theorem IsS114.own_neS {w0 W : World} {g : Nat} {f0 : List Int} {f1 : Int} {f2 : Int} {α : Type} {d : Kd α} {e : Nat} {base : Nat} {ok : Nat → Prop} {v : Value} {xs : List α} (h : IsS114 w0 W g f0 f1 f2) (ho : d.S e W base ok v xs) (ht : e ≠ 114) : some g ≠ v.ownBlock := by
 obtain ⟨A0, c0, hb, hg, a7⟩ := h
 exact Kd.S_ne ho hb ht
theorem IsS114.lt {w0 W : World} {g : Nat} {f0 : List Int} {f1 : Int} {f2 : Int} (h : IsS114 w0 W g f0 f1 f2) : g < W.heap.size := by
 obtain ⟨A0, c0, hb, hg, a7⟩ := h
 exact blk_lt hb
theorem IsS114.ge {w0 W : World} {g : Nat} {f0 : List Int} {f1 : Int} {f2 : Int} (h : IsS114 w0 W g f0 f1 f2) : w0.heap.size ≤ g := by
 obtain ⟨A0, c0, hb, hg, a7⟩ := h
 exact hg
theorem IsS114.ne_blk {w0 W : World} {g : Nat} {f0 : List Int} {f1 : Int} {f2 : Int} {a : Nat} {cs : Array Value} {t : TypeId} {fr : Nat × Nat} (h : IsS114 w0 W g f0 f1 f2) (d8 : W.heap[a]? = some (.cells cs t fr)) (ht : t ≠ 114) : g ≠ a := by
 obtain ⟨A0, c0, hb, hg, a7⟩ := h
 rintro rfl
 rw [hb] at d8
 injection d8 with d8
 injection d8 with _ ht2
 exact ht ht2.symm
theorem IsS114.far {w0 W : World} {g : Nat} {f0 : List Int} {f1 : Int} {f2 : Int} {p : Addr} (h : IsS114 w0 W g f0 f1 f2) (hne : g ≠ p.block) (u : Value) : IsS114 w0 (W.setCell p u) g f0 f1 f2 := by
 obtain ⟨A0, c0, hb, hg, a7⟩ := h
 exact ⟨A0, c0, blk_far hb hne u, hg, a7⟩
theorem cellS114_0 {W : World} {g : Nat} {A0 : Option Addr} {c0 : Nat} {f0 : List Int} {f1 : Int} {f2 : Int} (h : W.heap[g]? = some (.cells #[.slice A0 f0.length c0, .int .i64 f1, .int .u64 f2] 114 (0, 0))) : W.cell? ⟨g, 0, none⟩ = some (.slice A0 f0.length c0) := (blk_cell h 0).trans rfl
theorem cellS114_1 {W : World} {g : Nat} {A0 : Option Addr} {c0 : Nat} {f0 : List Int} {f1 : Int} {f2 : Int} (h : W.heap[g]? = some (.cells #[.slice A0 f0.length c0, .int .i64 f1, .int .u64 f2] 114 (0, 0))) : W.cell? ⟨g, 1, none⟩ = some (.int .i64 f1) := (blk_cell h 1).trans rfl
theorem IsS114.set_1 {w0 W : World} {g : Nat} {f0 : List Int} {f1 : Int} {f2 : Int} (h : IsS114 w0 W g f0 f1 f2) (x : Int) : IsS114 w0 (W.setCell ⟨g, 1, none⟩ (.int .i64 x)) g f0 x f2 := by
 obtain ⟨A0, c0, hb, hg, a7⟩ := h
 exact ⟨A0, c0, by simpa using blk_set hb 1 (.int .i64 x), hg, a7⟩
theorem cellS114_2 {W : World} {g : Nat} {A0 : Option Addr} {c0 : Nat} {f0 : List Int} {f1 : Int} {f2 : Int} (h : W.heap[g]? = some (.cells #[.slice A0 f0.length c0, .int .i64 f1, .int .u64 f2] 114 (0, 0))) : W.cell? ⟨g, 2, none⟩ = some (.int .u64 f2) := (blk_cell h 2).trans rfl
theorem IsS114.set_2 {w0 W : World} {g : Nat} {f0 : List Int} {f1 : Int} {f2 : Int} (h : IsS114 w0 W g f0 f1 f2) (x : Int) : IsS114 w0 (W.setCell ⟨g, 2, none⟩ (.int .u64 x)) g f0 f1 x := by
 obtain ⟨A0, c0, hb, hg, a7⟩ := h
 exact ⟨A0, c0, by simpa using blk_set hb 2 (.int .u64 x), hg, a7⟩
theorem IsS114.new (w0 W : World) (A0 : Option Addr) (c0 : Nat) (f0 : List Int) (f1 : Int) (f2 : Int) (hB : Below w0.heap.size w0 W) (a7 : Kd.C (Kd.int .u8) w0 A0 f0.length f0) : IsS114 w0 (W.alloc (.cells #[.slice A0 f0.length c0, .int .i64 f1, .int .u64 f2] 114)) W.heap.size f0 f1 f2 := ⟨A0, c0, by simpa using heap_alloc_new W _, hB.size, a7⟩

/-! ### spec_l1Cur_next: function 114 -/
def spec_l1Cur_next.f (a : List Int) (b : Int) (c : Int) : Option (Int × Int × Int) := if b < (a.length : Int) then (if 0 ≤ b then (if (wrap64 (b + 1)) ≤ (a.length : Int) then (some (wrap64 (rd a b), wrap64 (b + 1), IntKind.u64.wrap ((IntKind.u64.wrap ((IntKind.u64.wrap (c * 6364136223846793005)) + (IntKind.u64.wrap (wrap64 (rd a b))))) + 462197))) else (some (wrap64 (Go.bits .and .u64 ((IntKind.u64.wrap ((IntKind.u64.wrap ((IntKind.u64.wrap (c * 6364136223846793005)) + (IntKind.u64.wrap (wrap64 (rd a b))))) + 462197)) / 1099511627776) 255), wrap64 (b + 1), IntKind.u64.wrap ((IntKind.u64.wrap ((IntKind.u64.wrap (c * 6364136223846793005)) + (IntKind.u64.wrap (wrap64 (rd a b))))) + 462197)))) else (none)) else (if (wrap64 (b + 1)) ≤ (a.length : Int) then (some (0, wrap64 (b + 1), IntKind.u64.wrap ((IntKind.u64.wrap ((IntKind.u64.wrap (c * 6364136223846793005)) + 0)) + 462197))) else (some (wrap64 (Go.bits .and .u64 ((IntKind.u64.wrap ((IntKind.u64.wrap ((IntKind.u64.wrap (c * 6364136223846793005)) + 0)) + 462197)) / 1099511627776) 255), wrap64 (b + 1), IntKind.u64.wrap ((IntKind.u64.wrap ((IntKind.u64.wrap (c * 6364136223846793005)) + 0)) + 462197))))
set_option maxHeartbeats 8000000 in
set_option maxRecDepth 100000 in
theorem spec_l1Cur_next.calls (g : Nat) (a2 : List Int) (a3 : Int) (a4 : Int) (r1 : Int) (r2 : Int) (r3 : Int) (w0 w : World) (hI : IsS114 w0 w g a2 a3 a4) (hB : Below w0.heap.size w0 w) (h : spec_l1Cur_next.f a2 a3 a4 = some (r1, r2, r3)) :
  Calls Try.prog 114 #[.pointer (some ⟨g, 0, none⟩)] w fun e w' => e = .returned (.int .i64 r1) ∧ IsS114 w0 w' g a2 r2 r3 ∧ Below w0.heap.size w0 w' ∧ KeepBut w w' g none := by
 have a6 := z22_A hI; have HK := z22_A (KeepBut.refl w g none); have HL := z22_A hB.size; clear hI; have e1 := z22_A hB.size; have HB := z22_A hB; clear hB; unfold spec_l1Cur_next.f at h; revert h; intro H; by_cases c2 : a3 < (a2.length : Int); rotate_left
 ·rw [if_neg c2] at H; have e2 := decide_eq_false c2; clear c2; by_cases c7 : (wrap64 (a3 + 1)) ≤ (a2.length : Int)
  ·rw [if_pos c7] at H; have d2 := decide_eq_true c7; clear c7; simp only [Option.some.injEq, Prod.mk.injEq] at H; obtain ⟨rfl, rfl, rfl⟩ := H; obtain ⟨e3, e4, b2, e5, e6⟩ := a6.out; have e7 := cellS114_0 b2; have e8 := cellS114_1 b2; have e9 := cellS114_2 b2; have g1 := blk_frozen b2 1; have g2 := blk_frozen b2 2; clear b2 e5; go_enter Try.func114, Try.ntmps114; go_wp2; (repeat (go_quiet (fail); try go_wp2)); go_ret; exact ⟨by rfl, z22_4, z22_1, z22_3⟩
  rw [if_neg c7] at H; have d2 := decide_eq_false c7; clear c7; simp only [Option.some.injEq, Prod.mk.injEq] at H; obtain ⟨rfl, rfl, rfl⟩ := H; obtain ⟨g3, g4, b3, g5, g6⟩ := a6.out; have g7 := cellS114_0 b3; have g8 := cellS114_1 b3; have g9 := cellS114_2 b3; have h1 := blk_frozen b3 1; have h2 := blk_frozen b3 2; clear b3 g5; go_enter Try.func114, Try.ntmps114; go_wp2; (repeat (go_quiet (fail); try go_wp2)); go_ret; exact ⟨by (simp [errW_none, errW_some] <;> rfl), z22_4, z22_1, z22_3⟩
 rw [if_pos c2] at H; have e2 := decide_eq_true c2; clear c2; by_cases c3 : 0 ≤ a3; rotate_left
 ·rw [if_neg c3] at H; exact absurd H (by simp)
 rw [if_pos c3] at H; have d3 := decide_eq_true c3; clear c3; by_cases c4 : (wrap64 (a3 + 1)) ≤ (a2.length : Int)
 ·rw [if_pos c4] at H; have d4 := decide_eq_true c4; clear c4; simp only [Option.some.injEq, Prod.mk.injEq] at H; obtain ⟨rfl, rfl, rfl⟩ := H; obtain ⟨h3, h4, b4, h5, b7⟩ := a6.out; have h6 := cellS114_0 b4; have h7 := cellS114_1 b4; have h8 := cellS114_2 b4; have h9 := blk_frozen b4 1; have m1 := blk_frozen b4 2; clear b4 h5; have a8 : 0 ≤ (a3 : Int) := of_decide_eq_true z22_5; have a9 : a3 < (a2.length : Int) := of_decide_eq_true z22_5; obtain ⟨d5, b8, a5⟩ := Kd.at_int b7 a3 a8 a9; cases b8; replace a5 := pw_cell_below HB.out a5; replace a8 := eq_true a8; replace a9 := eq_true a9; go_enter Try.func114, Try.ntmps114; go_wp2; (repeat (go_quiet (fail); try go_wp2)); go_ret; exact ⟨by rfl, z22_6, z22_1, z22_3⟩
 rw [if_neg c4] at H; have d4 := decide_eq_false c4; clear c4; simp only [Option.some.injEq, Prod.mk.injEq] at H; obtain ⟨rfl, rfl, rfl⟩ := H; obtain ⟨m2, m3, b5, m4, b9⟩ := a6.out; have m5 := cellS114_0 b5; have m6 := cellS114_1 b5; have m7 := cellS114_2 b5; have m8 := blk_frozen b5 1; have m9 := blk_frozen b5 2; clear b5 m4; have a8 : 0 ≤ (a3 : Int) := of_decide_eq_true z22_5; have a9 : a3 < (a2.length : Int) := of_decide_eq_true z22_5; obtain ⟨d5, b8, a5⟩ := Kd.at_int b9 a3 a8 a9; cases b8; replace a5 := pw_cell_below HB.out a5; replace a8 := eq_true a8; replace a9 := eq_true a9; go_enter Try.func114, Try.ntmps114; go_wp2; (repeat (go_quiet (fail); try go_wp2)); go_ret; exact ⟨by rfl, z22_6, z22_1, z22_3⟩
/-! ### spec_l1Cur_pick: function 103 -/
def spec_l1Cur_pick.f (a : List Int) (b : Int) (c : Int) (d : Int) : Option (Int × Int × Int) := if d ≤ 1 then (some (0, b, c)) else ((spec_l1Cur_next.f a b c).bind fun e => (if d > 200 then ((spec_l1Cur_next.f a e.2.1 e.2.2).bind fun f => (if d = 0 then (none) else (some (Int.tmod (wrap64 ((wrap64 (e.1 * 256)) + f.1)) d, f.2.1, f.2.2)))) else (if d = 0 then (none) else (some (Int.tmod e.1 d, e.2.1, e.2.2)))))
set_option maxHeartbeats 8000000 in
set_option maxRecDepth 100000 in
theorem spec_l1Cur_pick.calls (g : Nat) (a2 : List Int) (a3 : Int) (a4 : Int) (a1 : Int) (r1 : Int) (r2 : Int) (r3 : Int) (w0 w : World) (hI : IsS114 w0 w g a2 a3 a4) (hB : Below w0.heap.size w0 w) (h : spec_l1Cur_pick.f a2 a3 a4 a1 = some (r1, r2, r3)) :
  Calls Try.prog 103 #[.pointer (some ⟨g, 0, none⟩), .int .i64 a1] w fun e w' => e = .returned (.int .i64 r1) ∧ IsS114 w0 w' g a2 r2 r3 ∧ Below w0.heap.size w0 w' ∧ KeepBut w w' g none := by
 have a6 := z22_A hI; have HK := z22_A (KeepBut.refl w g none); have HL := z22_A hB.size; clear hI; have e1 := z22_A hB.size; have HB := z22_A hB; clear hB; unfold spec_l1Cur_pick.f at h; revert h; intro H; by_cases c3 : a1 ≤ 1
 ·rw [if_pos c3] at H; have d3 := decide_eq_true c3; clear c3; simp only [Option.some.injEq, Prod.mk.injEq] at H; obtain ⟨rfl, rfl, rfl⟩ := H; go_enter Try.func103, Try.ntmps103; go_wp2; go_ret; exact ⟨by rfl, by exact a6.out, by exact HB.out, by exact HK.out⟩
 rw [if_neg c3] at H; have d3 := decide_eq_false c3; clear c3; obtain ⟨⟨d6, c6, c8⟩, A4, H⟩ := zB H; (try dsimp only at H); by_cases c5 : a1 > 200
 ·rw [if_pos c5] at H; have d7 : decide (200 < a1) = true := decide_eq_true c5; clear c5; obtain ⟨⟨n1, n2, n3⟩, A6, H⟩ := zB H; (try dsimp only at H); by_cases c7 : a1 = 0
  ·rw [if_pos c7] at H; exact absurd H (by simp)
  rw [if_neg c7] at H; have d2 : (a1 == 0) = false := beq_eq_false_iff_ne.mpr c7; have o7 : (a1 != 0) = true := bne_iff_ne.mpr c7; simp only [Option.some.injEq, Prod.mk.injEq] at H; obtain ⟨rfl, rfl, rfl⟩ := H; go_enter Try.func103, Try.ntmps103; go_wp2_with (first | ((with_reducible refine gate_callee (f := 114) rfl ?_); refine goesL_ (some 9) rfl rfl Try.func114 (by kernel_rfl) rfl #[.pointer (some ⟨g, 0, none⟩)] rfl z22_2 ?_; (with_reducible refine (spec_l1Cur_next.calls g a2 a3 a4 d6 c6 c8 w0 _ ?side1 ?side2 A4.out).mono ?_); (case side1 => exact a6.out); (case side2 => exact HB.out); rintro e w8 ⟨rfl, hi, hb, hk⟩; refine ⟨_, rfl, ?_⟩; replace HK := z22_A (KeepBut.trans HK.out hk (.inl rfl)); replace HB := z22_A hb; replace a6 := z22_A hi; clear hb hk hi) | ((with_reducible refine gate_callee (f := 114) rfl ?_); refine goesL_ (some 15) rfl rfl Try.func114 (by kernel_rfl) rfl #[.pointer (some ⟨g, 0, none⟩)] rfl z22_2 ?_; (with_reducible refine (spec_l1Cur_next.calls g a2 c6 c8 n1 n2 n3 w0 _ ?side1 ?side2 A6.out).mono ?_); (case side1 => exact a6.out); (case side2 => exact HB.out); rintro e w9 ⟨rfl, hi, hb, hk⟩; refine ⟨_, rfl, ?_⟩; replace HK := z22_A (KeepBut.trans HK.out hk (.inl rfl)); replace HB := z22_A hb; replace a6 := z22_A hi; clear hb hk hi)); go_ret; exact ⟨by rfl, by exact a6.out, by exact HB.out, by exact HK.out⟩
 rw [if_neg c5] at H; have d7 : decide (200 < a1) = false := decide_eq_false c5; clear c5; by_cases d9 : a1 = 0
 ·rw [if_pos d9] at H; exact absurd H (by simp)
 rw [if_neg d9] at H; have o2 : (a1 == 0) = false := beq_eq_false_iff_ne.mpr d9; have o3 : (a1 != 0) = true := bne_iff_ne.mpr d9; simp only [Option.some.injEq, Prod.mk.injEq] at H; obtain ⟨rfl, rfl, rfl⟩ := H; go_enter Try.func103, Try.ntmps103; go_wp2_with ((with_reducible refine gate_callee (f := 114) rfl ?_); refine goesL_ (some 9) rfl rfl Try.func114 (by kernel_rfl) rfl #[.pointer (some ⟨g, 0, none⟩)] rfl z22_2 ?_; (with_reducible refine (spec_l1Cur_next.calls g a2 a3 a4 d6 c6 c8 w0 _ ?side1 ?side2 A4.out).mono ?_); (case side1 => exact a6.out); (case side2 => exact HB.out); rintro e p3 ⟨rfl, hi, hb, hk⟩; refine ⟨_, rfl, ?_⟩; replace HK := z22_A (KeepBut.trans HK.out hk (.inl rfl)); replace HB := z22_A hb; replace a6 := z22_A hi; clear hb hk hi); go_ret; exact ⟨by rfl, by exact a6.out, by exact HB.out, by exact HK.out⟩
/-! ### spec_l1Cur_among: function 105 -/
def spec_l1Cur_among.f (a : List Int) (b : Int) (c : Int) (d : List Int) : Option (Int × Int × Int) := (spec_l1Cur_pick.f a b c (d.length : Int)).bind fun e => (if 0 ≤ e.1 then (if e.1 < (d.length : Int) then (some (rd d e.1, e.2.1, e.2.2)) else (none)) else (none))
set_option maxHeartbeats 8000000 in
set_option maxRecDepth 100000 in
theorem spec_l1Cur_among.calls (g : Nat) (a2 : List Int) (a3 : Int) (a4 : Int) (A1 : Option Addr) (c1 : Nat) (l1 : List Int) (r1 : Int) (r2 : Int) (r3 : Int) (w0 w : World) (hI : IsS114 w0 w g a2 a3 a4) (hB : Below w0.heap.size w0 w) (o4 : Kd.C (Kd.int .i64) w A1 l1.length l1) (o5 : l1.length ≤ c1) (o8 : ∀ ad, A1 = some ad → 0 < l1.length → ad.block ≠ g) (h : spec_l1Cur_among.f a2 a3 a4 l1 = some (r1, r2, r3)) :
  Calls Try.prog 105 #[.pointer (some ⟨g, 0, none⟩), .slice A1 l1.length c1] w fun e w' => e = .returned (.int .i64 r1) ∧ IsS114 w0 w' g a2 r2 r3 ∧ Below w0.heap.size w0 w' ∧ KeepBut w w' g none := by
 have o9 := z22_A o4; have p4 := z22_A o5; clear o4 o5; have a6 := z22_A hI; have HK := z22_A (KeepBut.refl w g none); have HL := z22_A hB.size; clear hI; have e1 := z22_A hB.size; have HB := z22_A hB; clear hB; unfold spec_l1Cur_among.f at h; revert h; intro H; obtain ⟨⟨b6, n4, n5⟩, A3, H⟩ := zB H; (try dsimp only at H); by_cases c4 : 0 ≤ b6; rotate_left
 ·rw [if_neg c4] at H; exact absurd H (by simp)
 rw [if_pos c4] at H; have d4 := decide_eq_true c4; clear c4; by_cases c5 : b6 < (l1.length : Int); rotate_left
 ·rw [if_neg c5] at H; exact absurd H (by simp)
 rw [if_pos c5] at H; have d7 := decide_eq_true c5; clear c5; simp only [Option.some.injEq, Prod.mk.injEq] at H; obtain ⟨rfl, rfl, rfl⟩ := H; go_enter Try.func105, Try.ntmps105; go_wp2_with ((with_reducible refine gate_callee (f := 103) rfl ?_); refine goesL_ (some 9) rfl rfl Try.func103 (by kernel_rfl) rfl #[.pointer (some ⟨g, 0, none⟩), .int .i64 (l1.length : Int)] rfl z22_2 ?_; (with_reducible refine (spec_l1Cur_pick.calls g a2 a3 a4 (l1.length : Int) b6 n4 n5 w0 _ ?side1 ?side2 A3.out).mono ?_); (case side1 => exact a6.out); (case side2 => exact HB.out); rintro e w6 ⟨rfl, hi, hb, hk⟩; refine ⟨_, rfl, ?_⟩; replace HK := z22_A (KeepBut.trans HK.out hk (.inl rfl)); replace HB := z22_A hb; replace a6 := z22_A hi; clear hb hk hi; have c9 : 0 ≤ (b6 : Int) := of_decide_eq_true z22_5; have d1 : b6 < (l1.length : Int) := of_decide_eq_true z22_5; obtain ⟨o6, n6, b1⟩ := Kd.at_int o9.out b6 c9 d1; cases n6; replace b1 := keep_cell HK.out b1 (by (rw [add_block]; exact o8 _ rfl (by omega))); replace c9 := eq_true c9; replace d1 := eq_true d1); go_ret; exact ⟨by rfl, by exact a6.out, by exact HB.out, by exact HK.out⟩
/-! ### spec_l1Cur_one: function 113 -/
def spec_l1Cur_one.f (a : List Int) (b : Int) (c : Int) (d : Int) : Option (Bool × Int × Int) := (spec_l1Cur_pick.f a b c d).bind fun e => (some ((e.1 == 0), e.2.1, e.2.2))
set_option maxHeartbeats 8000000 in
set_option maxRecDepth 100000 in
theorem spec_l1Cur_one.calls (g : Nat) (a2 : List Int) (a3 : Int) (a4 : Int) (a1 : Int) (r1 : Bool) (r2 : Int) (r3 : Int) (w0 w : World) (hI : IsS114 w0 w g a2 a3 a4) (hB : Below w0.heap.size w0 w) (h : spec_l1Cur_one.f a2 a3 a4 a1 = some (r1, r2, r3)) :
  Calls Try.prog 113 #[.pointer (some ⟨g, 0, none⟩), .int .i64 a1] w fun e w' => e = .returned (.bool r1) ∧ IsS114 w0 w' g a2 r2 r3 ∧ Below w0.heap.size w0 w' ∧ KeepBut w w' g none := by
 have a6 := z22_A hI; have HK := z22_A (KeepBut.refl w g none); have HL := z22_A hB.size; clear hI; have e1 := z22_A hB.size; have HB := z22_A hB; clear hB; unfold spec_l1Cur_one.f at h; revert h; intro H; obtain ⟨⟨n7, n8, n9⟩, A3, H⟩ := zB H; (try dsimp only at H); simp only [Option.some.injEq, Prod.mk.injEq] at H; obtain ⟨rfl, rfl, rfl⟩ := H; go_enter Try.func113, Try.ntmps113; go_wp2_with ((with_reducible refine gate_callee (f := 103) rfl ?_); refine goesL_ (some 7) rfl rfl Try.func103 (by kernel_rfl) rfl #[.pointer (some ⟨g, 0, none⟩), .int .i64 a1] rfl z22_2 ?_; (with_reducible refine (spec_l1Cur_pick.calls g a2 a3 a4 a1 n7 n8 n9 w0 _ ?side1 ?side2 A3.out).mono ?_); (case side1 => exact a6.out); (case side2 => exact HB.out); rintro e w4 ⟨rfl, hi, hb, hk⟩; refine ⟨_, rfl, ?_⟩; replace HK := z22_A (KeepBut.trans HK.out hk (.inl rfl)); replace HB := z22_A hb; replace a6 := z22_A hi; clear hb hk hi); go_ret; exact ⟨by rfl, by exact a6.out, by exact HB.out, by exact HK.out⟩
end Go.Proofs.Ytmekmkhdhakohaa.PFnWorths
