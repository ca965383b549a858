import Derived.Test.YtmekmkhdhakohaaProg
import Derived.Below
import Derived.Deep.Draws
import Derived.Deep.AppendLies
import Derived.Maps.AppendAt
import Derived.OwnWalk
import Derived.Laws.BytesArg
import Derived.Laws.MakeOwn
import Derived.Laws.OwnMore
import Derived.Deep.OwnRows
import Derived.Tactics
import Derived.Lib.ConvBytes
import Derived.Laws.Slices
import Derived.WalkKit
import Derived.KernelRfl
import Derived.RowKit3
import Derived.Deep.LoopGhost
import Derived.Deep.QuietTactic
import Derived.BigQuiet
import Derived.WideLaws
import Derived.Deep.DeepCutAuto
import Derived.Deep.CutBlock
import Derived.Deep.RegionHeld3
import Derived.Laws.Rows
import Derived.Lib.AppendStr
import Derived.ArgAppend
import Derived.Laws.IdiomCopy
import Derived.OrdersHeld
import Derived.Laws.BitsLemmas
import Derived.RowKit
import Derived.Test.YtmekmkhdhakohaaQFnLevels
namespace Go.Proofs.Ytmekmkhdhakohaa.PFnLevels
open Go.RowKit Go.Proofs.YtmekmkhdhakohaaW.PrintWords Go.Proofs.YtmekmkhdhakohaaW.PrintLast Go.Proofs.YtmekmkhdhakohaaW.PrintMore
attribute [local go_sem] max2_int min2_int max_two min_two max_three min_three max_four min_four
set_option linter.unusedVariables false
set_option linter.unusedSimpArgs false
def errW : Option Int → Value
  | none => .nilIface
  | some c => .iface 0 (.int .i64 c)
theorem errW_none : errW none = .nilIface := rfl
theorem errW_some (c : Int) : errW (some c) = .iface 0 (.int .i64 c) := rfl
theorem info3 : (Try.prog.info? 3).map (fun i => (i.zero, i.size, i.bytes)) = some (some (.int .i64 0), 1, 8) := by kernel_rfl
theorem info22 : (Try.prog.info? 22).map (fun i => (i.zero, i.size, i.bytes)) = some (some (.slice none 0 0), 1, 24) := by kernel_rfl
theorem info72 : (Try.prog.info? 72).map (fun i => (i.zero, i.size, i.bytes)) = some (some (.agg #[(.int .i64 0), (.int .i64 0)]), 2, 16) := by kernel_rfl
theorem info94 : (Try.prog.info? 94).map (fun i => (i.zero, i.size, i.bytes)) = some (some (.agg #[(.int .i64 0), (.int .i64 0), (.int .i64 0), (.int .i64 0), (.int .i64 0), (.int .i64 0), (.int .i64 0), (.int .i64 0), (.int .i64 0), (.int .i64 0), (.int .i64 0), (.int .i64 0), (.int .i64 0), (.int .i64 0), (.int .i64 0), (.int .i64 0), (.int .i64 0), (.int .i64 0), (.int .i64 0), (.int .i64 0), (.int .i64 0)]), 21, 168) := by kernel_rfl
def rd_L1 (xs : List (List Int)) (i : Int) : (List Int) := xs.getD i.toNat ([] : List Int)
theorem at_L1 {w : World} {A : Option Addr} {n : Nat} {xs : List (List Int)} (h : Kd.C (Kd.slice 3 (Kd.int .i64)) w A n xs) (i : Int) (h0 : 0 ≤ i) (h1 : i < n) : ∃ ad A0 c0, A = some ad ∧ w.cell? (ad.add i.toNat) = some (.slice A0 (rd_L1 xs i).length c0) ∧ (rd_L1 xs i).length ≤ c0 ∧ (Kd.int .i64).C w A0 (rd_L1 xs i).length (rd_L1 xs i) := by
  obtain ⟨ad, c, e, _, hK, a1⟩ := Kd.C_get h ([] : List Int) i h0 h1
  have hc : ∀ j u, c[j]? = some u → w.cell? (ad.add (i.toNat * 1 + j)) = some u := a1
  obtain ⟨A0, c0, rfl, l0, g0⟩ := hK
  exact ⟨ad, A0, c0, e, by have hq := hc 0 _ rfl; rwa [Nat.mul_one, Nat.add_zero] at hq, l0, g0⟩
/-! #### struct type 94 -/
structure S94 where
  f0 : Int
  f1 : Int
  f2 : Int
  f3 : Int
  f4 : Int
  f5 : Int
  f6 : Int
  f7 : Int
  f8 : Int
  f9 : Int
  f10 : Int
  f11 : Int
  f12 : Int
  f13 : Int
  f14 : Int
  f15 : Int
  f16 : Int
  f17 : Int
  f18 : Int
  f19 : Int
  f20 : Int
def z94 : S94 := ⟨(0 : Int), (0 : Int), (0 : Int), (0 : Int), (0 : Int), (0 : Int), (0 : Int), (0 : Int), (0 : Int), (0 : Int), (0 : Int), (0 : Int), (0 : Int), (0 : Int), (0 : Int), (0 : Int), (0 : Int), (0 : Int), (0 : Int), (0 : Int), (0 : Int)⟩
def k94 : Kd S94 := Kd.iso (Kd.pair (Kd.int .i64) (Kd.pair (Kd.int .i64) (Kd.pair (Kd.int .i64) (Kd.pair (Kd.int .i64) (Kd.pair (Kd.int .i64) (Kd.pair (Kd.int .i64) (Kd.pair (Kd.int .i64) (Kd.pair (Kd.int .i64) (Kd.pair (Kd.int .i64) (Kd.pair (Kd.int .i64) (Kd.pair (Kd.int .i64) (Kd.pair (Kd.int .i64) (Kd.pair (Kd.int .i64) (Kd.pair (Kd.int .i64) (Kd.pair (Kd.int .i64) (Kd.pair (Kd.int .i64) (Kd.pair (Kd.int .i64) (Kd.pair (Kd.int .i64) (Kd.pair (Kd.int .i64) (Kd.pair (Kd.int .i64) (Kd.int .i64))))))))))))))))))))) (fun x : S94 => (x.f0, x.f1, x.f2, x.f3, x.f4, x.f5, x.f6, x.f7, x.f8, x.f9, x.f10, x.f11, x.f12, x.f13, x.f14, x.f15, x.f16, x.f17, x.f18, x.f19, x.f20))
theorem k94_open {w : World} {x : S94} {cs : List Value} (h : k94.K w x cs) : cs = [.int .i64 x.f0, .int .i64 x.f1, .int .i64 x.f2, .int .i64 x.f3, .int .i64 x.f4, .int .i64 x.f5, .int .i64 x.f6, .int .i64 x.f7, .int .i64 x.f8, .int .i64 x.f9, .int .i64 x.f10, .int .i64 x.f11, .int .i64 x.f12, .int .i64 x.f13, .int .i64 x.f14, .int .i64 x.f15, .int .i64 x.f16, .int .i64 x.f17, .int .i64 x.f18, .int .i64 x.f19, .int .i64 x.f20] := by
  obtain ⟨_, _, rfl, rfl, ⟨_, _, rfl, rfl, ⟨_, _, rfl, rfl, ⟨_, _, rfl, rfl, ⟨_, _, rfl, rfl, ⟨_, _, rfl, rfl, ⟨_, _, rfl, rfl, ⟨_, _, rfl, rfl, ⟨_, _, rfl, rfl, ⟨_, _, rfl, rfl, ⟨_, _, rfl, rfl, ⟨_, _, rfl, rfl, ⟨_, _, rfl, rfl, ⟨_, _, rfl, rfl, ⟨_, _, rfl, rfl, ⟨_, _, rfl, rfl, ⟨_, _, rfl, rfl, ⟨_, _, rfl, rfl, ⟨_, _, rfl, rfl, ⟨_, _, rfl, rfl, rfl⟩⟩⟩⟩⟩⟩⟩⟩⟩⟩⟩⟩⟩⟩⟩⟩⟩⟩⟩⟩ := h
  exact rfl
theorem k94_openM {w : World} {base : Nat} {ok : Nat → Prop} {x : S94} {cs : List Value} (h : k94.M w base ok x cs) : cs = [.int .i64 x.f0, .int .i64 x.f1, .int .i64 x.f2, .int .i64 x.f3, .int .i64 x.f4, .int .i64 x.f5, .int .i64 x.f6, .int .i64 x.f7, .int .i64 x.f8, .int .i64 x.f9, .int .i64 x.f10, .int .i64 x.f11, .int .i64 x.f12, .int .i64 x.f13, .int .i64 x.f14, .int .i64 x.f15, .int .i64 x.f16, .int .i64 x.f17, .int .i64 x.f18, .int .i64 x.f19, .int .i64 x.f20] := by
  obtain ⟨_, _, rfl, rfl, ⟨_, _, rfl, rfl, ⟨_, _, rfl, rfl, ⟨_, _, rfl, rfl, ⟨_, _, rfl, rfl, ⟨_, _, rfl, rfl, ⟨_, _, rfl, rfl, ⟨_, _, rfl, rfl, ⟨_, _, rfl, rfl, ⟨_, _, rfl, rfl, ⟨_, _, rfl, rfl, ⟨_, _, rfl, rfl, ⟨_, _, rfl, rfl, ⟨_, _, rfl, rfl, ⟨_, _, rfl, rfl, ⟨_, _, rfl, rfl, ⟨_, _, rfl, rfl, ⟨_, _, rfl, rfl, ⟨_, _, rfl, rfl, ⟨_, _, rfl, rfl, rfl⟩⟩⟩⟩⟩⟩⟩⟩⟩⟩⟩⟩⟩⟩⟩⟩⟩⟩⟩⟩ := h
  exact rfl
theorem k94_mk (w : World) (x : S94)  : k94.K w x [.int .i64 x.f0, .int .i64 x.f1, .int .i64 x.f2, .int .i64 x.f3, .int .i64 x.f4, .int .i64 x.f5, .int .i64 x.f6, .int .i64 x.f7, .int .i64 x.f8, .int .i64 x.f9, .int .i64 x.f10, .int .i64 x.f11, .int .i64 x.f12, .int .i64 x.f13, .int .i64 x.f14, .int .i64 x.f15, .int .i64 x.f16, .int .i64 x.f17, .int .i64 x.f18, .int .i64 x.f19, .int .i64 x.f20] := ⟨[.int .i64 x.f0], [.int .i64 x.f1, .int .i64 x.f2, .int .i64 x.f3, .int .i64 x.f4, .int .i64 x.f5, .int .i64 x.f6, .int .i64 x.f7, .int .i64 x.f8, .int .i64 x.f9, .int .i64 x.f10, .int .i64 x.f11, .int .i64 x.f12, .int .i64 x.f13, .int .i64 x.f14, .int .i64 x.f15, .int .i64 x.f16, .int .i64 x.f17, .int .i64 x.f18, .int .i64 x.f19, .int .i64 x.f20], rfl, rfl, ⟨[.int .i64 x.f1], [.int .i64 x.f2, .int .i64 x.f3, .int .i64 x.f4, .int .i64 x.f5, .int .i64 x.f6, .int .i64 x.f7, .int .i64 x.f8, .int .i64 x.f9, .int .i64 x.f10, .int .i64 x.f11, .int .i64 x.f12, .int .i64 x.f13, .int .i64 x.f14, .int .i64 x.f15, .int .i64 x.f16, .int .i64 x.f17, .int .i64 x.f18, .int .i64 x.f19, .int .i64 x.f20], rfl, rfl, ⟨[.int .i64 x.f2], [.int .i64 x.f3, .int .i64 x.f4, .int .i64 x.f5, .int .i64 x.f6, .int .i64 x.f7, .int .i64 x.f8, .int .i64 x.f9, .int .i64 x.f10, .int .i64 x.f11, .int .i64 x.f12, .int .i64 x.f13, .int .i64 x.f14, .int .i64 x.f15, .int .i64 x.f16, .int .i64 x.f17, .int .i64 x.f18, .int .i64 x.f19, .int .i64 x.f20], rfl, rfl, ⟨[.int .i64 x.f3], [.int .i64 x.f4, .int .i64 x.f5, .int .i64 x.f6, .int .i64 x.f7, .int .i64 x.f8, .int .i64 x.f9, .int .i64 x.f10, .int .i64 x.f11, .int .i64 x.f12, .int .i64 x.f13, .int .i64 x.f14, .int .i64 x.f15, .int .i64 x.f16, .int .i64 x.f17, .int .i64 x.f18, .int .i64 x.f19, .int .i64 x.f20], rfl, rfl, ⟨[.int .i64 x.f4], [.int .i64 x.f5, .int .i64 x.f6, .int .i64 x.f7, .int .i64 x.f8, .int .i64 x.f9, .int .i64 x.f10, .int .i64 x.f11, .int .i64 x.f12, .int .i64 x.f13, .int .i64 x.f14, .int .i64 x.f15, .int .i64 x.f16, .int .i64 x.f17, .int .i64 x.f18, .int .i64 x.f19, .int .i64 x.f20], rfl, rfl, ⟨[.int .i64 x.f5], [.int .i64 x.f6, .int .i64 x.f7, .int .i64 x.f8, .int .i64 x.f9, .int .i64 x.f10, .int .i64 x.f11, .int .i64 x.f12, .int .i64 x.f13, .int .i64 x.f14, .int .i64 x.f15, .int .i64 x.f16, .int .i64 x.f17, .int .i64 x.f18, .int .i64 x.f19, .int .i64 x.f20], rfl, rfl, ⟨[.int .i64 x.f6], [.int .i64 x.f7, .int .i64 x.f8, .int .i64 x.f9, .int .i64 x.f10, .int .i64 x.f11, .int .i64 x.f12, .int .i64 x.f13, .int .i64 x.f14, .int .i64 x.f15, .int .i64 x.f16, .int .i64 x.f17, .int .i64 x.f18, .int .i64 x.f19, .int .i64 x.f20], rfl, rfl, ⟨[.int .i64 x.f7], [.int .i64 x.f8, .int .i64 x.f9, .int .i64 x.f10, .int .i64 x.f11, .int .i64 x.f12, .int .i64 x.f13, .int .i64 x.f14, .int .i64 x.f15, .int .i64 x.f16, .int .i64 x.f17, .int .i64 x.f18, .int .i64 x.f19, .int .i64 x.f20], rfl, rfl, ⟨[.int .i64 x.f8], [.int .i64 x.f9, .int .i64 x.f10, .int .i64 x.f11, .int .i64 x.f12, .int .i64 x.f13, .int .i64 x.f14, .int .i64 x.f15, .int .i64 x.f16, .int .i64 x.f17, .int .i64 x.f18, .int .i64 x.f19, .int .i64 x.f20], rfl, rfl, ⟨[.int .i64 x.f9], [.int .i64 x.f10, .int .i64 x.f11, .int .i64 x.f12, .int .i64 x.f13, .int .i64 x.f14, .int .i64 x.f15, .int .i64 x.f16, .int .i64 x.f17, .int .i64 x.f18, .int .i64 x.f19, .int .i64 x.f20], rfl, rfl, ⟨[.int .i64 x.f10], [.int .i64 x.f11, .int .i64 x.f12, .int .i64 x.f13, .int .i64 x.f14, .int .i64 x.f15, .int .i64 x.f16, .int .i64 x.f17, .int .i64 x.f18, .int .i64 x.f19, .int .i64 x.f20], rfl, rfl, ⟨[.int .i64 x.f11], [.int .i64 x.f12, .int .i64 x.f13, .int .i64 x.f14, .int .i64 x.f15, .int .i64 x.f16, .int .i64 x.f17, .int .i64 x.f18, .int .i64 x.f19, .int .i64 x.f20], rfl, rfl, ⟨[.int .i64 x.f12], [.int .i64 x.f13, .int .i64 x.f14, .int .i64 x.f15, .int .i64 x.f16, .int .i64 x.f17, .int .i64 x.f18, .int .i64 x.f19, .int .i64 x.f20], rfl, rfl, ⟨[.int .i64 x.f13], [.int .i64 x.f14, .int .i64 x.f15, .int .i64 x.f16, .int .i64 x.f17, .int .i64 x.f18, .int .i64 x.f19, .int .i64 x.f20], rfl, rfl, ⟨[.int .i64 x.f14], [.int .i64 x.f15, .int .i64 x.f16, .int .i64 x.f17, .int .i64 x.f18, .int .i64 x.f19, .int .i64 x.f20], rfl, rfl, ⟨[.int .i64 x.f15], [.int .i64 x.f16, .int .i64 x.f17, .int .i64 x.f18, .int .i64 x.f19, .int .i64 x.f20], rfl, rfl, ⟨[.int .i64 x.f16], [.int .i64 x.f17, .int .i64 x.f18, .int .i64 x.f19, .int .i64 x.f20], rfl, rfl, ⟨[.int .i64 x.f17], [.int .i64 x.f18, .int .i64 x.f19, .int .i64 x.f20], rfl, rfl, ⟨[.int .i64 x.f18], [.int .i64 x.f19, .int .i64 x.f20], rfl, rfl, ⟨[.int .i64 x.f19], [.int .i64 x.f20], rfl, rfl, rfl⟩⟩⟩⟩⟩⟩⟩⟩⟩⟩⟩⟩⟩⟩⟩⟩⟩⟩⟩⟩
theorem k94_mkM (w : World) (base : Nat) (ok : Nat → Prop) (x : S94)  : k94.M w base ok x [.int .i64 x.f0, .int .i64 x.f1, .int .i64 x.f2, .int .i64 x.f3, .int .i64 x.f4, .int .i64 x.f5, .int .i64 x.f6, .int .i64 x.f7, .int .i64 x.f8, .int .i64 x.f9, .int .i64 x.f10, .int .i64 x.f11, .int .i64 x.f12, .int .i64 x.f13, .int .i64 x.f14, .int .i64 x.f15, .int .i64 x.f16, .int .i64 x.f17, .int .i64 x.f18, .int .i64 x.f19, .int .i64 x.f20] := ⟨[.int .i64 x.f0], [.int .i64 x.f1, .int .i64 x.f2, .int .i64 x.f3, .int .i64 x.f4, .int .i64 x.f5, .int .i64 x.f6, .int .i64 x.f7, .int .i64 x.f8, .int .i64 x.f9, .int .i64 x.f10, .int .i64 x.f11, .int .i64 x.f12, .int .i64 x.f13, .int .i64 x.f14, .int .i64 x.f15, .int .i64 x.f16, .int .i64 x.f17, .int .i64 x.f18, .int .i64 x.f19, .int .i64 x.f20], rfl, rfl, ⟨[.int .i64 x.f1], [.int .i64 x.f2, .int .i64 x.f3, .int .i64 x.f4, .int .i64 x.f5, .int .i64 x.f6, .int .i64 x.f7, .int .i64 x.f8, .int .i64 x.f9, .int .i64 x.f10, .int .i64 x.f11, .int .i64 x.f12, .int .i64 x.f13, .int .i64 x.f14, .int .i64 x.f15, .int .i64 x.f16, .int .i64 x.f17, .int .i64 x.f18, .int .i64 x.f19, .int .i64 x.f20], rfl, rfl, ⟨[.int .i64 x.f2], [.int .i64 x.f3, .int .i64 x.f4, .int .i64 x.f5, .int .i64 x.f6, .int .i64 x.f7, .int .i64 x.f8, .int .i64 x.f9, .int .i64 x.f10, .int .i64 x.f11, .int .i64 x.f12, .int .i64 x.f13, .int .i64 x.f14, .int .i64 x.f15, .int .i64 x.f16, .int .i64 x.f17, .int .i64 x.f18, .int .i64 x.f19, .int .i64 x.f20], rfl, rfl, ⟨[.int .i64 x.f3], [.int .i64 x.f4, .int .i64 x.f5, .int .i64 x.f6, .int .i64 x.f7, .int .i64 x.f8, .int .i64 x.f9, .int .i64 x.f10, .int .i64 x.f11, .int .i64 x.f12, .int .i64 x.f13, .int .i64 x.f14, .int .i64 x.f15, .int .i64 x.f16, .int .i64 x.f17, .int .i64 x.f18, .int .i64 x.f19, .int .i64 x.f20], rfl, rfl, ⟨[.int .i64 x.f4], [.int .i64 x.f5, .int .i64 x.f6, .int .i64 x.f7, .int .i64 x.f8, .int .i64 x.f9, .int .i64 x.f10, .int .i64 x.f11, .int .i64 x.f12, .int .i64 x.f13, .int .i64 x.f14, .int .i64 x.f15, .int .i64 x.f16, .int .i64 x.f17, .int .i64 x.f18, .int .i64 x.f19, .int .i64 x.f20], rfl, rfl, ⟨[.int .i64 x.f5], [.int .i64 x.f6, .int .i64 x.f7, .int .i64 x.f8, .int .i64 x.f9, .int .i64 x.f10, .int .i64 x.f11, .int .i64 x.f12, .int .i64 x.f13, .int .i64 x.f14, .int .i64 x.f15, .int .i64 x.f16, .int .i64 x.f17, .int .i64 x.f18, .int .i64 x.f19, .int .i64 x.f20], rfl, rfl, ⟨[.int .i64 x.f6], [.int .i64 x.f7, .int .i64 x.f8, .int .i64 x.f9, .int .i64 x.f10, .int .i64 x.f11, .int .i64 x.f12, .int .i64 x.f13, .int .i64 x.f14, .int .i64 x.f15, .int .i64 x.f16, .int .i64 x.f17, .int .i64 x.f18, .int .i64 x.f19, .int .i64 x.f20], rfl, rfl, ⟨[.int .i64 x.f7], [.int .i64 x.f8, .int .i64 x.f9, .int .i64 x.f10, .int .i64 x.f11, .int .i64 x.f12, .int .i64 x.f13, .int .i64 x.f14, .int .i64 x.f15, .int .i64 x.f16, .int .i64 x.f17, .int .i64 x.f18, .int .i64 x.f19, .int .i64 x.f20], rfl, rfl, ⟨[.int .i64 x.f8], [.int .i64 x.f9, .int .i64 x.f10, .int .i64 x.f11, .int .i64 x.f12, .int .i64 x.f13, .int .i64 x.f14, .int .i64 x.f15, .int .i64 x.f16, .int .i64 x.f17, .int .i64 x.f18, .int .i64 x.f19, .int .i64 x.f20], rfl, rfl, ⟨[.int .i64 x.f9], [.int .i64 x.f10, .int .i64 x.f11, .int .i64 x.f12, .int .i64 x.f13, .int .i64 x.f14, .int .i64 x.f15, .int .i64 x.f16, .int .i64 x.f17, .int .i64 x.f18, .int .i64 x.f19, .int .i64 x.f20], rfl, rfl, ⟨[.int .i64 x.f10], [.int .i64 x.f11, .int .i64 x.f12, .int .i64 x.f13, .int .i64 x.f14, .int .i64 x.f15, .int .i64 x.f16, .int .i64 x.f17, .int .i64 x.f18, .int .i64 x.f19, .int .i64 x.f20], rfl, rfl, ⟨[.int .i64 x.f11], [.int .i64 x.f12, .int .i64 x.f13, .int .i64 x.f14, .int .i64 x.f15, .int .i64 x.f16, .int .i64 x.f17, .int .i64 x.f18, .int .i64 x.f19, .int .i64 x.f20], rfl, rfl, ⟨[.int .i64 x.f12], [.int .i64 x.f13, .int .i64 x.f14, .int .i64 x.f15, .int .i64 x.f16, .int .i64 x.f17, .int .i64 x.f18, .int .i64 x.f19, .int .i64 x.f20], rfl, rfl, ⟨[.int .i64 x.f13], [.int .i64 x.f14, .int .i64 x.f15, .int .i64 x.f16, .int .i64 x.f17, .int .i64 x.f18, .int .i64 x.f19, .int .i64 x.f20], rfl, rfl, ⟨[.int .i64 x.f14], [.int .i64 x.f15, .int .i64 x.f16, .int .i64 x.f17, .int .i64 x.f18, .int .i64 x.f19, .int .i64 x.f20], rfl, rfl, ⟨[.int .i64 x.f15], [.int .i64 x.f16, .int .i64 x.f17, .int .i64 x.f18, .int .i64 x.f19, .int .i64 x.f20], rfl, rfl, ⟨[.int .i64 x.f16], [.int .i64 x.f17, .int .i64 x.f18, .int .i64 x.f19, .int .i64 x.f20], rfl, rfl, ⟨[.int .i64 x.f17], [.int .i64 x.f18, .int .i64 x.f19, .int .i64 x.f20], rfl, rfl, ⟨[.int .i64 x.f18], [.int .i64 x.f19, .int .i64 x.f20], rfl, rfl, ⟨[.int .i64 x.f19], [.int .i64 x.f20], rfl, rfl, rfl⟩⟩⟩⟩⟩⟩⟩⟩⟩⟩⟩⟩⟩⟩⟩⟩⟩⟩⟩⟩
theorem k94_mkF (W : World) (ok : Nat → Prop) (x : S94) : Kd.FK k94 W ok x [.int .i64 x.f0, .int .i64 x.f1, .int .i64 x.f2, .int .i64 x.f3, .int .i64 x.f4, .int .i64 x.f5, .int .i64 x.f6, .int .i64 x.f7, .int .i64 x.f8, .int .i64 x.f9, .int .i64 x.f10, .int .i64 x.f11, .int .i64 x.f12, .int .i64 x.f13, .int .i64 x.f14, .int .i64 x.f15, .int .i64 x.f16, .int .i64 x.f17, .int .i64 x.f18, .int .i64 x.f19, .int .i64 x.f20] := fun W2 _ => k94_mk W2 x
def getA94 (x : S94) : Nat → Int
  | 0 => x.f0
  | 1 => x.f1
  | 2 => x.f2
  | 3 => x.f3
  | 4 => x.f4
  | 5 => x.f5
  | 6 => x.f6
  | 7 => x.f7
  | 8 => x.f8
  | 9 => x.f9
  | 10 => x.f10
  | 11 => x.f11
  | 12 => x.f12
  | 13 => x.f13
  | 14 => x.f14
  | 15 => x.f15
  | 16 => x.f16
  | 17 => x.f17
  | 18 => x.f18
  | 19 => x.f19
  | 20 => x.f20
  | _ => 0
def putA94 (x : S94) (j : Nat) (t : Int) : S94 := match j with
  | 0 => { x with f0 := t }
  | 1 => { x with f1 := t }
  | 2 => { x with f2 := t }
  | 3 => { x with f3 := t }
  | 4 => { x with f4 := t }
  | 5 => { x with f5 := t }
  | 6 => { x with f6 := t }
  | 7 => { x with f7 := t }
  | 8 => { x with f8 := t }
  | 9 => { x with f9 := t }
  | 10 => { x with f10 := t }
  | 11 => { x with f11 := t }
  | 12 => { x with f12 := t }
  | 13 => { x with f13 := t }
  | 14 => { x with f14 := t }
  | 15 => { x with f15 := t }
  | 16 => { x with f16 := t }
  | 17 => { x with f17 := t }
  | 18 => { x with f18 := t }
  | 19 => { x with f19 := t }
  | 20 => { x with f20 := t }
  | _ => x
theorem cellA94 (x : S94) {j : Nat} (h : j < 21) : ([.int .i64 x.f0, .int .i64 x.f1, .int .i64 x.f2, .int .i64 x.f3, .int .i64 x.f4, .int .i64 x.f5, .int .i64 x.f6, .int .i64 x.f7, .int .i64 x.f8, .int .i64 x.f9, .int .i64 x.f10, .int .i64 x.f11, .int .i64 x.f12, .int .i64 x.f13, .int .i64 x.f14, .int .i64 x.f15, .int .i64 x.f16, .int .i64 x.f17, .int .i64 x.f18, .int .i64 x.f19, .int .i64 x.f20] : List Value)[j]? = some (.int .i64 (getA94 x j)) := match j, h with
  | 0, _ => rfl
  | 1, _ => rfl
  | 2, _ => rfl
  | 3, _ => rfl
  | 4, _ => rfl
  | 5, _ => rfl
  | 6, _ => rfl
  | 7, _ => rfl
  | 8, _ => rfl
  | 9, _ => rfl
  | 10, _ => rfl
  | 11, _ => rfl
  | 12, _ => rfl
  | 13, _ => rfl
  | 14, _ => rfl
  | 15, _ => rfl
  | 16, _ => rfl
  | 17, _ => rfl
  | 18, _ => rfl
  | 19, _ => rfl
  | 20, _ => rfl
  | j + 21, h => absurd h zqk
theorem putA94_M (w : World) (base : Nat) (ok : Nat → Prop) (x : S94) (t : Int) {j : Nat} (h : j < 21) : k94.M w base ok (putA94 x j t) (([.int .i64 x.f0, .int .i64 x.f1, .int .i64 x.f2, .int .i64 x.f3, .int .i64 x.f4, .int .i64 x.f5, .int .i64 x.f6, .int .i64 x.f7, .int .i64 x.f8, .int .i64 x.f9, .int .i64 x.f10, .int .i64 x.f11, .int .i64 x.f12, .int .i64 x.f13, .int .i64 x.f14, .int .i64 x.f15, .int .i64 x.f16, .int .i64 x.f17, .int .i64 x.f18, .int .i64 x.f19, .int .i64 x.f20] : List Value).take j ++ [.int .i64 t] ++ ([.int .i64 x.f0, .int .i64 x.f1, .int .i64 x.f2, .int .i64 x.f3, .int .i64 x.f4, .int .i64 x.f5, .int .i64 x.f6, .int .i64 x.f7, .int .i64 x.f8, .int .i64 x.f9, .int .i64 x.f10, .int .i64 x.f11, .int .i64 x.f12, .int .i64 x.f13, .int .i64 x.f14, .int .i64 x.f15, .int .i64 x.f16, .int .i64 x.f17, .int .i64 x.f18, .int .i64 x.f19, .int .i64 x.f20] : List Value).drop (j + 1)) := match j, h with
  | 0, _ => k94_mkM w base ok (putA94 x 0 t)
  | 1, _ => k94_mkM w base ok (putA94 x 1 t)
  | 2, _ => k94_mkM w base ok (putA94 x 2 t)
  | 3, _ => k94_mkM w base ok (putA94 x 3 t)
  | 4, _ => k94_mkM w base ok (putA94 x 4 t)
  | 5, _ => k94_mkM w base ok (putA94 x 5 t)
  | 6, _ => k94_mkM w base ok (putA94 x 6 t)
  | 7, _ => k94_mkM w base ok (putA94 x 7 t)
  | 8, _ => k94_mkM w base ok (putA94 x 8 t)
  | 9, _ => k94_mkM w base ok (putA94 x 9 t)
  | 10, _ => k94_mkM w base ok (putA94 x 10 t)
  | 11, _ => k94_mkM w base ok (putA94 x 11 t)
  | 12, _ => k94_mkM w base ok (putA94 x 12 t)
  | 13, _ => k94_mkM w base ok (putA94 x 13 t)
  | 14, _ => k94_mkM w base ok (putA94 x 14 t)
  | 15, _ => k94_mkM w base ok (putA94 x 15 t)
  | 16, _ => k94_mkM w base ok (putA94 x 16 t)
  | 17, _ => k94_mkM w base ok (putA94 x 17 t)
  | 18, _ => k94_mkM w base ok (putA94 x 18 t)
  | 19, _ => k94_mkM w base ok (putA94 x 19 t)
  | 20, _ => k94_mkM w base ok (putA94 x 20 t)
  | j + 21, h => absurd h zqk
def rd_T94 (xs : List S94) (i : Int) : S94 := xs.getD i.toNat z94
theorem at_T94 {w : World} {A : Option Addr} {n : Nat} {xs : List S94} (h : Kd.C k94 w A n xs) (i : Int) (h0 : 0 ≤ i) (h1 : i < n) : ∃ ad , A = some ad ∧ w.cell? (ad.add (i.toNat * 21)) = some (.int .i64 (rd_T94 xs i).f0) ∧ w.cell? ⟨(ad.add (i.toNat * 21)).block, (ad.add (i.toNat * 21)).off + 1, none⟩ = some (.int .i64 (rd_T94 xs i).f1) ∧ w.cell? ⟨(ad.add (i.toNat * 21)).block, (ad.add (i.toNat * 21)).off + 2, none⟩ = some (.int .i64 (rd_T94 xs i).f2) ∧ w.cell? ⟨(ad.add (i.toNat * 21)).block, (ad.add (i.toNat * 21)).off + 3, none⟩ = some (.int .i64 (rd_T94 xs i).f3) ∧ w.cell? ⟨(ad.add (i.toNat * 21)).block, (ad.add (i.toNat * 21)).off + 4, none⟩ = some (.int .i64 (rd_T94 xs i).f4) ∧ w.cell? ⟨(ad.add (i.toNat * 21)).block, (ad.add (i.toNat * 21)).off + 5, none⟩ = some (.int .i64 (rd_T94 xs i).f5) ∧ w.cell? ⟨(ad.add (i.toNat * 21)).block, (ad.add (i.toNat * 21)).off + 6, none⟩ = some (.int .i64 (rd_T94 xs i).f6) ∧ w.cell? ⟨(ad.add (i.toNat * 21)).block, (ad.add (i.toNat * 21)).off + 7, none⟩ = some (.int .i64 (rd_T94 xs i).f7) ∧ w.cell? ⟨(ad.add (i.toNat * 21)).block, (ad.add (i.toNat * 21)).off + 8, none⟩ = some (.int .i64 (rd_T94 xs i).f8) ∧ w.cell? ⟨(ad.add (i.toNat * 21)).block, (ad.add (i.toNat * 21)).off + 9, none⟩ = some (.int .i64 (rd_T94 xs i).f9) ∧ w.cell? ⟨(ad.add (i.toNat * 21)).block, (ad.add (i.toNat * 21)).off + 10, none⟩ = some (.int .i64 (rd_T94 xs i).f10) ∧ w.cell? ⟨(ad.add (i.toNat * 21)).block, (ad.add (i.toNat * 21)).off + 11, none⟩ = some (.int .i64 (rd_T94 xs i).f11) ∧ w.cell? ⟨(ad.add (i.toNat * 21)).block, (ad.add (i.toNat * 21)).off + 12, none⟩ = some (.int .i64 (rd_T94 xs i).f12) ∧ w.cell? ⟨(ad.add (i.toNat * 21)).block, (ad.add (i.toNat * 21)).off + 13, none⟩ = some (.int .i64 (rd_T94 xs i).f13) ∧ w.cell? ⟨(ad.add (i.toNat * 21)).block, (ad.add (i.toNat * 21)).off + 14, none⟩ = some (.int .i64 (rd_T94 xs i).f14) ∧ w.cell? ⟨(ad.add (i.toNat * 21)).block, (ad.add (i.toNat * 21)).off + 15, none⟩ = some (.int .i64 (rd_T94 xs i).f15) ∧ w.cell? ⟨(ad.add (i.toNat * 21)).block, (ad.add (i.toNat * 21)).off + 16, none⟩ = some (.int .i64 (rd_T94 xs i).f16) ∧ w.cell? ⟨(ad.add (i.toNat * 21)).block, (ad.add (i.toNat * 21)).off + 17, none⟩ = some (.int .i64 (rd_T94 xs i).f17) ∧ w.cell? ⟨(ad.add (i.toNat * 21)).block, (ad.add (i.toNat * 21)).off + 18, none⟩ = some (.int .i64 (rd_T94 xs i).f18) ∧ w.cell? ⟨(ad.add (i.toNat * 21)).block, (ad.add (i.toNat * 21)).off + 19, none⟩ = some (.int .i64 (rd_T94 xs i).f19) ∧ w.cell? ⟨(ad.add (i.toNat * 21)).block, (ad.add (i.toNat * 21)).off + 20, none⟩ = some (.int .i64 (rd_T94 xs i).f20) := by
  obtain ⟨ad, c, e, _, hK, a1⟩ := Kd.C_get h z94 i h0 h1
  have hc : ∀ j u, c[j]? = some u → w.cell? (ad.add (i.toNat * 21 + j)) = some u := a1
  obtain rfl := k94_open hK
  exact ⟨ad, e, hc 0 _ rfl, by rw [← add_field _ _ 1 zqk]; exact hc 1 _ rfl, by rw [← add_field _ _ 2 zqk]; exact hc 2 _ rfl, by rw [← add_field _ _ 3 zqk]; exact hc 3 _ rfl, by rw [← add_field _ _ 4 zqk]; exact hc 4 _ rfl, by rw [← add_field _ _ 5 zqk]; exact hc 5 _ rfl, by rw [← add_field _ _ 6 zqk]; exact hc 6 _ rfl, by rw [← add_field _ _ 7 zqk]; exact hc 7 _ rfl, by rw [← add_field _ _ 8 zqk]; exact hc 8 _ rfl, by rw [← add_field _ _ 9 zqk]; exact hc 9 _ rfl, by rw [← add_field _ _ 10 zqk]; exact hc 10 _ rfl, by rw [← add_field _ _ 11 zqk]; exact hc 11 _ rfl, by rw [← add_field _ _ 12 zqk]; exact hc 12 _ rfl, by rw [← add_field _ _ 13 zqk]; exact hc 13 _ rfl, by rw [← add_field _ _ 14 zqk]; exact hc 14 _ rfl, by rw [← add_field _ _ 15 zqk]; exact hc 15 _ rfl, by rw [← add_field _ _ 16 zqk]; exact hc 16 _ rfl, by rw [← add_field _ _ 17 zqk]; exact hc 17 _ rfl, by rw [← add_field _ _ 18 zqk]; exact hc 18 _ rfl, by rw [← add_field _ _ 19 zqk]; exact hc 19 _ rfl, by rw [← add_field _ _ 20 zqk]; exact hc 20 _ rfl⟩
/-! #### struct type 72 -/
structure S72 where
  f0 : Int
  f1 : Int
def z72 : S72 := ⟨(0 : Int), (0 : Int)⟩
def k72 : Kd S72 := Kd.iso (Kd.pair (Kd.int .i64) (Kd.int .i64)) (fun x : S72 => (x.f0, x.f1))
theorem k72_open {w : World} {x : S72} {cs : List Value} (h : k72.K w x cs) : cs = [.int .i64 x.f0, .int .i64 x.f1] := by
  obtain ⟨_, _, rfl, rfl, rfl⟩ := h
  exact rfl
theorem k72_openM {w : World} {base : Nat} {ok : Nat → Prop} {x : S72} {cs : List Value} (h : k72.M w base ok x cs) : cs = [.int .i64 x.f0, .int .i64 x.f1] := by
  obtain ⟨_, _, rfl, rfl, rfl⟩ := h
  exact rfl
theorem k72_mk (w : World) (x : S72)  : k72.K w x [.int .i64 x.f0, .int .i64 x.f1] := ⟨[.int .i64 x.f0], [.int .i64 x.f1], rfl, rfl, rfl⟩
theorem k72_mkM (w : World) (base : Nat) (ok : Nat → Prop) (x : S72)  : k72.M w base ok x [.int .i64 x.f0, .int .i64 x.f1] := ⟨[.int .i64 x.f0], [.int .i64 x.f1], rfl, rfl, rfl⟩
theorem k72_mkF (W : World) (ok : Nat → Prop) (x : S72) : Kd.FK k72 W ok x [.int .i64 x.f0, .int .i64 x.f1] := fun W2 _ => k72_mk W2 x
def rd_T72 (xs : List S72) (i : Int) : S72 := xs.getD i.toNat z72
theorem at_T72 {w : World} {A : Option Addr} {n : Nat} {xs : List S72} (h : Kd.C k72 w A n xs) (i : Int) (h0 : 0 ≤ i) (h1 : i < n) : ∃ ad , A = some ad ∧ w.cell? (ad.add (i.toNat * 2)) = some (.int .i64 (rd_T72 xs i).f0) ∧ w.cell? ⟨(ad.add (i.toNat * 2)).block, (ad.add (i.toNat * 2)).off + 1, none⟩ = some (.int .i64 (rd_T72 xs i).f1) := by
  obtain ⟨ad, c, e, _, hK, a1⟩ := Kd.C_get h z72 i h0 h1
  have hc : ∀ j u, c[j]? = some u → w.cell? (ad.add (i.toNat * 2 + j)) = some u := a1
  obtain rfl := k72_open hK
  exact ⟨ad, e, hc 0 _ rfl, by rw [← add_field _ _ 1 zqk]; exact hc 1 _ rfl⟩
theorem loadA94 {ρ : Operand → Value} {o : Oper} {x : Operand} {b : Addr} {w : World} {v0 v1 v2 v3 v4 v5 v6 v7 v8 v9 v10 v11 v12 v13 v14 v15 v16 v17 v18 v19 v20 : Value} (ho : o.op = .load 94 x) (hx : ρ x = .pointer (some b)) (h0 : w.cell? b = some v0) (h1 : w.cell? ⟨b.block, b.off + 1, none⟩ = some v1) (h2 : w.cell? ⟨b.block, b.off + 2, none⟩ = some v2) (h3 : w.cell? ⟨b.block, b.off + 3, none⟩ = some v3) (h4 : w.cell? ⟨b.block, b.off + 4, none⟩ = some v4) (h5 : w.cell? ⟨b.block, b.off + 5, none⟩ = some v5) (h6 : w.cell? ⟨b.block, b.off + 6, none⟩ = some v6) (h7 : w.cell? ⟨b.block, b.off + 7, none⟩ = some v7) (h8 : w.cell? ⟨b.block, b.off + 8, none⟩ = some v8) (h9 : w.cell? ⟨b.block, b.off + 9, none⟩ = some v9) (a2 : w.cell? ⟨b.block, b.off + 10, none⟩ = some v10) (a3 : w.cell? ⟨b.block, b.off + 11, none⟩ = some v11) (a4 : w.cell? ⟨b.block, b.off + 12, none⟩ = some v12) (a5 : w.cell? ⟨b.block, b.off + 13, none⟩ = some v13) (a6 : w.cell? ⟨b.block, b.off + 14, none⟩ = some v14) (a7 : w.cell? ⟨b.block, b.off + 15, none⟩ = some v15) (a8 : w.cell? ⟨b.block, b.off + 16, none⟩ = some v16) (a9 : w.cell? ⟨b.block, b.off + 17, none⟩ = some v17) (b1 : w.cell? ⟨b.block, b.off + 18, none⟩ = some v18) (b2 : w.cell? ⟨b.block, b.off + 19, none⟩ = some v19) (b3 : w.cell? ⟨b.block, b.off + 20, none⟩ = some v20) : (execOp ρ o).run Try.prog w = .ok (.value (.agg #[v0, v1, v2, v3, v4, v5, v6, v7, v8, v9, v10, v11, v12, v13, v14, v15, v16, v17, v18, v19, v20])) w := by
  have hl : (loadCells b 21).run Try.prog w = .ok #[v0, v1, v2, v3, v4, v5, v6, v7, v8, v9, v10, v11, v12, v13, v14, v15, v16, v17, v18, v19, v20] w := run_loadCells_list w b [v0, v1, v2, v3, v4, v5, v6, v7, v8, v9, v10, v11, v12, v13, v14, v15, v16, v17, v18, v19, v20] (fun j v hv => match j, hv with
    | 0, hv => by rw [Option.some.inj hv.symm]; exact h0
    | 1, hv => by rw [Option.some.inj hv.symm]; exact h1
    | 2, hv => by rw [Option.some.inj hv.symm]; exact h2
    | 3, hv => by rw [Option.some.inj hv.symm]; exact h3
    | 4, hv => by rw [Option.some.inj hv.symm]; exact h4
    | 5, hv => by rw [Option.some.inj hv.symm]; exact h5
    | 6, hv => by rw [Option.some.inj hv.symm]; exact h6
    | 7, hv => by rw [Option.some.inj hv.symm]; exact h7
    | 8, hv => by rw [Option.some.inj hv.symm]; exact h8
    | 9, hv => by rw [Option.some.inj hv.symm]; exact h9
    | 10, hv => by rw [Option.some.inj hv.symm]; exact a2
    | 11, hv => by rw [Option.some.inj hv.symm]; exact a3
    | 12, hv => by rw [Option.some.inj hv.symm]; exact a4
    | 13, hv => by rw [Option.some.inj hv.symm]; exact a5
    | 14, hv => by rw [Option.some.inj hv.symm]; exact a6
    | 15, hv => by rw [Option.some.inj hv.symm]; exact a7
    | 16, hv => by rw [Option.some.inj hv.symm]; exact a8
    | 17, hv => by rw [Option.some.inj hv.symm]; exact a9
    | 18, hv => by rw [Option.some.inj hv.symm]; exact b1
    | 19, hv => by rw [Option.some.inj hv.symm]; exact b2
    | 20, hv => by rw [Option.some.inj hv.symm]; exact b3
    | j + 21, hv => absurd hv (by simp))
  generalize (#[v0, v1, v2, v3, v4, v5, v6, v7, v8, v9, v10, v11, v12, v13, v14, v15, v16, v17, v18, v19, v20] : Array Value) = cs at hl ⊢
  have hi : (Try.prog.info? 94).map (·.size) = some 21 := by kernel_rfl
  cases hq : Try.prog.info? 94 with
  | none => simp [hq] at hi
  | some i =>
    have hs : i.size = 21 := by simpa [hq] using hi
    have hagg : (isAgg 94).run Try.prog w = .ok true w := by
      unfold isAgg
      rw [Sem.run_bind, run_underlying Try.underlying94 w]
      simp
    have hv : (loadVar 94 b).run Try.prog w = .ok (.agg cs) w := by simp [loadVar, Sem.run_bind, hagg, sizeOf, typeInfo, hq, hs, hl]
    unfold execOp
    simp only [ho, hx, Instr.loadAt, Instr.sureAddr, Sem.run_bind, Sem.run_pure, Result.andThen_ok, hv]
theorem loadB94 {ρ : Operand → Value} {o : Oper} {x : Operand} {g : Nat} {w : World} {v0 v1 v2 v3 v4 v5 v6 v7 v8 v9 v10 v11 v12 v13 v14 v15 v16 v17 v18 v19 v20 : Value} (ho : o.op = .load 94 x) (hx : ρ x = .pointer (some ⟨g, 0, none⟩)) (h0 : w.cell? ⟨g, 0, none⟩ = some v0) (h1 : w.cell? ⟨g, 1, none⟩ = some v1) (h2 : w.cell? ⟨g, 2, none⟩ = some v2) (h3 : w.cell? ⟨g, 3, none⟩ = some v3) (h4 : w.cell? ⟨g, 4, none⟩ = some v4) (h5 : w.cell? ⟨g, 5, none⟩ = some v5) (h6 : w.cell? ⟨g, 6, none⟩ = some v6) (h7 : w.cell? ⟨g, 7, none⟩ = some v7) (h8 : w.cell? ⟨g, 8, none⟩ = some v8) (h9 : w.cell? ⟨g, 9, none⟩ = some v9) (a2 : w.cell? ⟨g, 10, none⟩ = some v10) (a3 : w.cell? ⟨g, 11, none⟩ = some v11) (a4 : w.cell? ⟨g, 12, none⟩ = some v12) (a5 : w.cell? ⟨g, 13, none⟩ = some v13) (a6 : w.cell? ⟨g, 14, none⟩ = some v14) (a7 : w.cell? ⟨g, 15, none⟩ = some v15) (a8 : w.cell? ⟨g, 16, none⟩ = some v16) (a9 : w.cell? ⟨g, 17, none⟩ = some v17) (b1 : w.cell? ⟨g, 18, none⟩ = some v18) (b2 : w.cell? ⟨g, 19, none⟩ = some v19) (b3 : w.cell? ⟨g, 20, none⟩ = some v20) : (execOp ρ o).run Try.prog w = .ok (.value (.agg #[v0, v1, v2, v3, v4, v5, v6, v7, v8, v9, v10, v11, v12, v13, v14, v15, v16, v17, v18, v19, v20])) w :=
  loadA94 ho hx h0 (by rw [Nat.zero_add]; exact h1) (by rw [Nat.zero_add]; exact h2) (by rw [Nat.zero_add]; exact h3) (by rw [Nat.zero_add]; exact h4) (by rw [Nat.zero_add]; exact h5) (by rw [Nat.zero_add]; exact h6) (by rw [Nat.zero_add]; exact h7) (by rw [Nat.zero_add]; exact h8) (by rw [Nat.zero_add]; exact h9) (by rw [Nat.zero_add]; exact a2) (by rw [Nat.zero_add]; exact a3) (by rw [Nat.zero_add]; exact a4) (by rw [Nat.zero_add]; exact a5) (by rw [Nat.zero_add]; exact a6) (by rw [Nat.zero_add]; exact a7) (by rw [Nat.zero_add]; exact a8) (by rw [Nat.zero_add]; exact a9) (by rw [Nat.zero_add]; exact b1) (by rw [Nat.zero_add]; exact b2) (by rw [Nat.zero_add]; exact b3)
theorem last_more {P : Program} {md : Region.Mode} {ops : Array Oper} {Q : Exit → Act → World → Prop} {S S' : World → Prop} (hs : ∀ w, S' w → S w) : ∀ (fuel : Nat) (l : Array Bool) (a : Act) (w : World), S' w → wpAnyLast P md ops Q S' [] fuel l a w → wpAnyLast P md ops Q S [] fuel l a w
  | 0, _, _, _, _, h => h
  | fuel + 1, l, a, w, h0, h => ⟨h.1, fun i hi => wpOp_mono (fun a' w' h' => ⟨fun _ _ => hs w' (h'.1 (by simp) h0), last_more hs fuel _ a' w' (h'.1 (by simp) h0) h'.2⟩) (h.2 i hi)⟩
/-- What is held grows: from here on more is known of the world. -/
theorem more_ {P : Program} {md : Region.Mode} {ops : Array Oper} {Q : Exit → Act → World → Prop} {S S' : World → Prop} {fuel : Nat} {l : Array Bool} {a : Act} {w : World} (hs : ∀ w, S' w → S w) (h0 : S' w) (h : S' w → wpAnyLast P md ops Q S' [] fuel l a w) : wpAnyLast P md ops Q S [] fuel l a w := last_more hs fuel l a w h0 (h h0)
theorem arrcut94 {a : Addr} {n : Nat} (h : n = 21) : ∀ W : World, (Instr.sliceAt 94 (.pointer (some a)) none none none).run Try.prog W = .ok (.slice (some a) n 21) W := by
  intro W
  subst h
  have hi : (Try.prog.info? 3).map (·.size) = some 1 := by kernel_rfl
  cases hq : Try.prog.info? 3 with
  | none => simp [hq] at hi
  | some i =>
    unfold Instr.sliceAt
    rw [Sem.run_bind, run_underlying Try.underlying94 W]
    simp [Instr.sureAddr, Instr.sliceBounds, sizeOf, typeInfo, hq, Addr.add]
theorem boxC94 {W : World} {g : Nat} {t : TypeId} {v0 v1 v2 v3 v4 v5 v6 v7 v8 v9 v10 v11 v12 v13 v14 v15 v16 v17 v18 v19 v20 : Int} (h : W.heap[g]? = some (.cells #[.int .i64 v0, .int .i64 v1, .int .i64 v2, .int .i64 v3, .int .i64 v4, .int .i64 v5, .int .i64 v6, .int .i64 v7, .int .i64 v8, .int .i64 v9, .int .i64 v10, .int .i64 v11, .int .i64 v12, .int .i64 v13, .int .i64 v14, .int .i64 v15, .int .i64 v16, .int .i64 v17, .int .i64 v18, .int .i64 v19, .int .i64 v20] t (0, 0))) : Kd.C (Kd.int .i64) W (some ⟨g, 0, none⟩) ([v0, v1, v2, v3, v4, v5, v6, v7, v8, v9, v10, v11, v12, v13, v14, v15, v16, v17, v18, v19, v20] : List Int).length [v0, v1, v2, v3, v4, v5, v6, v7, v8, v9, v10, v11, v12, v13, v14, v15, v16, v17, v18, v19, v20] :=
  Kd.C_of_reads (d := (0 : Int)) ⟨rfl, (show 21 ≤ 9223372036854775807 from by decide), fun _ => ⟨_, rfl, fun j hj => by
    rw [add_plain, blk_cell h]
    exact (match j, hj with
    | 0, _ => rfl
    | 1, _ => rfl
    | 2, _ => rfl
    | 3, _ => rfl
    | 4, _ => rfl
    | 5, _ => rfl
    | 6, _ => rfl
    | 7, _ => rfl
    | 8, _ => rfl
    | 9, _ => rfl
    | 10, _ => rfl
    | 11, _ => rfl
    | 12, _ => rfl
    | 13, _ => rfl
    | 14, _ => rfl
    | 15, _ => rfl
    | 16, _ => rfl
    | 17, _ => rfl
    | 18, _ => rfl
    | 19, _ => rfl
    | 20, _ => rfl
    | j + 21, hj => absurd hj (by simp))⟩⟩
theorem gateL94 {P : Program} {ops : Array Oper} {rest : List Oper} {o : Oper} {a : Act} {Q : Exit → Act → World → Prop} {W : World} {x : Operand} (_ho : o.op = .load 94 x) (h : wpList P ops Q (o :: rest) a W) : wpList P ops Q (o :: rest) a W := h
theorem loadE94 {ops : Array Oper} {rest : List Oper} {o : Oper} {a : Act} {Q : Exit → Act → World → Prop} {W : World} {x : Operand} {b : Addr} {v0 v1 v2 v3 v4 v5 v6 v7 v8 v9 v10 v11 v12 v13 v14 v15 v16 v17 v18 v19 v20 : Value} (hgd : o.guard = none) (ho : o.op = .load 94 x) (hx : a.eval x = .pointer (some b)) (h0 : W.cell? b = some v0) (h1 : W.cell? ⟨b.block, b.off + 1, none⟩ = some v1) (h2 : W.cell? ⟨b.block, b.off + 2, none⟩ = some v2) (h3 : W.cell? ⟨b.block, b.off + 3, none⟩ = some v3) (h4 : W.cell? ⟨b.block, b.off + 4, none⟩ = some v4) (h5 : W.cell? ⟨b.block, b.off + 5, none⟩ = some v5) (h6 : W.cell? ⟨b.block, b.off + 6, none⟩ = some v6) (h7 : W.cell? ⟨b.block, b.off + 7, none⟩ = some v7) (h8 : W.cell? ⟨b.block, b.off + 8, none⟩ = some v8) (h9 : W.cell? ⟨b.block, b.off + 9, none⟩ = some v9) (a2 : W.cell? ⟨b.block, b.off + 10, none⟩ = some v10) (a3 : W.cell? ⟨b.block, b.off + 11, none⟩ = some v11) (a4 : W.cell? ⟨b.block, b.off + 12, none⟩ = some v12) (a5 : W.cell? ⟨b.block, b.off + 13, none⟩ = some v13) (a6 : W.cell? ⟨b.block, b.off + 14, none⟩ = some v14) (a7 : W.cell? ⟨b.block, b.off + 15, none⟩ = some v15) (a8 : W.cell? ⟨b.block, b.off + 16, none⟩ = some v16) (a9 : W.cell? ⟨b.block, b.off + 17, none⟩ = some v17) (b1 : W.cell? ⟨b.block, b.off + 18, none⟩ = some v18) (b2 : W.cell? ⟨b.block, b.off + 19, none⟩ = some v19) (b3 : W.cell? ⟨b.block, b.off + 20, none⟩ = some v20) (h : wpList Try.prog ops Q rest (a.put o.dst (.agg #[v0, v1, v2, v3, v4, v5, v6, v7, v8, v9, v10, v11, v12, v13, v14, v15, v16, v17, v18, v19, v20])) W) : wpList Try.prog ops Q (o :: rest) a W := by
  refine wpList_plain hgd fun K hK => ?_
  unfold Oper.wp
  rw [loadA94 ho hx h0 h1 h2 h3 h4 h5 h6 h7 h8 h9 a2 a3 a4 a5 a6 a7 a8 a9 b1 b2 b3]
  exact hK _ _ h
theorem loadX94 {ops : Array Oper} {rest : List Oper} {o : Oper} {a : Act} {Q : Exit → Act → World → Prop} {W : World} {x : Operand} {g : Nat} {t : TypeId} {v0 v1 v2 v3 v4 v5 v6 v7 v8 v9 v10 v11 v12 v13 v14 v15 v16 v17 v18 v19 v20 : Value} (hgd : o.guard = none) (ho : o.op = .load 94 x) (hx : a.eval x = .pointer (some ⟨g, 0, none⟩)) (hb : W.heap[g]? = some (.cells #[v0, v1, v2, v3, v4, v5, v6, v7, v8, v9, v10, v11, v12, v13, v14, v15, v16, v17, v18, v19, v20] t (0, 0))) (h : wpList Try.prog ops Q rest (a.put o.dst (.agg #[v0, v1, v2, v3, v4, v5, v6, v7, v8, v9, v10, v11, v12, v13, v14, v15, v16, v17, v18, v19, v20])) W) : wpList Try.prog ops Q (o :: rest) a W := by
  refine wpList_plain hgd fun K hK => ?_
  unfold Oper.wp
  rw [loadB94 ho hx ((blk_cell hb 0).trans rfl) ((blk_cell hb 1).trans rfl) ((blk_cell hb 2).trans rfl) ((blk_cell hb 3).trans rfl) ((blk_cell hb 4).trans rfl) ((blk_cell hb 5).trans rfl) ((blk_cell hb 6).trans rfl) ((blk_cell hb 7).trans rfl) ((blk_cell hb 8).trans rfl) ((blk_cell hb 9).trans rfl) ((blk_cell hb 10).trans rfl) ((blk_cell hb 11).trans rfl) ((blk_cell hb 12).trans rfl) ((blk_cell hb 13).trans rfl) ((blk_cell hb 14).trans rfl) ((blk_cell hb 15).trans rfl) ((blk_cell hb 16).trans rfl) ((blk_cell hb 17).trans rfl) ((blk_cell hb 18).trans rfl) ((blk_cell hb 19).trans rfl) ((blk_cell hb 20).trans rfl)]
  exact hK _ _ h
theorem storeE94 {o : Oper} {ρ : Operand → Value} {W : World} {p x : Operand} {g : Nat} {t : TypeId} {x0 x1 x2 x3 x4 x5 x6 x7 x8 x9 x10 x11 x12 x13 x14 x15 x16 x17 x18 x19 x20 : Int} {v0 v1 v2 v3 v4 v5 v6 v7 v8 v9 v10 v11 v12 v13 v14 v15 v16 v17 v18 v19 v20 : Value} (ho : o.op = .store 94 p x) (hp : ρ p = .pointer (some ⟨g, 0, none⟩)) (hx : ρ x = .agg #[.int .i64 x0, .int .i64 x1, .int .i64 x2, .int .i64 x3, .int .i64 x4, .int .i64 x5, .int .i64 x6, .int .i64 x7, .int .i64 x8, .int .i64 x9, .int .i64 x10, .int .i64 x11, .int .i64 x12, .int .i64 x13, .int .i64 x14, .int .i64 x15, .int .i64 x16, .int .i64 x17, .int .i64 x18, .int .i64 x19, .int .i64 x20]) (hb : W.heap[g]? = some (.cells #[v0, v1, v2, v3, v4, v5, v6, v7, v8, v9, v10, v11, v12, v13, v14, v15, v16, v17, v18, v19, v20] t (0, 0))) : (execOp ρ o).run Try.prog W = .ok .skip (((((((((((((((((((((W.setCell ⟨g, 0, none⟩ (.int .i64 x0)).setCell ⟨g, 1, none⟩ (.int .i64 x1)).setCell ⟨g, 2, none⟩ (.int .i64 x2)).setCell ⟨g, 3, none⟩ (.int .i64 x3)).setCell ⟨g, 4, none⟩ (.int .i64 x4)).setCell ⟨g, 5, none⟩ (.int .i64 x5)).setCell ⟨g, 6, none⟩ (.int .i64 x6)).setCell ⟨g, 7, none⟩ (.int .i64 x7)).setCell ⟨g, 8, none⟩ (.int .i64 x8)).setCell ⟨g, 9, none⟩ (.int .i64 x9)).setCell ⟨g, 10, none⟩ (.int .i64 x10)).setCell ⟨g, 11, none⟩ (.int .i64 x11)).setCell ⟨g, 12, none⟩ (.int .i64 x12)).setCell ⟨g, 13, none⟩ (.int .i64 x13)).setCell ⟨g, 14, none⟩ (.int .i64 x14)).setCell ⟨g, 15, none⟩ (.int .i64 x15)).setCell ⟨g, 16, none⟩ (.int .i64 x16)).setCell ⟨g, 17, none⟩ (.int .i64 x17)).setCell ⟨g, 18, none⟩ (.int .i64 x18)).setCell ⟨g, 19, none⟩ (.int .i64 x19)).setCell ⟨g, 20, none⟩ (.int .i64 x20)) := by
  have hi : (Try.prog.info? 94).map (·.size) = some ([.int .i64 x0, .int .i64 x1, .int .i64 x2, .int .i64 x3, .int .i64 x4, .int .i64 x5, .int .i64 x6, .int .i64 x7, .int .i64 x8, .int .i64 x9, .int .i64 x10, .int .i64 x11, .int .i64 x12, .int .i64 x13, .int .i64 x14, .int .i64 x15, .int .i64 x16, .int .i64 x17, .int .i64 x18, .int .i64 x19, .int .i64 x20] : List Value).length := by kernel_rfl
  have hr := run_store_run (P := Try.prog) (w := W) (g := g) (o := 0) 94 (.agg #[.int .i64 x0, .int .i64 x1, .int .i64 x2, .int .i64 x3, .int .i64 x4, .int .i64 x5, .int .i64 x6, .int .i64 x7, .int .i64 x8, .int .i64 x9, .int .i64 x10, .int .i64 x11, .int .i64 x12, .int .i64 x13, .int .i64 x14, .int .i64 x15, .int .i64 x16, .int .i64 x17, .int .i64 x18, .int .i64 x19, .int .i64 x20]) [.int .i64 x0, .int .i64 x1, .int .i64 x2, .int .i64 x3, .int .i64 x4, .int .i64 x5, .int .i64 x6, .int .i64 x7, .int .i64 x8, .int .i64 x9, .int .i64 x10, .int .i64 x11, .int .i64 x12, .int .i64 x13, .int .i64 x14, .int .i64 x15, .int .i64 x16, .int .i64 x17, .int .i64 x18, .int .i64 x19, .int .i64 x20] hb rfl hi (show 0 + 21 ≤ 21 from by decide) (fun q hq => by simp only [List.mem_cons, List.not_mem_nil, or_false] at hq; rcases hq with rfl | rfl | rfl | rfl | rfl | rfl | rfl | rfl | rfl | rfl | rfl | rfl | rfl | rfl | rfl | rfl | rfl | rfl | rfl | rfl | rfl <;> rfl)
  unfold execOp
  simp only [ho, hp, hx, Sem.run_bind, Sem.run_pure, Result.andThen_ok, hr]
  rfl
theorem gateS94 {P : Program} {ops : Array Oper} {rest : List Oper} {o : Oper} {a : Act} {Q : Exit → Act → World → Prop} {W : World} {p x : Operand} (_ho : o.op = .store 94 p x) (h : wpList P ops Q (o :: rest) a W) : wpList P ops Q (o :: rest) a W := h
theorem storeP94 {ops : Array Oper} {rest : List Oper} {o : Oper} {a : Act} {Q : Exit → Act → World → Prop} {W : World} {p x : Operand} {g : Nat} {t : TypeId} {x0 x1 x2 x3 x4 x5 x6 x7 x8 x9 x10 x11 x12 x13 x14 x15 x16 x17 x18 x19 x20 : Int} {v0 v1 v2 v3 v4 v5 v6 v7 v8 v9 v10 v11 v12 v13 v14 v15 v16 v17 v18 v19 v20 : Value} (hgd : o.guard = none) (hN : o.dst = none) (ho : o.op = .store 94 p x) (hp : a.eval p = .pointer (some ⟨g, 0, none⟩)) (hx : a.eval x = .agg #[.int .i64 x0, .int .i64 x1, .int .i64 x2, .int .i64 x3, .int .i64 x4, .int .i64 x5, .int .i64 x6, .int .i64 x7, .int .i64 x8, .int .i64 x9, .int .i64 x10, .int .i64 x11, .int .i64 x12, .int .i64 x13, .int .i64 x14, .int .i64 x15, .int .i64 x16, .int .i64 x17, .int .i64 x18, .int .i64 x19, .int .i64 x20]) (hb : W.heap[g]? = some (.cells #[v0, v1, v2, v3, v4, v5, v6, v7, v8, v9, v10, v11, v12, v13, v14, v15, v16, v17, v18, v19, v20] t (0, 0))) (h : wpList Try.prog ops Q rest a (((((((((((((((((((((W.setCell ⟨g, 0, none⟩ (.int .i64 x0)).setCell ⟨g, 1, none⟩ (.int .i64 x1)).setCell ⟨g, 2, none⟩ (.int .i64 x2)).setCell ⟨g, 3, none⟩ (.int .i64 x3)).setCell ⟨g, 4, none⟩ (.int .i64 x4)).setCell ⟨g, 5, none⟩ (.int .i64 x5)).setCell ⟨g, 6, none⟩ (.int .i64 x6)).setCell ⟨g, 7, none⟩ (.int .i64 x7)).setCell ⟨g, 8, none⟩ (.int .i64 x8)).setCell ⟨g, 9, none⟩ (.int .i64 x9)).setCell ⟨g, 10, none⟩ (.int .i64 x10)).setCell ⟨g, 11, none⟩ (.int .i64 x11)).setCell ⟨g, 12, none⟩ (.int .i64 x12)).setCell ⟨g, 13, none⟩ (.int .i64 x13)).setCell ⟨g, 14, none⟩ (.int .i64 x14)).setCell ⟨g, 15, none⟩ (.int .i64 x15)).setCell ⟨g, 16, none⟩ (.int .i64 x16)).setCell ⟨g, 17, none⟩ (.int .i64 x17)).setCell ⟨g, 18, none⟩ (.int .i64 x18)).setCell ⟨g, 19, none⟩ (.int .i64 x19)).setCell ⟨g, 20, none⟩ (.int .i64 x20))) : wpList Try.prog ops Q (o :: rest) a W := by
  refine wpList_plain hgd fun K hK => ?_
  unfold Oper.wp
  rw [storeE94 ho hp hx hb]
  refine hK _ _ ?_
  rw [hN]
  exact h
end Go.Proofs.Ytmekmkhdhakohaa.PFnLevels
