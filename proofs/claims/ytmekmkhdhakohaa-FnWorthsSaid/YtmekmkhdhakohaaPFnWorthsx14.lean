-- A text of this session (its program hook.py, over the kit's print.py): not a print of print.sh
import Derived.Test.YtmekmkhdhakohaaPFnWorthsx0
import Derived.Test.YtmekmkhdhakohaaPFnWorthsx4
namespace Go.Proofs.Ytmekmkhdhakohaa.PFnWorths
open Go.RowKit Go.Proofs.YtmekmkhdhakohaaW.PrintWords Go.Proofs.YtmekmkhdhakohaaW.PrintLast Go.Proofs.YtmekmkhdhakohaaW.PrintMore
attribute [local go_sem] max2_int min2_int max_two min_two max_three min_three max_four min_four   -- for this text's walks alone
set_option linter.unusedVariables false
set_option linter.unusedSimpArgs false

-- SQUEEZED
theorem z14_A {p : Prop} (h : p) : Aside0 p := Aside0.mk h

/-! ### impl_isLevel: function 73 -/
def impl_isLevel.f (a : Int) : Option (Bool) := (impl_within.f a (-10) 10).bind fun b => (some b)
set_option maxHeartbeats 8000000 in
set_option maxRecDepth 100000 in
theorem impl_isLevel.calls (a0 : Int) (r : Bool) (w : World) (h : impl_isLevel.f a0 = some r) :
    Calls Try.prog 73 #[.int .i64 a0] w fun e w' => e = .returned (.bool r) ∧ Drawn0 w w' := by
 unfold impl_isLevel.f at h; revert h; intro H; obtain ⟨a1, A2, H⟩ := zB H; obtain rfl := Option.some.inj H; go_enter Try.func73, Try.ntmps73; go_wp2_with ((with_reducible refine gate_callee (f := 98) rfl ?_); refine goesL_ (some 4) rfl rfl Try.func98 (by kernel_rfl) rfl #[.int .i64 a0, .int .i64 (-10), .int .i64 10] rfl (by (try simp only [List.map_toArray, List.map_cons, List.map_nil]); rfl) ?_; (with_reducible refine (impl_within.calls a0 (-10) 10 a1 _ A2.out).mono ?_); rintro e w' ⟨rfl, ⟨nd, rfl⟩⟩; refine ⟨_, rfl, ?_⟩); go_ret; exact ⟨by rfl, by repeat (first | exact Drawn0.refl _ | apply Drawn0.step)⟩
end Go.Proofs.Ytmekmkhdhakohaa.PFnWorths
