-- A text of this session (its program hook.py, over the kit's print.py): not a print of print.sh
import Derived.Test.YtfgclhojgaaepaaPFnParcelsx0
namespace Go.Proofs.Ytfgclhojgaaepaa.PFnParcels
open Go.RowKit Go.Proofs.YtfgclhojgaaepaaW.PrintWords Go.Proofs.YtfgclhojgaaepaaW.PrintLast Go.Proofs.YtfgclhojgaaepaaW.PrintMore
attribute [local go_sem] max2_int min2_int max_two min_two max_three min_three max_four min_four   -- for this text's walks alone
set_option linter.unusedVariables false
set_option linter.unusedSimpArgs false

theorem eqA127 (d : Nat) (w : World) (x0 y0 : Int) (x1 y1 : Int) :
    (Op.equalIn (d + 2) 127 (.agg #[.int .i64 x0, .int .i64 x1]) (.agg #[.int .i64 y0, .int .i64 y1])).run Try.prog w = .ok (x0 == y0 && (x1 == y1)) w := by
  have hp0 : ∀ (u : World), (part 3 #[Value.int .i64 x0, .int .i64 x1] 0).run Try.prog u = .ok (.int .i64 x0) u := fun u => by go_simp
  have hp1 : ∀ (u : World), (part 3 #[Value.int .i64 x0, .int .i64 x1] 1).run Try.prog u = .ok (.int .i64 x1) u := fun u => by go_simp
  have hq0 : ∀ (u : World), (part 3 #[Value.int .i64 y0, .int .i64 y1] 0).run Try.prog u = .ok (.int .i64 y0) u := fun u => by go_simp
  have hq1 : ∀ (u : World), (part 3 #[Value.int .i64 y0, .int .i64 y1] 1).run Try.prog u = .ok (.int .i64 y1) u := fun u => by go_simp
  have he0 : ∀ (u : World), (Op.equalIn (d + 1) 3 (.int .i64 x0) (.int .i64 y0)).run Try.prog u = .ok (x0 == y0) u := fun u => run_equalIn_int u d 3 .i64 .i64 x0 y0 Try.underlying3
  have he1 : ∀ (u : World), (Op.equalIn (d + 1) 3 (.int .i64 x1) (.int .i64 y1)).run Try.prog u = .ok (x1 == y1) u := fun u => run_equalIn_int u d 3 .i64 .i64 x1 y1 Try.underlying3
  rw [Op.equalIn]
  simp only [Sem.run_bind, run_underlying Try.underlying127, Result.andThen_ok]
  simp only [Std.Legacy.Range.forIn_eq_forIn_range', Std.Legacy.Range.size, List.range', List.forIn_cons, List.forIn_nil, Sem.run_bind, Sem.run_pure, hp0, hp1, hq0, hq1, he0, he1, Result.andThen_ok, Try.sizeOf3]
  cases h0 : (x0 == y0) <;> cases h1 : (x1 == y1) <;> simp [Sem.run_bind, Sem.run_pure, Sem.run_ite, hp0, hp1, hq0, hq1, he0, he1, h0, h1, Result.andThen_ok]
end Go.Proofs.Ytfgclhojgaaepaa.PFnParcels
