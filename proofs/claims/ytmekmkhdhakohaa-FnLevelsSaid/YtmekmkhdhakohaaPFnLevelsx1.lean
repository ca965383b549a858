import Derived.Test.YtmekmkhdhakohaaPFnLevelsx0
namespace Go.Proofs.Ytmekmkhdhakohaa.PFnLevels
open Go.RowKit Go.Proofs.YtmekmkhdhakohaaW.PrintWords Go.Proofs.YtmekmkhdhakohaaW.PrintLast Go.Proofs.YtmekmkhdhakohaaW.PrintMore
attribute [local go_sem] max2_int min2_int max_two min_two max_three min_three max_four min_four
set_option linter.unusedVariables false
set_option linter.unusedSimpArgs false
theorem eqA72 (d : Nat) (w : World) (x0 y0 : Int) (x1 y1 : Int) :
    (Op.equalIn (d + 2) 72 (.agg #[.int .i64 x0, .int .i64 x1]) (.agg #[.int .i64 y0, .int .i64 y1])).run Try.prog w = .ok (x0 == y0 && (x1 == y1)) w := by
  have a1 : ∀ (u : World), (part 3 #[Value.int .i64 x0, .int .i64 x1] 0).run Try.prog u = .ok (.int .i64 x0) u := fun u => by go_simp
  have a2 : ∀ (u : World), (part 3 #[Value.int .i64 x0, .int .i64 x1] 1).run Try.prog u = .ok (.int .i64 x1) u := fun u => by go_simp
  have a3 : ∀ (u : World), (part 3 #[Value.int .i64 y0, .int .i64 y1] 0).run Try.prog u = .ok (.int .i64 y0) u := fun u => by go_simp
  have a4 : ∀ (u : World), (part 3 #[Value.int .i64 y0, .int .i64 y1] 1).run Try.prog u = .ok (.int .i64 y1) u := fun u => by go_simp
  have a5 : ∀ (u : World), (Op.equalIn (d + 1) 3 (.int .i64 x0) (.int .i64 y0)).run Try.prog u = .ok (x0 == y0) u := fun u => run_equalIn_int u d 3 .i64 .i64 x0 y0 Try.underlying3
  have a6 : ∀ (u : World), (Op.equalIn (d + 1) 3 (.int .i64 x1) (.int .i64 y1)).run Try.prog u = .ok (x1 == y1) u := fun u => run_equalIn_int u d 3 .i64 .i64 x1 y1 Try.underlying3
  rw [Op.equalIn]
  simp only [Sem.run_bind, run_underlying Try.underlying72, Result.andThen_ok]
  simp only [Std.Legacy.Range.forIn_eq_forIn_range', Std.Legacy.Range.size, List.range', List.forIn_cons, List.forIn_nil, Sem.run_bind, Sem.run_pure, a1, a2, a3, a4, a5, a6, Result.andThen_ok, Try.sizeOf3]
  cases h0 : (x0 == y0) <;> cases h1 : (x1 == y1) <;> simp [Sem.run_bind, Sem.run_pure, Sem.run_ite, a1, a2, a3, a4, a5, a6, h0, h1, Result.andThen_ok]
end Go.Proofs.Ytmekmkhdhakohaa.PFnLevels
