/- For all numbers Unused of the program and of the reference answer alike. Condition: none. -/
import Derived.Test.YtfabkiacmbkpmaaAx9
import Derived.Test.YtfabkiacmbkpmaaM2
import Derived.Test.YtfabkiacmbkpmaaOpen
namespace Go.Proofs.Ytfabkiacmbkpmaa.Pure
open Go.RowKit Go.Proofs.Ytfabkiacmbkpmaa.A Go.Proofs.YtfabkiacmbkpmaaW.PrintWords Go.Proofs.YtfabkiacmbkpmaaW.PrintLast
set_option linter.unusedVariables false
theorem RefundUnused : ∀ (a0 : Int) (a1 : Int) (a2 : Int), InI64 a0 → InI64 a1 → InI64 a2 → ∃ k, skiarealaw36_RefundUnused.f k a0 a1 a2 = some true := by
  intro p u l _ _ _
  apply Ev.rounds
  simp only [skiarealaw36_RefundUnused.f, unused_f, unusedR_f, Option.bind_some]
  exact Ev.bind alive_ev (Ev.yes rfl (Ev.yes (by trivial) (Ev.val (by simp))))
end Go.Proofs.Ytfabkiacmbkpmaa.Pure
