/- For every rule, price and list of shares, Days of the program and of the reference answer alike. Condition: none. -/
import Derived.Test.YtfabkiacmbkpmaaAx9
import Derived.Test.YtfabkiacmbkpmaaM1
import Derived.Test.YtfabkiacmbkpmaaOpen
namespace Go.Proofs.Ytfabkiacmbkpmaa.Pure
open Go.RowKit Go.Proofs.Ytfabkiacmbkpmaa.A Go.Proofs.YtfabkiacmbkpmaaW.PrintWords Go.Proofs.YtfabkiacmbkpmaaW.PrintLast
theorem RefundDays : ∀ (a0_0 : Int) (a0_1 : Int) (a1 : Int) (l2 : List Int), InI64 a0_0 → InI64 a0_1 → InI64 a1 → GoodL (fun x => InI64 x) l2 → ∃ k, skiarealaw36_RefundDays.f k a0_0 a0_1 a1 l2 = some true := by
  intro L R p l _ _ _ hl
  apply Ev.rounds
  simp only [skiarealaw36_RefundDays.f]
  refine Ev.bind alive_ev (Ev.yes rfl ?_)
  by_cases h : (l.length : Int) > 100
  · exact Ev.yes h (Ev.now _)
  · refine Ev.no h ?_
    simp only [days_f _ _ _ _ hl.1, Option.bind_some]
    exact Ev.bind (daysR L R p l) (Ev.yes rfl (Ev.val (by simp)))
end Go.Proofs.Ytfabkiacmbkpmaa.Pure
