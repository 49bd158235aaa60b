/- For every right map and lists of at most 100 numbers Closed of the program and of the reference answer alike. Condition: none. -/
import Derived.Test.YtfabkiacmbkpmaaAx19
import Derived.Test.YtfabkiacmbkpmaaM4
import Derived.Test.YtfabkiacmbkpmaaOpen
namespace Go.Proofs.Ytfabkiacmbkpmaa.Pure
open Go.RowKit Go.Proofs.Ytfabkiacmbkpmaa.A Go.Proofs.YtfabkiacmbkpmaaW.PrintWords Go.Proofs.YtfabkiacmbkpmaaW.PrintLast
set_option linter.unusedVariables false
theorem RefundCloseds : ∀ (l0_0 : List S53) (l0_1 : List S50) (l0_2 : List S66) (l0_3 : List Int) (l1 : List Int) (l2 : List Int), GoodL (fun x => good53 x) l0_0 → GoodL (fun x => good50 x) l0_1 → GoodL (fun x => good66 x) l0_2 → GoodL (fun x => InI64 x) l0_3 → GoodL (fun x => InI64 x) l1 → GoodL (fun x => InI64 x) l2 → ∃ k, skiarealaw36_RefundCloseds.f k l0_0 l0_1 l0_2 l0_3 l1 l2 = some true := by
  intro n L r e o c hn hL hr he ho hc
  apply Ev.rounds
  simp only [skiarealaw36_RefundCloseds.f]
  refine Ev.bind alive_ev (Ev.yes rfl ?_)
  have ht : Ev (fun k => skiarealaw36_RefundCloseds.j0 k o c true n L r e) true := Ev.step (fun k => by rw [skiarealaw36_RefundCloseds.j0, if_pos rfl]) (Ev.now _)
  by_cases h1 : (o.length : Int) > 100
  · exact Ev.yes h1 ht
  refine Ev.no h1 ?_
  by_cases h2 : (c.length : Int) > 100
  · exact Ev.yes h2 ht
  refine Ev.no h2 ?_
  obtain ⟨x, hx, _⟩ := right10 n L r e hn.1 hL.1 hr.1 he.1
  refine Ev.bind hx ?_
  by_cases h3 : x = 0
  · subst h3
    refine Ev.step (fun k => by rw [skiarealaw36_RefundCloseds.j0, if_neg (by decide)]) ?_
    exact Ev.bind (closed_ev n L r e o c ho.1 hc.1 hL.1) (Ev.bind (closedR_ev n L r e o c ho.1 hc.1 hL.1) (Ev.val (by simp)))
  · exact Ev.step (fun k => by rw [skiarealaw36_RefundCloseds.j0, if_pos (by simpa using h3)]) (Ev.now _)
end Go.Proofs.Ytfabkiacmbkpmaa.Pure
