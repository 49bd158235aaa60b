/- The law RouteRight of the printed functions: both Rights compute the same number. Condition: lists that a machine can hold. -/
import Derived.Test.YticfgecicmgpeaaAx35
import Derived.Test.YticfgecicmgpeaaOpen
import Derived.Test.YticfgecicmgpeaaPlanR
namespace Go.Proofs.Yticfgecicmgpeaa.Pure
open Go.RowKit Go.Proofs.Yticfgecicmgpeaa.A Go.Proofs.YticfgecicmgpeaaW.PrintWords Go.Proofs.YticfgecicmgpeaaW.PrintLast
set_option linter.unusedVariables false
theorem RouteRight : ∀ (l0 : List S34) (l1 : List Bool), GoodL (fun x => good34 x) l0 → GoodL (fun x => True) l1 → ∃ k, skiarealaw47_RouteRight.f k l0 l1 = some true := by
  intro l win hl hw
  have hj : ∀ b, Ev (fun k => skiarealaw47_RouteRight.j0 k l win b) true := by
    intro b
    refine Ev.step (fun k => by rw [skiarealaw47_RouteRight.j0]) (Ev.ite (fun _ => Ev.now _) fun _ => Ev.bind (right_ev l win hl.1 hw.1) (Ev.bind (rright_ev l win hl.1 hw.1) ?_))
    rw [beq_self_eq_true]
    exact Ev.now _
  exact Ev.rounds (Ev.bind (a := true) (Ev.now _) (Ev.yes rfl (Ev.ite (fun _ => hj _) fun _ => hj _)))
end Go.Proofs.Yticfgecicmgpeaa.Pure
