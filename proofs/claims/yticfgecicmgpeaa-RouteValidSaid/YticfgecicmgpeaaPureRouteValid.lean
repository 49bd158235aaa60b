/- The law RouteValid of the printed functions: both Valids and both Ends compute the same. Condition: lists that a machine can hold. -/
import Derived.Test.YticfgecicmgpeaaAx43
import Derived.Test.YticfgecicmgpeaaOpen
import Derived.Test.YticfgecicmgpeaaPlanW
namespace Go.Proofs.Yticfgecicmgpeaa.Pure
open Go.RowKit Go.Proofs.Yticfgecicmgpeaa.A Go.Proofs.YticfgecicmgpeaaW.PrintWords Go.Proofs.YticfgecicmgpeaaW.PrintLast
set_option linter.unusedVariables false
theorem RouteValid : ∀ (l0 : List S34) (l1 : List Bool) (l2 : List S37), GoodL (fun x => good34 x) l0 → GoodL (fun x => True) l1 → GoodL (fun x => good37 x) l2 → ∃ k, skiarealaw47_RouteValid.f k l0 l1 l2 = some true := by
  intro l win pl hl hw hp
  obtain ⟨b, hb, hok⟩ := accepted_ev l win hl.1 hw.1
  refine Ev.rounds (Ev.bind (a := true) (Ev.now _) (Ev.yes rfl (Ev.bind hb ?_)))
  have hj : ∀ x, b = true ∨ x = true → Ev (fun k => skiarealaw47_RouteValid.j0 k l win pl x) true := by
    intro x hx
    refine Ev.step (fun k => by rw [skiarealaw47_RouteValid.j0]) (Ev.ite (fun _ => Ev.now _) fun h => ?_)
    have ok := hok (hx.resolve_right h)
    refine Ev.bind (valid_ev ok hp.1) (Ev.bind (a := rvalV l win pl) (Ev.now _) (Ev.yes (beq_self_eq_true _) (Ev.bind (a := endV pl) (Ev.now _) (Ev.bind (end_ev pl hp.1) ?_))))
    rw [beq_self_eq_true]
    exact Ev.now _
  exact Ev.ite (fun h => hj _ (.inl h)) fun h => hj _ (.inr rfl)
end Go.Proofs.Yticfgecicmgpeaa.Pure
