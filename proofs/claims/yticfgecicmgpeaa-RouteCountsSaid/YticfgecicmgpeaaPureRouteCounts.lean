/- The law RouteCounts of the printed functions: both Leasts compute the same. Condition: lists that a machine can hold. -/
import Derived.Test.YticfgecicmgpeaaAx48
import Derived.Test.YticfgecicmgpeaaPlanC
import Derived.Test.YticfgecicmgpeaaPlanL
import Derived.Test.YticfgecicmgpeaaPlanW
namespace Go.Proofs.Yticfgecicmgpeaa.Pure
open Go.RowKit Go.Proofs.Yticfgecicmgpeaa.A Go.Proofs.YticfgecicmgpeaaW.PrintWords Go.Proofs.YticfgecicmgpeaaW.PrintLast
set_option linter.unusedVariables false
theorem RouteCounts : ∀ (l0 : List S34) (l1 : List Bool), GoodL (fun x => good34 x) l0 → GoodL (fun x => True) l1 → ∃ k, skiarealaw47_RouteCounts.f k l0 l1 = some true := by
  intro l win hl hw
  obtain ⟨b, hb, hok⟩ := accepted_ev l win hl.1 hw.1
  refine Ev.rounds (Ev.bind (a := true) (Ev.now _) (Ev.yes rfl (Ev.bind hb (Ev.ite (fun h => ?_) fun h => Ev.now _))))
  have ok := hok h
  refine Ev.bind (Ev.is (least_f ok)) (Ev.bind (rleast_ev ok) ?_)
  rw [beq_self_eq_true]
  exact Ev.now _
end Go.Proofs.Yticfgecicmgpeaa.Pure
