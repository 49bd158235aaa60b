/- What 'accepted' of the laws computes. Condition: lists that a machine can hold. -/
import Derived.Test.YticfgecicmgpeaaAx36
import Derived.Test.YticfgecicmgpeaaPlanV
namespace Go.Proofs.Yticfgecicmgpeaa.Pure
open Go.RowKit Go.Proofs.Yticfgecicmgpeaa.A Go.Proofs.YticfgecicmgpeaaW.PrintWords Go.Proofs.YticfgecicmgpeaaW.PrintLast
set_option linter.unusedVariables false
/-- What 'accepted' computes. -/
theorem accepted_ev (l : List S34) (win : List Bool) (hl : l.length ≤ 9223372036854775807) (hw : win.length ≤ 9223372036854775807) : ∃ b : Bool, Ev (fun k => skiarealaw47_accepted.f k l win) b ∧ (b = true → OKL l win) := by
  by_cases h : rightV l win = 0 ∧ (l.length : Int) ≤ 6 ∧ (win.length : Int) ≤ 3
  · exact ⟨true, Ev.yes h.2.1 (Ev.yes h.2.2 (Ev.bind (rright_ev l win hl hw) (Ev.val (by rw [h.1]; rfl)))), fun _ => right_ok h.1⟩
  · refine ⟨false, Ev.ite (fun h1 => Ev.ite (fun h2 => Ev.bind (rright_ev l win hl hw) (Ev.val ?_)) fun _ => Ev.now _) fun _ => Ev.now _, fun q => by cases q⟩
    exact beq_eq_false_iff_ne.2 fun q => h ⟨q, h1, h2⟩
end Go.Proofs.Yticfgecicmgpeaa.Pure
