/- The law GroupRights of the printed functions: both Rights compute the same number. Condition: lists that a machine can hold. -/
import Derived.Test.YtdklkjgcnibbgaaAx20
import Derived.Test.YtdklkjgcnibbgaaOpen
import Derived.Test.YtdklkjgcnibbgaaGPlanR
import Derived.Test.YtdklkjgcnibbgaaGPlanA
namespace Go.Proofs.Ytdklkjgcnibbgaa.Pure
open Go.RowKit Go.Proofs.Ytdklkjgcnibbgaa.A Go.Proofs.YtdklkjgcnibbgaaW.PrintWords Go.Proofs.YtdklkjgcnibbgaaW.PrintLast
set_option linter.unusedVariables false
theorem few_f (a b : List Int) (c : List S45) : ∃ x, skiarealaw24_few.f a b c = some x := by
  unfold skiarealaw24_few.f
  split
  · split
    · exact ⟨_, rfl⟩
    · exact ⟨_, rfl⟩
  · exact ⟨_, rfl⟩
theorem GroupRights : ∀ (l0_0 : List Int) (l0_1 : List Int) (l0_2 : List S45), GoodL (fun x => InI64 x) l0_0 → GoodL (fun x => InI64 x) l0_1 → GoodL (fun x => good45 x) l0_2 → ∃ k, skiarealaw24_GroupRights.f k l0_0 l0_1 l0_2 = some true := by
  intro a b l ha hb hl
  obtain ⟨x, hx⟩ := few_f a b l
  refine Ev.rounds (Ev.bind alive_ev (Ev.yes rfl (Ev.bind (Ev.is hx) (Ev.ite (fun _ => Ev.bind (gright_ev a b l ha.1 hl.1) (Ev.bind (grright_ev a b l ha.1 hl.1) ?_)) fun _ => Ev.now _))))
  rw [beq_self_eq_true]
  exact Ev.now _
end Go.Proofs.Ytdklkjgcnibbgaa.Pure
