/- The plain law of BulletinIssues: both compute issueV. -/
import Derived.Test.YtibmbffhlicpaaaAx15
import Derived.Test.YtibmbffhlicpaaaM3
namespace Go.Proofs.Ytibmbffhlicpaaa.Pure
open Go.RowKit Go.Proofs.Ytibmbffhlicpaaa.A Go.Proofs.YtibmbffhlicpaaaW.PrintWords Go.Proofs.YtibmbffhlicpaaaW.PrintLast
theorem BulletinIssues : ∀ (l0 : List S31) (a1_0 : Int) (a1_1 : Int) (a1_2 : Int) (a1_3 : Int) (a1_4 : Int) (l1_5 : List Int) (a1_6 : Int), GoodL (fun x => good31 x) l0 → InI64 a1_0 → InI64 a1_1 → InI64 a1_2 → InI64 a1_3 → InI64 a1_4 → GoodL (fun x => InI64 x) l1_5 → InI64 a1_6 → ∃ k, skiarealaw49_BulletinIssues.f k l0 a1_0 a1_1 a1_2 a1_3 a1_4 l1_5 a1_6 = some true := by
  intro l a0 a1 a2 a3 a4 l5 a6 _ _ _ _ _ _ _ _
  obtain ⟨b, hb, hb2⟩ := rightL_ev l
  have hj : ∀ c : Bool, (c = false → RightP l ∧ l5.length ≤ 100) → Ev (fun k => skiarealaw49_BulletinIssues.j0 k l c a0 a1 a2 a3 a4 l5 a6) true := fun c hc => by
    cases c with
    | true => exact Ev.step (fun k => by rw [skiarealaw49_BulletinIssues.j0, if_pos rfl]) (Ev.now _)
    | false =>
      obtain ⟨hr, h5⟩ := hc rfl
      refine Ev.step (fun k => by rw [skiarealaw49_BulletinIssues.j0, if_neg (by decide)]) ?_
      exact Ev.bind (issue_ev l ⟨a0, ⟨a1, a2⟩, a3, a4, l5, a6⟩ hr.1 h5) (Ev.bind (issueR_ev l ⟨a0, ⟨a1, a2⟩, a3, a4, l5, a6⟩ hr.1 h5) (Ev.bind (issue_same l ⟨a0, ⟨a1, a2⟩, a3, a4, l5, a6⟩ hr.1 h5) (Ev.yes rfl (Ev.val (by simp)))))
  refine Ev.rounds (Ev.bind alive_ev (Ev.yes rfl (Ev.bind hb (Ev.ite (fun h => hj _ (fun hc => ⟨hb2.1 h, ?_⟩)) (fun h => hj _ (fun hc => by cases hc))))))
  have := of_decide_eq_false hc
  omega
end Go.Proofs.Ytibmbffhlicpaaa.Pure
