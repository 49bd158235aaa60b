/- The plain law of BulletinRights: both compute rightV. -/
import Derived.Test.YtibmbffhlicpaaaAx12
import Derived.Test.YtibmbffhlicpaaaM1
namespace Go.Proofs.Ytibmbffhlicpaaa.Pure
open Go.RowKit Go.Proofs.Ytibmbffhlicpaaa.A Go.Proofs.YtibmbffhlicpaaaW.PrintWords Go.Proofs.YtibmbffhlicpaaaW.PrintLast
theorem BulletinRights : ∀ (l0 : List S31), GoodL (fun x => good31 x) l0 → ∃ k, skiarealaw49_BulletinRights.f k l0 = some true := by
  intro l _
  obtain ⟨b, hb, hb2⟩ := few_ev l
  refine Ev.rounds (Ev.bind alive_ev (Ev.yes rfl (Ev.bind hb ?_)))
  cases b with
  | false => exact Ev.no (by decide) (Ev.now _)
  | true =>
    have hf := few_z (hb2.1 rfl)
    exact Ev.yes rfl (Ev.bind (right_ev l hf) (Ev.bind (rightR_ev l hf) (Ev.val (by simp))))
end Go.Proofs.Ytibmbffhlicpaaa.Pure
