/- The plain law of BulletinLevels: both compute curV, grV. -/
import Derived.Test.YtibmbffhlicpaaaAx6
import Derived.Test.YtibmbffhlicpaaaAx19
import Derived.Test.YtibmbffhlicpaaaM2
namespace Go.Proofs.Ytibmbffhlicpaaa.Pure
open Go.RowKit Go.Proofs.Ytibmbffhlicpaaa.A Go.Proofs.YtibmbffhlicpaaaW.PrintWords Go.Proofs.YtibmbffhlicpaaaW.PrintLast
theorem BulletinLevels : ∀ (l0 : List S31) (a1_0 : Int) (a1_1 : Int) (a1_2 : Int) (a1_3 : Int), GoodL (fun x => good31 x) l0 → InI64 a1_0 → InI64 a1_1 → InI64 a1_2 → InI64 a1_3 → ∃ k, skiarealaw49_BulletinLevels.f k l0 a1_0 a1_1 a1_2 a1_3 = some true := by
  intro l z lo hi t _ _ _ _ _
  obtain ⟨b, hb, hb2⟩ := rightL_ev l
  refine Ev.rounds (Ev.bind alive_ev (Ev.yes rfl (Ev.bind hb ?_)))
  cases b with
  | false => exact Ev.no (by decide) (Ev.now _)
  | true =>
    have hr := hb2.1 rfl
    have hl := right_len hr
    have hz := few_z hr.1
    refine Ev.yes rfl (Ev.bind (cur_ev l t hl) (Ev.bind (curR_ev l t hl) (Ev.yes rfl (Ev.bind (Ev.val (level_f l z lo hi t |> Option.some.inj)) (Ev.bind (lvlR_ev l z lo hi t hl hz) (Ev.yes rfl ?_))))))
    exact Ev.bind (Ev.now (grV allB l t)) (Ev.bind (worR_ev l t hl) (Ev.val (by simp)))
end Go.Proofs.Ytibmbffhlicpaaa.Pure
