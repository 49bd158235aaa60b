/- The plain law of BulletinIssued: the walk has shown it. -/
import Derived.Test.YtibmbffhlicpaaaX8
import Derived.Test.YtibmbffhlicpaaaOpen
namespace Go.Proofs.Ytibmbffhlicpaaa.Pure
open Go.RowKit Go.Proofs.Ytibmbffhlicpaaa.A Go.Proofs.YtibmbffhlicpaaaW.PrintWords Go.Proofs.YtibmbffhlicpaaaW.PrintLast
theorem BulletinIssued : ∀ (l0 : List S31) (a1_0 : Int) (a1_1 : Int) (a1_2 : Int) (a1_3 : Int) (a1_4 : Int) (l1_5 : List Int) (a1_6 : Int) (a2_0 : Int) (a2_1 : Int) (a2_2 : Int) (a2_3 : Int), GoodL (fun x => good31 x) l0 → InI64 a1_0 → InI64 a1_1 → InI64 a1_2 → InI64 a1_3 → InI64 a1_4 → GoodL (fun x => InI64 x) l1_5 → InI64 a1_6 → InI64 a2_0 → InI64 a2_1 → InI64 a2_2 → InI64 a2_3 → ownIssued.f l0 a1_0 a1_1 a1_2 a1_3 a1_4 l1_5 a1_6 a2_0 a2_1 a2_2 a2_3 = some true := by
  intros; rfl
end Go.Proofs.Ytibmbffhlicpaaa.Pure
