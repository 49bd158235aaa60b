/- The plain law of BulletinLatest: the walk has shown it. -/
import Derived.Test.YtibmbffhlicpaaaX6
import Derived.Test.YtibmbffhlicpaaaOpen
namespace Go.Proofs.Ytibmbffhlicpaaa.Pure
open Go.RowKit Go.Proofs.Ytibmbffhlicpaaa.A Go.Proofs.YtibmbffhlicpaaaW.PrintWords Go.Proofs.YtibmbffhlicpaaaW.PrintLast
theorem BulletinLatest : ∀ (l0 : List S31) (a1_0 : Int) (a1_1 : Int) (a1_2 : Int) (a1_3 : Int) (a2 : Int), GoodL (fun x => good31 x) l0 → InI64 a1_0 → InI64 a1_1 → InI64 a1_2 → InI64 a1_3 → InI64 a2 → ownLatest.f l0 a1_0 a1_1 a1_2 a1_3 a2 = some true := by
  intros; rfl
end Go.Proofs.Ytibmbffhlicpaaa.Pure
