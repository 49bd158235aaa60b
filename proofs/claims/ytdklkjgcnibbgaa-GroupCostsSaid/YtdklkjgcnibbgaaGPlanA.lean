/- The laws' own examples hold. No condition. -/
import Derived.Test.YtdklkjgcnibbgaaAx16
namespace Go.Proofs.Ytdklkjgcnibbgaa.Pure
open Go.RowKit Go.Proofs.Ytdklkjgcnibbgaa.A Go.Proofs.YtdklkjgcnibbgaaW.PrintWords Go.Proofs.YtdklkjgcnibbgaaW.PrintLast Go.Proofs.YtdklkjgcnibbgaaW.PrintMore
theorem alive_k : skiarealaw24_alive.f 400 = some true := by decide +kernel
theorem alive_ev : Ev (fun k => skiarealaw24_alive.f k) true := Ev.of skiarealaw24_alive.mono alive_k
end Go.Proofs.Ytdklkjgcnibbgaa.Pure
