/- The law GroupCosts of the printed functions: both Costs compute the same. Condition: lists that a machine can hold. -/
import Derived.Test.YtdklkjgcnibbgaaAx26
import Derived.Test.YtdklkjgcnibbgaaGPlanA
import Derived.Test.YtdklkjgcnibbgaaGPlanW
import Derived.Test.YtdklkjgcnibbgaaGPlanD
namespace Go.Proofs.Ytdklkjgcnibbgaa.Pure
open Go.RowKit Go.Proofs.Ytdklkjgcnibbgaa.A Go.Proofs.YtdklkjgcnibbgaaW.PrintWords Go.Proofs.YtdklkjgcnibbgaaW.PrintLast
set_option linter.unusedVariables false
theorem short_l0 (L : List S43) (hL : L.length ≤ 9223372036854775807) : ∀ (d j : Nat), L.length - j = d → j ≤ L.length → ∃ b, Ev (fun k => skiarealaw24_short.l0 k L j) b
  | 0, j, hd, hj => by
    obtain rfl : j = L.length := by omega
    exact ⟨true, Ev.step (fun k => by rw [skiarealaw24_short.l0, if_neg (by omega)]) (Ev.now _)⟩
  | d + 1, j, hd, hj => by
    obtain ⟨b, ih⟩ := short_l0 L hL d (j + 1) (by omega) (by omega)
    by_cases h : ((rd_T43 L j).f1.length : Int) > 20
    · exact ⟨false, Ev.step (fun k => by rw [skiarealaw24_short.l0, if_pos (by omega), if_pos (by omega), if_pos h]) (Ev.now _)⟩
    · exact ⟨b, Ev.step (fun k => by rw [skiarealaw24_short.l0, if_pos (by omega), if_pos (by omega), if_neg h, wS j _ hL (by omega)]) ih⟩
theorem short_ev (L : List S43) (hL : L.length ≤ 9223372036854775807) : ∃ b, Ev (fun k => skiarealaw24_short.f k L) b := by
  obtain ⟨b, h⟩ := short_l0 L hL L.length 0 (by omega) (by omega)
  by_cases h2 : (L.length : Int) > 20
  · exact ⟨false, Ev.yes h2 (Ev.now _)⟩
  · exact ⟨b, Ev.no h2 h⟩
theorem GroupCosts : ∀ (l0_0 : List Int) (l0_1 : List Int) (l0_2 : List S45) (l1 : List S43), GoodL (fun x => InI64 x) l0_0 → GoodL (fun x => InI64 x) l0_1 → GoodL (fun x => good45 x) l0_2 → GoodL (fun x => good43 x) l1 → ∃ k, skiarealaw24_GroupCosts.f k l0_0 l0_1 l0_2 l1 = some true := by
  intro a b l L ha hb hl hL
  obtain ⟨s, hs⟩ := short_ev L hL.1
  have hj : ∀ x, (x = true ∨ OKG a b l) → Ev (fun k => skiarealaw24_GroupCosts.j0 k L x a b l) true := by
    intro x hx
    refine Ev.step (fun k => by rw [skiarealaw24_GroupCosts.j0]) (Ev.ite (fun _ => Ev.now _) fun h => ?_)
    have ok := hx.resolve_left h
    obtain ⟨r, h1, h2⟩ := cost_both a b l L (by have := ok.len; omega) ok.same hl.1 hL.1 (fun z hz => (hL.2 z hz).2.1)
    refine Ev.bind (Ev.bind h1 (Ev.now _)) (Ev.bind h2 (Ev.yes rfl ?_))
    rw [beq_self_eq_true]
    exact Ev.now _
  refine Ev.rounds (Ev.bind alive_ev (Ev.yes rfl (Ev.bind (right_ev a b l ha.1 hl.1) (Ev.ite (fun h => Ev.bind hs (hj _ (.inr (right_okg (beq_iff_eq.1 h))))) fun h => hj _ (.inl rfl)))))
end Go.Proofs.Ytdklkjgcnibbgaa.Pure
