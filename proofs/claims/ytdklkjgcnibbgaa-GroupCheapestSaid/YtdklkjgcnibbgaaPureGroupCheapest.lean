/- The law GroupCheapest of the printed functions: no valid bundles cost less than Best's, and none of the same cost are fewer. Condition: lists that a machine can hold. -/
import Derived.Test.YtdklkjgcnibbgaaAx32
import Derived.Test.YtdklkjgcnibbgaaOpen
import Derived.Test.YtdklkjgcnibbgaaGPa
import Derived.Test.YtdklkjgcnibbgaaGPc
namespace Go.Proofs.Ytdklkjgcnibbgaa.Pure
open Go.RowKit Go.Proofs.Ytdklkjgcnibbgaa.A Go.Proofs.YtdklkjgcnibbgaaW.PrintWords Go.Proofs.YtdklkjgcnibbgaaW.PrintLast
set_option linter.unusedVariables false
theorem short_l0 (L : List S43) (hL : L.length ≤ 9223372036854775807) : ∀ (d j : Nat), L.length - j = d → j ≤ L.length → ∃ b, Ev (fun k => skiarealaw24_short.l0 k L j) b
  | 0, j, hd, hj => by
    obtain rfl : j = L.length := by omega
    exact ⟨true, Ev.step (fun k => by rw [skiarealaw24_short.l0, if_neg (by omega)]) (Ev.now _)⟩
  | d + 1, j, hd, hj => by
    obtain ⟨b, ih⟩ := short_l0 L hL d (j + 1) (by omega) (by omega)
    by_cases h : ((rd_T43 L j).f1.length : Int) > 20
    · exact ⟨false, Ev.step (fun k => by rw [skiarealaw24_short.l0, if_pos (by omega), if_pos (by omega), if_pos h]) (Ev.now _)⟩
    · exact ⟨b, Ev.step (fun k => by rw [skiarealaw24_short.l0, if_pos (by omega), if_pos (by omega), if_neg h, wS j _ hL (by omega)]) ih⟩
theorem short_ev (L : List S43) (hL : L.length ≤ 9223372036854775807) : ∃ b, Ev (fun k => skiarealaw24_short.f k L) b ∧ (b = true → L.length ≤ 20) := by
  obtain ⟨b, h⟩ := short_l0 L hL L.length 0 (by omega) (by omega)
  by_cases h2 : (L.length : Int) > 20
  · exact ⟨false, Ev.yes h2 (Ev.now _), fun h => (by cases h)⟩
  · exact ⟨b, Ev.no h2 h, fun _ => by omega⟩
theorem GroupCheapest : ∀ (l0_0 : List Int) (l0_1 : List Int) (l0_2 : List S45) (l1 : List S43), GoodL (fun x => InI64 x) l0_0 → GoodL (fun x => InI64 x) l0_1 → GoodL (fun x => good45 x) l0_2 → GoodL (fun x => good43 x) l1 → ∃ k, skiarealaw24_GroupCheapest.f k l0_0 l0_1 l0_2 l1 = some true := by
  intro a b l M ha hb hl hM
  obtain ⟨s, hs, hs20⟩ := short_ev M hM.1
  have hj : ∀ x : Bool, x = true ∨ (rightG a b l = 0 ∧ M.length ≤ 20) → Ev (fun k => skiarealaw24_GroupCheapest.j0 k M x a b l) true := by
    intro x hx
    refine Ev.step (fun k => by rw [skiarealaw24_GroupCheapest.j0]) (Ev.ite (fun _ => Ev.now _) fun h => ?_)
    obtain ⟨hr, h20⟩ := hx.resolve_left h
    have ok := right_okg hr
    obtain ⟨L, c, hE, O⟩ := best_out hr
    have hC := (cost_two a b l L (by have := ok.len; omega) ok.same hl.1 (by have := O.len; omega) (fun z hz => by have := O.small z hz; omega)).1
    rw [O.cost] at hC
    have hC2 : Ev (fun k => skiarealaw24_cost.f k a b l L) (c, true) := Ev.bind hC (Ev.now _)
    have hM2 := (cost_two a b l M (by have := ok.len; omega) ok.same hl.1 hM.1 (fun z hz => (hM.2 z hz).2.1)).2
    refine Ev.bind (law_best_ev hE) (Ev.bind hC2 (Ev.yes rfl (Ev.yes rfl (Ev.step (fun k => by rw [skiarealaw24_GroupCheapest.j1, bne_self_eq_false, if_neg (by decide)]) (Ev.bind hM2 ?_)))))
    refine Ev.ite (fun hv => ?_) fun _ => Ev.now _
    have hD := cost_dv0 (c := (costV a b l M (List.replicate a.length false) 0).1) ok h20 (Prod.ext rfl hv)
    have hle := O.best.2 _ _ hD
    refine Ev.ite (fun _ => Ev.now _) fun (h1 : ¬ (c < (costV a b l M (List.replicate a.length false) 0).1)) => Ev.ite (fun (h2 : c = (costV a b l M (List.replicate a.length false) 0).1) => ?_) fun (h2 : ¬ (c = (costV a b l M (List.replicate a.length false) 0).1)) => ?_
    · show Ev (fun _ => some (decide ((L.length : Int) ≤ (M.length : Int)))) true
      rw [decide_eq_true (show (L.length : Int) ≤ (M.length : Int) by omega)]
      exact Ev.now _
    · omega
  refine Ev.rounds (Ev.bind alive_ev (Ev.yes rfl (Ev.bind (right_ev a b l ha.1 hl.1) (Ev.ite (fun h => Ev.bind hs (hj _ ?_)) fun h => hj _ (.inl rfl)))))
  cases s with
  | true => exact .inr ⟨beq_iff_eq.1 h, hs20 rfl⟩
  | false => exact .inl rfl
end Go.Proofs.Ytdklkjgcnibbgaa.Pure
