/- The law GroupOffers of the printed functions: with a further offer the cost is not greater, without offers it is the sum of the prices. Condition: lists that a machine can hold. -/
import Derived.Test.YtdklkjgcnibbgaaAx33
import Derived.Test.YtdklkjgcnibbgaaOpen
import Derived.Test.YtdklkjgcnibbgaaGPa
import Derived.Test.YtdklkjgcnibbgaaGPc
namespace Go.Proofs.Ytdklkjgcnibbgaa.Pure
open Go.RowKit Go.Proofs.Ytdklkjgcnibbgaa.A Go.Proofs.YtdklkjgcnibbgaaW.PrintWords Go.Proofs.YtdklkjgcnibbgaaW.PrintLast
set_option linter.unusedVariables false
theorem cn_every (n : Nat) : cn n (fun _ => true) = n := by
  induction n with
  | zero => rfl
  | succ n ih => rw [cn_succ, ih, if_pos rfl]
theorem offers_l0 {ages prices : List Int} {l : List S45} (ok : OKG ages prices l) {n m f : Int} {L : List S43} (hL : L.length = ages.length) (hn : n ≤ sumP prices prices.length (fun _ => true)) (hm : f = 0 → m ≤ n) : ∀ (d j : Nat), prices.length - j = d → j ≤ prices.length → Ev (fun k => skiarealaw24_GroupOffers.l0 k n 0 m f L (sumP prices prices.length (fun _ => true)) 0 (sumP prices j (fun _ => true)) j ages prices l) true
  | 0, j, hd, hj => by
    obtain rfl : j = prices.length := by omega
    have g : (L.length : Int) = (ages.length : Int) := by rw [hL]
    refine Ev.step (fun k => by rw [skiarealaw24_GroupOffers.l0, if_neg (Int.lt_irrefl _), if_pos rfl, if_pos rfl, if_pos rfl, if_pos g, if_pos hn]) (Ev.ite (fun h => ?_) fun _ => Ev.now _)
    rw [decide_eq_true (hm h)]
    exact Ev.now _
  | d + 1, j, hd, hj => by
    have h8 := ok.len
    have hs := ok.same
    have hjl : j < prices.length := by omega
    have ih := offers_l0 ok hL hn hm d (j + 1) (by omega) (by omega)
    have h1 := sumP_in ok j (by omega)
    have h2 := ok.pr j (by omega)
    have HN := Aside0.mk (wS j prices.length (by omega) hjl)
    have HW := Aside0.mk (wrap_id (x := sumP prices j (fun _ => true) + rd prices j) (by omega))
    have g0 : (0 : Int) ≤ j := Int.natCast_nonneg j
    have g1 : (j : Int) < prices.length := Int.ofNat_lt.2 hjl
    have hsum : sumP prices (j + 1) (fun _ => true) = sumP prices j (fun _ => true) + rd prices j := by rw [sumP, if_pos rfl]
    rw [hsum] at ih
    exact Ev.step (fun k => by rw [skiarealaw24_GroupOffers.l0, if_pos g1, if_pos g0, HN.out, HW.out]) ih
theorem GroupOffers : ∀ (l0_0 : List Int) (l0_1 : List Int) (l0_2 : List S45) (a1_0 : Int) (a1_1 : Int) (a1_2 : Int) (a1_3 : Int), GoodL (fun x => InI64 x) l0_0 → GoodL (fun x => InI64 x) l0_1 → GoodL (fun x => good45 x) l0_2 → InI64 a1_0 → InI64 a1_1 → InI64 a1_2 → InI64 a1_3 → ∃ k, skiarealaw24_GroupOffers.f k l0_0 l0_1 l0_2 a1_0 a1_1 a1_2 a1_3 = some true := by
  intro a b l o0 o1 o2 o3 ha hb hl _ _ _ _
  refine Ev.rounds (Ev.bind alive_ev (Ev.yes rfl (Ev.bind (right_ev a b l ha.1 hl.1) (Ev.ite (fun h => ?_) fun _ => Ev.now _))))
  have hr := beq_iff_eq.1 h
  have ok := right_okg hr
  have h8 := ok.olen
  obtain ⟨L, c, hE, O⟩ := best_out hr
  have ok0 : OKG a b [] := ⟨ok.len, Nat.zero_le _, ok.same, ok.pr, fun o ho => (by cases ho), List.Pairwise.nil⟩
  have hr0 := right_of ok0 (right_ages hr)
  obtain ⟨L0, c0, hE0, O0⟩ := best_out hr0
  obtain ⟨e1, e2⟩ := O0.best.1.singles
  rw [cn_every] at e2
  have hsum : sumP b a.length (fun _ => true) = sumP b b.length (fun _ => true) := by rw [ok.same]
  rw [hsum] at e1
  have hle := O.best.2 _ _ (Dv.all_singles (ages := a) (prices := b) (l := l) _ _ rfl)
  rw [hsum] at hle
  have hmore : ∃ M m f, Ev (fun k => group_Best.f k a b ([(⟨o0, o1, o2, o3⟩ : S45)] ++ l)) (M, m, f) ∧ (f = 0 → m ≤ c) := by
    by_cases hr1 : rightG a b ([(⟨o0, o1, o2, o3⟩ : S45)] ++ l) = 0
    · obtain ⟨M, m, hEm, Om⟩ := best_out hr1
      refine ⟨M, m, 0, hEm, fun _ => ?_⟩
      have := Om.best.2 _ _ (O.best.1.more fun x hx => List.mem_append_right _ hx)
      omega
    · exact ⟨[], 0, _, best_err ha.1 (by rw [List.length_append, List.length_singleton]; omega) hr1, fun h => absurd h hr1⟩
  obtain ⟨M, m, f, hEm, hm⟩ := hmore
  subst e1
  refine Ev.yes (by decide) (Ev.bind (Ev.now _) (Ev.yes (by rw [List.length_append, List.length_singleton, List.length_nil]; omega) (Ev.bind (law_best_ev hE) (Ev.bind (law_best_ev hEm) (Ev.bind hE0 ?_)))))
  exact offers_l0 ok e2 (by omega) hm b.length 0 (by omega) (Nat.zero_le _)
end Go.Proofs.Ytdklkjgcnibbgaa.Pure
