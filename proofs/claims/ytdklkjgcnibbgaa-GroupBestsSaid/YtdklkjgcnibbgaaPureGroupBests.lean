/- The law GroupBests of the printed functions: Best's bundles are valid, cost what the reference's least cost is and are as few as can be, in order; the savings agree. Condition: lists that a machine can hold. -/
import Derived.Test.YtdklkjgcnibbgaaAx31
import Derived.Test.YtdklkjgcnibbgaaOpen
import Derived.Test.YtdklkjgcnibbgaaGPa
import Derived.Test.YtdklkjgcnibbgaaGPc
import Derived.Test.YtdklkjgcnibbgaaGPd
namespace Go.Proofs.Ytdklkjgcnibbgaa.Pure
open Go.RowKit Go.Proofs.Ytdklkjgcnibbgaa.A Go.Proofs.YtdklkjgcnibbgaaW.PrintWords Go.Proofs.YtdklkjgcnibbgaaW.PrintLast
set_option linter.unusedVariables false
theorem few_f (a b : List Int) (c : List S45) : ∃ x, skiarealaw24_few.f a b c = some x := by
  unfold skiarealaw24_few.f
  split
  · split
    · exact ⟨_, rfl⟩
    · exact ⟨_, rfl⟩
  · exact ⟨_, rfl⟩
theorem bests_l0 {ages prices : List Int} {l : List S45} {L : List S43} {c : Int} (h : BestOut ages prices l L c) : ∀ (d j : Nat), L.length - j = d → 1 ≤ j → Ev (fun k => skiarealaw24_GroupBests.l0 k L c c L.length c true j) true
  | 0, j, hd, hj => by
    have h8 := h.len
    have hn : ¬ ((j : Int) < (L.length : Int)) := by omega
    refine Ev.step (fun k => by rw [skiarealaw24_GroupBests.l0, if_pos rfl, decide_eq_false hn]) (Ev.step (fun k => by rw [skiarealaw24_GroupBests.j2, if_neg (by decide), if_pos rfl, if_pos rfl, if_pos rfl]) ?_)
    rw [beq_self_eq_true]
    exact Ev.now _
  | d + 1, j, hd, hj => by
    have h8 := h.len
    have hjl : j < L.length := by omega
    have ih := bests_l0 h d (j + 1) (by omega) (by omega)
    obtain ⟨i, rfl⟩ : ∃ i, j = i + 1 := ⟨j - 1, by omega⟩
    have hil : i < L.length := by omega
    have e1 : rd_T43 L ((i + 1 : Nat) : Int) = L[i + 1] := rd43_get hjl
    have e2 : rd_T43 L (i : Int) = L[i] := rd43_get hil
    have p1 := h.pos (i + 1) hjl
    have p2 := h.pos i hil
    have p3 := h.asc i hjl
    have HM := Aside0.mk (show wrap64 (((i + 1 : Nat) : Int) - 1) = (i : Int) by rw [wrap_id (by omega)]; omega)
    have HN := Aside0.mk (wS (i + 1) L.length (by omega) hjl)
    have g0 : (0 : Int) ≤ ((i + 1 : Nat) : Int) := Int.natCast_nonneg _
    have g1 : ((i + 1 : Nat) : Int) < (L.length : Int) := Int.ofNat_lt.2 hjl
    have g2 : (0 : Int) ≤ (i : Int) := Int.natCast_nonneg _
    have g3 : (i : Int) < (L.length : Int) := Int.ofNat_lt.2 hil
    have g4 : (0 : Int) < (L[i + 1].f1.length : Int) := Int.ofNat_lt.2 p1
    have g5 : (0 : Int) < (L[i].f1.length : Int) := Int.ofNat_lt.2 p2
    have g6 : ¬ (rd L[i + 1].f1 0 ≤ rd L[i].f1 0) := by omega
    exact Ev.step (fun k => by rw [skiarealaw24_GroupBests.l0, if_pos rfl, decide_eq_true g1]) (Ev.step (fun k => by rw [skiarealaw24_GroupBests.j2, if_pos rfl, if_pos g0, if_pos g1, e1, if_pos g4, HM.out, if_pos g2, if_pos g3, e2, if_pos g5, if_neg g6, HN.out]) ih)
theorem GroupBests : ∀ (l0_0 : List Int) (l0_1 : List Int) (l0_2 : List S45), GoodL (fun x => InI64 x) l0_0 → GoodL (fun x => InI64 x) l0_1 → GoodL (fun x => good45 x) l0_2 → ∃ k, skiarealaw24_GroupBests.f k l0_0 l0_1 l0_2 = some true := by
  intro a b l ha hb hl
  obtain ⟨x, hx⟩ := few_f a b l
  have hR := grright_ev a b l ha.1 hl.1
  refine Ev.rounds (Ev.bind alive_ev (Ev.yes rfl (Ev.bind (Ev.is hx) (Ev.ite (fun _ => ?_) fun _ => Ev.now _))))
  by_cases hr : rightG a b l = 0
  · have ok := right_okg hr
    obtain ⟨L, c, hE, O⟩ := best_out hr
    have hL := least_all ok O
    have hC := (cost_two a b l L (by have := ok.len; omega) ok.same hl.1 (by have := O.len; omega) (fun z hz => by have := O.small z hz; omega)).2
    rw [O.cost] at hC
    rw [hr] at hR
    have hj : Ev (fun k => skiarealaw24_GroupBests.j0 k L c 0 ((0 : Int) != 0) a b l) true := Ev.step (fun k => by rw [skiarealaw24_GroupBests.j0, if_neg (by decide), if_pos rfl]) (Ev.bind hL (Ev.bind hC (bests_l0 O (L.length - 1) 1 rfl (Nat.le_refl _))))
    exact Ev.bind (law_best_ev hE) (Ev.bind (gsaving_ev ok hE) (Ev.bind (rsaving_ev hr hL) (Ev.bind hR (Ev.yes rfl (Ev.yes rfl hj)))))
  · have hE := best_err ha.1 hl.1 hr
    have hS : Ev (fun k => group_Saving.f k a b l) (0, rightG a b l) := Ev.bind hE (Ev.no hr (Ev.now _))
    have hS2 : Ev (fun k => skiarearef24_Saving.f k a b l) (0, rightG a b l) := Ev.bind hR (Ev.no hr (Ev.now _))
    have hj : Ev (fun k => skiarealaw24_GroupBests.j0 k [] 0 (rightG a b l) (rightG a b l != rightG a b l) a b l) true := Ev.step (fun k => by rw [skiarealaw24_GroupBests.j0, bne_self_eq_false, if_neg (by decide), if_neg hr]; rfl) (Ev.now _)
    exact Ev.bind (law_best_ev hE) (Ev.bind hS (Ev.bind hS2 (Ev.bind hR (Ev.yes rfl (Ev.yes rfl hj)))))
end Go.Proofs.Ytdklkjgcnibbgaa.Pure
