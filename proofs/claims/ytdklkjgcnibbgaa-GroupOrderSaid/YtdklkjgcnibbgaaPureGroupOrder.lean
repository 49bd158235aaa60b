/- The law GroupOrder of the printed functions: the order of the persons and of the offers does not matter for the cost and the number of bundles. Condition: lists that a machine can hold. -/
import Derived.Test.YtdklkjgcnibbgaaAx35
import Derived.Test.YtdklkjgcnibbgaaOpen
import Derived.Test.YtdklkjgcnibbgaaGPa
import Derived.Test.YtdklkjgcnibbgaaGPc
namespace Go.Proofs.Ytdklkjgcnibbgaa.Pure
open Go.RowKit Go.Proofs.Ytdklkjgcnibbgaa.A Go.Proofs.YtdklkjgcnibbgaaW.PrintWords Go.Proofs.YtdklkjgcnibbgaaW.PrintLast
set_option linter.unusedVariables false
theorem rd_rev {xs : List Int} {q : Nat} (h : q < xs.length) : rd xs.reverse q = rd xs (xs.length - 1 - q : Nat) := by
  rw [rd_get (by rw [List.length_reverse]; exact h), rd_get (show xs.length - 1 - q < xs.length by omega), List.getElem_reverse]
theorem drop_rev {α : Type} {xs : List α} {j : Nat} (h : j < xs.length) : (xs.drop (j + 1)).reverse ++ [xs[j]] = (xs.drop j).reverse := by
  rw [List.drop_eq_getElem_cons h, List.reverse_cons]
theorem order_l1 {a b : List Int} {l : List S45} (h8 : l.length ≤ 8) {A B : List Int} (fin : Ev (fun k => skiarealaw24_GroupOrder.l1 k (-1) a b l A B l.reverse) true) : ∀ j : Nat, j ≤ l.length → Ev (fun k => skiarealaw24_GroupOrder.l1 k ((j : Int) - 1) a b l A B (l.drop j).reverse) true
  | 0, hj => by
    rw [List.drop_zero]
    exact fin
  | j + 1, hj => by
    have ih := order_l1 h8 fin j (by omega)
    have hjl : j < l.length := by omega
    have e : (((j + 1 : Nat) : Int) - 1) = (j : Int) := by omega
    have HN := Aside0.mk (show wrap64 ((j : Int) - 1) = (j : Int) - 1 from wrap_id (by omega))
    have g0 : (j : Int) ≥ 0 := Int.natCast_nonneg j
    have g1 : (0 : Int) ≤ j := Int.natCast_nonneg j
    have g2 : (j : Int) < l.length := Int.ofNat_lt.2 hjl
    have g3 : (l.drop (j + 1)).reverse.length < 4398046511104 := by rw [List.length_reverse, List.length_drop]; omega
    have g4 : (⟨(rd_T45 l j).f0, (rd_T45 l j).f1, (rd_T45 l j).f2, (rd_T45 l j).f3⟩ : S45) = l[j] := rd45_get hjl
    rw [e]
    rw [← drop_rev hjl] at ih
    exact Ev.step (fun k => by rw [skiarealaw24_GroupOrder.l1, if_pos g0, if_pos g1, if_pos g2, if_pos g3, HN.out, g4]) ih
theorem order_l0 {a b : List Int} {l : List S45} (h8 : a.length ≤ 8) (hs : a.length = b.length) (fin : Ev (fun k => skiarealaw24_GroupOrder.l1 k (wrap64 ((l.length : Int) - 1)) a b l a.reverse b.reverse []) true) : ∀ j : Nat, j ≤ a.length → Ev (fun k => skiarealaw24_GroupOrder.l0 k ((j : Int) - 1) a b l (a.drop j).reverse (b.drop j).reverse) true
  | 0, hj => by
    rw [List.drop_zero, List.drop_zero]
    exact Ev.step (fun k => by rw [skiarealaw24_GroupOrder.l0, if_neg (by decide)]) fin
  | j + 1, hj => by
    have ih := order_l0 h8 hs fin j (by omega)
    have hjl : j < a.length := by omega
    have hjb : j < b.length := by omega
    have e : (((j + 1 : Nat) : Int) - 1) = (j : Int) := by omega
    have HN := Aside0.mk (show wrap64 ((j : Int) - 1) = (j : Int) - 1 from wrap_id (by omega))
    have g0 : (j : Int) ≥ 0 := Int.natCast_nonneg j
    have g1 : (0 : Int) ≤ j := Int.natCast_nonneg j
    have g2 : (j : Int) < a.length := Int.ofNat_lt.2 hjl
    have g3 : (a.drop (j + 1)).reverse.length < 17592186044416 := by rw [List.length_reverse, List.length_drop]; omega
    have g4 : (j : Int) < b.length := Int.ofNat_lt.2 hjb
    have g5 : (b.drop (j + 1)).reverse.length < 17592186044416 := by rw [List.length_reverse, List.length_drop]; omega
    rw [e]
    rw [← drop_rev hjl, ← drop_rev hjb, ← rd_get hjl, ← rd_get hjb] at ih
    exact Ev.step (fun k => by rw [skiarealaw24_GroupOrder.l0, if_pos g0, if_pos g1, if_pos g2, if_pos g3, if_pos g4, if_pos g5, HN.out]) ih
theorem GroupOrder : ∀ (l0_0 : List Int) (l0_1 : List Int) (l0_2 : List S45), GoodL (fun x => InI64 x) l0_0 → GoodL (fun x => InI64 x) l0_1 → GoodL (fun x => good45 x) l0_2 → ∃ k, skiarealaw24_GroupOrder.f k l0_0 l0_1 l0_2 = some true := by
  intro a b l ha hb hl
  refine Ev.rounds (Ev.bind alive_ev (Ev.yes rfl (Ev.bind (right_ev a b l ha.1 hl.1) (Ev.ite (fun h => ?_) fun _ => Ev.now _))))
  have hr := beq_iff_eq.1 h
  have ok := right_okg hr
  have hA := right_ages hr
  have h8 := ok.len
  have ho8 := ok.olen
  have hs := ok.same
  have ra : ∀ q, q < a.length → rd a.reverse q = rd a (a.length - 1 - q : Nat) := fun q hq => rd_rev hq
  have rb : ∀ q, q < a.length → rd b.reverse q = rd b (a.length - 1 - q : Nat) := fun q hq => by rw [rd_rev (by omega), hs]
  have ok2 : OKG a.reverse b.reverse l.reverse := ⟨by rw [List.length_reverse]; exact h8, by rw [List.length_reverse]; exact ho8, by rw [List.length_reverse, List.length_reverse]; exact hs, fun j hj => by
    rw [List.length_reverse] at hj
    rw [rb j hj]; exact ok.pr _ (by omega), fun o ho => ok.off o (List.mem_reverse.1 ho), List.pairwise_reverse.2 (ok.dist.imp fun h => Ne.symm h)⟩
  have hr2 := right_of ok2 fun j hj => by
    rw [List.length_reverse] at hj
    rw [ra j hj]; exact hA _ (by omega)
  obtain ⟨L, c, hE, O⟩ := best_out hr
  obtain ⟨L2, c2, hE2, O2⟩ := best_out hr2
  have hn : a.reverse.length = a.length := List.length_reverse
  have D1 := O.best.1.rev hn ra rb (fun o ho => List.mem_reverse.2 ho)
  have D2 := O2.best.1.rev (ages := a.reverse) (prices := b.reverse) (ages' := a) (prices' := b) hn.symm (fun q hq => by
    rw [hn] at hq ⊢
    rw [ra _ (by omega), show a.length - 1 - (a.length - 1 - q) = q by omega]) (fun q hq => by
    rw [hn] at hq ⊢
    rw [rb _ (by omega), show a.length - 1 - (a.length - 1 - q) = q by omega]) (fun o ho => List.mem_reverse.1 ho)
  have h1 := O2.best.2 _ _ D1
  have h2 := O.best.2 _ _ D2
  obtain ⟨e1, e2⟩ : c = c2 ∧ L.length = L2.length := by omega
  have fin1 : Ev (fun k => skiarealaw24_GroupOrder.l1 k (-1) a b l a.reverse b.reverse l.reverse) true := by
    refine Ev.step (fun k => by rw [skiarealaw24_GroupOrder.l1, if_neg (by decide)]) (Ev.bind (law_best_ev hE) (Ev.bind (law_best_ev hE2) (Ev.yes rfl (Ev.yes rfl (Ev.yes e1 ?_)))))
    show Ev (fun _ => some ((L.length : Int) == (L2.length : Int))) true
    rw [e2, beq_self_eq_true]
    exact Ev.now _
  have fin0 : Ev (fun k => skiarealaw24_GroupOrder.l1 k (wrap64 ((l.length : Int) - 1)) a b l a.reverse b.reverse []) true := by
    have := order_l1 ho8 fin1 l.length (Nat.le_refl _)
    rw [List.drop_length] at this
    rw [wrap_id (by omega)]
    exact this
  have := order_l0 h8 hs fin0 a.length (Nat.le_refl _)
  rw [List.drop_length, show b.drop a.length = [] by rw [hs]; exact List.drop_length] at this
  rw [wrap_id (by omega)]
  exact this
end Go.Proofs.Ytdklkjgcnibbgaa.Pure
