/- The law RouteFinds of the printed functions: the best plan is the reference's, in the order of the tasks. Condition: lists that a machine can hold. -/
import Derived.Test.YticfgecicmgpeaaAx49
import Derived.Test.YticfgecicmgpeaaPlanC
import Derived.Test.YticfgecicmgpeaaPlanL
import Derived.Test.YticfgecicmgpeaaPlanW
namespace Go.Proofs.Yticfgecicmgpeaa.Pure
open Go.RowKit Go.Proofs.Yticfgecicmgpeaa.A Go.Proofs.YticfgecicmgpeaaW.PrintWords Go.Proofs.YticfgecicmgpeaaW.PrintLast
set_option linter.unusedVariables false
theorem RouteFinds : ∀ (l0 : List S34) (l1 : List Bool), GoodL (fun x => good34 x) l0 → GoodL (fun x => True) l1 → ∃ k, skiarealaw47_RouteFinds.f k l0 l1 = some true := by
  intro l win hl hw
  obtain ⟨b, hb, hok⟩ := accepted_ev l win hl.1 hw.1
  refine Ev.rounds (Ev.bind (a := true) (Ev.now _) (Ev.yes rfl (Ev.bind hb (Ev.ite (fun h => ?_) fun h => Ev.now _))))
  have ok := hok h
  have hF := (best_spec ok).1
  have hlen := hF.vp.1
  have hl6 := ok.len
  have hl0 : ∀ (d j : Nat), l.length - j = d → j ≤ l.length → Ev (fun k => skiarealaw47_RouteFinds.l0 k l (bestV l win) j) true := by
    intro d
    induction d with
    | zero =>
      intro j hd hj
      exact Ev.step (fun k => by rw [skiarealaw47_RouteFinds.l0, if_neg (by omega)]) (Ev.now _)
    | succ d ih =>
      intro j hd hj
      have hw1 : wrap64 ((j : Int) + 1) = ((j + 1 : Nat) : Int) := wS j l.length (by omega) (by omega)
      exact Ev.step (fun k => by rw [skiarealaw47_RouteFinds.l0, if_pos (by omega), if_pos (by omega), if_pos (by omega), if_pos (hF.idx j (by omega)), hw1]) (ih (j + 1) (by omega) (by omega))
  refine Ev.bind (Ev.is (best_f ok)) (Ev.bind (a := rvalV l win (bestV l win)) (Ev.now _) (Ev.yes (best_valid ok) (Ev.bind (end_ev _ (by omega)) (Ev.bind (rleast_ev ok) ?_))))
  exact Ev.step (fun k => by rw [skiarealaw47_RouteFinds.j0, if_neg (by simp)]; rfl) (hl0 l.length 0 (by omega) (by omega))
end Go.Proofs.Yticfgecicmgpeaa.Pure
