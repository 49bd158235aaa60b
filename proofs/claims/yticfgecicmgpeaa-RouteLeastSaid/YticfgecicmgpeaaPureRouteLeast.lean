/- The law RouteLeast of the printed functions: the best plan is valid and no valid plan ends earlier. Condition: lists that a machine can hold. -/
import Derived.Test.YticfgecicmgpeaaAx50
import Derived.Test.YticfgecicmgpeaaPlanL
namespace Go.Proofs.Yticfgecicmgpeaa.Pure
open Go.RowKit Go.Proofs.Yticfgecicmgpeaa.A Go.Proofs.YticfgecicmgpeaaW.PrintWords Go.Proofs.YticfgecicmgpeaaW.PrintLast
set_option linter.unusedVariables false
theorem RouteLeast : ∀ (l0 : List S34) (l1 : List Bool) (l2 : List S37), GoodL (fun x => good34 x) l0 → GoodL (fun x => True) l1 → GoodL (fun x => good37 x) l2 → ∃ k, skiarealaw47_RouteLeast.f k l0 l1 l2 = some true := by
  intro l win pl hl hw hp
  have hj : ∀ x, (x = true ∨ OKL l win) → Ev (fun k => skiarealaw47_RouteLeast.j0 k l win pl x) true := by
    intro x hx
    refine Ev.step (fun k => by rw [skiarealaw47_RouteLeast.j0]) (Ev.ite (fun _ => Ev.now _) fun h => ?_)
    have ok := hx.resolve_left h
    have hF := (best_spec ok).1
    refine Ev.bind (Ev.is (best_f ok)) (Ev.bind (Ev.is (least_f ok)) (Ev.bind (valid_ev ok (by have := hF.vp.1; have := ok.len; omega)) (Ev.yes (best_valid ok) (Ev.bind (a := endV (bestV l win)) (Ev.now _) (Ev.yes rfl (Ev.bind (valid_ev ok hp.1) (Ev.ite (fun hv => Ev.bind (a := endV pl) (Ev.now _) (Ev.val ?_)) fun _ => Ev.now _)))))))
    have := (best_spec ok).2 pl ((rval_iff ok (good_end hp)).1 hv)
    exact decide_eq_true this
  refine Ev.rounds (Ev.bind (a := true) (Ev.now _) (Ev.yes rfl (Ev.ite (fun _ => hj _ (.inl rfl)) fun _ => Ev.ite (fun _ => hj _ (.inl rfl)) fun _ => Ev.bind (right_ev l win hl.1 hw.1) (Ev.ite (fun h => hj _ (.inr (right_ok h))) fun _ => hj _ (.inl rfl)))))
end Go.Proofs.Yticfgecicmgpeaa.Pure
