/- The law RouteLess of the printed functions: with a task less or a groomer more the least end is no greater. Condition: lists that a machine can hold. -/
import Derived.Test.YticfgecicmgpeaaAx52
import Derived.Test.YticfgecicmgpeaaPlanL
namespace Go.Proofs.Yticfgecicmgpeaa.Pure
open Go.RowKit Go.Proofs.Yticfgecicmgpeaa.A Go.Proofs.YticfgecicmgpeaaW.PrintWords Go.Proofs.YticfgecicmgpeaaW.PrintLast
set_option linter.unusedVariables false
theorem RouteLess : ∀ (l0 : List S34) (l1 : List Bool) (a2 : Int) (a3 : Bool), GoodL (fun x => good34 x) l0 → GoodL (fun x => True) l1 → InU8 a2 → ∃ k, skiarealaw47_RouteLess.f k l0 l1 a2 a3 = some true := by
  intro l win a x hl hw ha
  have ha' : 0 ≤ a ∧ a ≤ 255 := ha
  have hj1 : OKL l win → Ev (fun k => skiarealaw47_RouteLess.j1 k l win a (endV (bestV l win)) false) true := by
    intro ok
    refine Ev.step (fun k => by rw [skiarealaw47_RouteLess.j1]) (Ev.no (by decide) (Ev.ite (fun h => Ev.val ?_) fun h => ?_))
    · have : bestV l win = [] := if_pos (by omega)
      rw [this]; rfl
    · have hpos : 0 < l.length := by omega
      have hl6 := ok.len
      rw [wrap_id (x := a) (by omega)]
      have hm0 : 0 ≤ Int.tmod a l.length := Int.tmod_nonneg _ ha'.1
      have hm1 : Int.tmod a l.length < l.length := Int.tmod_lt_of_pos _ (by omega)
      obtain ⟨i, hi⟩ : ∃ i : Nat, Int.tmod a l.length = i := ⟨(Int.tmod a l.length).toNat, by omega⟩
      have hil : i < l.length := by omega
      rw [hi, wrap_id (x := (i : Int) + 1) (by omega), show ((i : Int) + 1) = ((i + 1 : Nat) : Int) by omega]
      refine Ev.bind (a := ([] : List S34)) (Ev.now _) (Ev.yes (by omega) (Ev.yes (by omega) (Ev.bind (a := l.take i) (Ev.now _) (Ev.yes ?_ (Ev.bind (a := [] ++ l.take i) (Ev.now _) (Ev.yes (by omega) (Ev.yes (by omega) (Ev.bind (a := l.drop (i + 1)) (Ev.now _) (Ev.yes ?_ ?_)))))))))
      · rw [List.length_take]; show 0 + _ < _; omega
      · rw [List.nil_append, List.length_take, List.length_drop]; omega
      · have e : ([] : List S34) ++ l.take i ++ l.drop (i + 1) = l.eraseIdx i := by rw [List.nil_append, List.eraseIdx_eq_take_drop_succ]
        refine Ev.bind (a := endV (bestV (l.eraseIdx i) win)) (Ev.is (by rw [e]; exact least_f (ok_few ok i))) (Ev.val ?_)
        exact decide_eq_true (least_few ok hil)
  have hj : ∀ b, (b = true ∨ OKL l win) → Ev (fun k => skiarealaw47_RouteLess.j0 k l win a x b) true := by
    intro b hb
    refine Ev.step (fun k => by rw [skiarealaw47_RouteLess.j0]) (Ev.ite (fun _ => Ev.now _) fun h => ?_)
    have ok := hb.resolve_left h
    refine Ev.bind (Ev.is (least_f ok)) (Ev.ite (fun h3 => ?_) fun _ => hj1 ok)
    refine Ev.bind (a := ([] : List Bool)) (Ev.now _) (Ev.yes ?_ (Ev.bind (a := [] ++ win) (Ev.now _) (Ev.yes ?_ ?_)))
    · show 0 + win.length < _; omega
    · rw [List.nil_append]; omega
    · refine Ev.bind (a := endV (bestV l (win ++ [x]))) (Ev.is (by rw [List.nil_append]; exact least_f (ok_more ok (by omega) x))) ?_
      have := least_more ok (by omega) x
      rw [decide_eq_false (by omega)]
      exact hj1 ok
  refine Ev.rounds (Ev.bind (a := true) (Ev.now _) (Ev.yes rfl (Ev.ite (fun _ => hj _ (.inl rfl)) fun _ => Ev.ite (fun _ => hj _ (.inl rfl)) fun _ => Ev.bind (right_ev l win hl.1 hw.1) (hj _ ?_))))
  by_cases h : rightV l win = 0
  · exact .inr (right_ok h)
  · exact .inl (bne_iff_ne.2 h)
end Go.Proofs.Yticfgecicmgpeaa.Pure
