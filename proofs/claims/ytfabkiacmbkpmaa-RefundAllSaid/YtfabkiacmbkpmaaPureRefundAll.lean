/- Closed is a share, 1000 if all lifts are closed and one belongs to the operators, and does not decrease if another lift is closed. Condition: none. -/
import Derived.Test.YtfabkiacmbkpmaaAx23
import Derived.Test.YtfabkiacmbkpmaaM4
import Derived.Test.YtfabkiacmbkpmaaOpen
namespace Go.Proofs.Ytfabkiacmbkpmaa.Pure
open Go.RowKit Go.Proofs.Ytfabkiacmbkpmaa.A Go.Proofs.YtfabkiacmbkpmaaW.PrintWords Go.Proofs.YtfabkiacmbkpmaaW.PrintLast
set_option linter.unusedVariables false
theorem take_rd50 (L : List S50) (j : Nat) (h : j < L.length) : L.take (j + 1) = L.take j ++ [rd_T50 L j] := by
  rw [List.take_succ_eq_append_getElem h]
  simp [rd_T50, List.getD_eq_getElem?_getD, h]
theorem RefundAll : ∀ (l0_0 : List S53) (l0_1 : List S50) (l0_2 : List S66) (l0_3 : List Int) (l1 : List Int) (l2 : List Int), GoodL (fun x => good53 x) l0_0 → GoodL (fun x => good50 x) l0_1 → GoodL (fun x => good66 x) l0_2 → GoodL (fun x => InI64 x) l0_3 → GoodL (fun x => InI64 x) l1 → GoodL (fun x => InI64 x) l2 → ∃ k, skiarealaw36_RefundAll.f k l0_0 l0_1 l0_2 l0_3 l1 l2 = some true := by
  intro n L r e o c hn hL hr he ho hc
  apply Ev.rounds
  simp only [skiarealaw36_RefundAll.f]
  refine Ev.bind alive_ev (Ev.yes rfl ?_)
  have ht : Ev (fun k => skiarealaw36_RefundAll.j0 k o c true n L r e) true := Ev.step (fun k => by rw [skiarealaw36_RefundAll.j0, if_pos rfl]) (Ev.now _)
  by_cases h1 : (o.length : Int) > 100
  · exact Ev.yes h1 ht
  refine Ev.no h1 ?_
  by_cases h2 : (c.length : Int) > 100
  · exact Ev.yes h2 ht
  refine Ev.no h2 ?_
  obtain ⟨x, hx, hx32⟩ := right10 n L r e hn.1 hL.1 hr.1 he.1
  refine Ev.bind hx ?_
  by_cases h3 : ¬ x = 0
  · exact Ev.step (fun k => by rw [skiarealaw36_RefundAll.j0, if_pos (by simpa using h3)]) (Ev.now _)
  replace h3 : x = 0 := by omega
  have h32 := hx32 h3
  subst h3
  refine Ev.step (fun k => by rw [skiarealaw36_RefundAll.j0, if_neg (by decide)]) ?_
  refine Ev.bind (closed_ev n L r e o c ho.1 hc.1 hL.1) (Ev.yes (by simp; omega) ?_)
  rw [List.nil_append]
  have bd := closedV_bd o c L h32
  have key : ∀ d j : Nat, L.length - j = d → j ≤ L.length → ∀ (s : Bool) (a m : List Int), s = (L.take j).any (fun x => decide (x.f1 ∈ o)) → a = (L.take j).map (·.f0) → m = c ++ (L.take j).map (·.f0) →
      Ev (fun k => skiarealaw36_RefundAll.l0 k o (closedV o c L) s a m j n L r e) true := by
    intro d
    induction d with
    | zero =>
      intro j hd hj s a m hs hA hm
      obtain rfl : j = L.length := by omega
      rw [List.take_length] at hs hA hm
      have hal : a.length ≤ 9223372036854775807 := by rw [hA, List.length_map]; omega
      have hcl : closedV o a L = if s = true then 1000 else 0 := by
        rw [hs]; exact closedV_all o a L h32 (fun y hy => by rw [hA]; exact List.mem_map.2 ⟨y, hy, rfl⟩)
      have hnil := closed_ev n L r e o [] ho.1 (by simp) hL.1
      rw [closedV_nil o L h32] at hnil
      refine Ev.step (fun k => by rw [skiarealaw36_RefundAll.l0, if_neg (by omega)]) ?_
      refine Ev.bind (closed_ev n L r e o a ho.1 hal hL.1) (Ev.yes bd.1 (Ev.yes bd.2 ?_))
      rw [hcl]
      cases s with
      | true => exact Ev.yes rfl (Ev.yes rfl (Ev.bind hnil (Ev.val (by decide))))
      | false => exact Ev.no (by decide) (Ev.yes rfl (Ev.bind hnil (Ev.val (by decide))))
    | succ d ih =>
      intro j hd hj s a m hs hA hm
      have ht := take_rd50 L j (by omega)
      have hal : a.length ≤ 32 := by rw [hA, List.length_map, List.length_take]; omega
      have hml : m.length ≤ 132 := by rw [hm, List.length_append, List.length_map, List.length_take]; omega
      have hA' : a ++ [(rd_T50 L j).f0] = (L.take (j + 1)).map (·.f0) := by rw [ht, hA, List.map_append]; rfl
      have hm' : m ++ [(rd_T50 L j).f0] = c ++ (L.take (j + 1)).map (·.f0) := by rw [ht, hm, List.map_append, List.append_assoc]; rfl
      have hml' : (m ++ [(rd_T50 L j).f0]).length ≤ 9223372036854775807 := by rw [List.length_append, List.length_singleton]; omega
      have hcm := closed_ev n L r e o (m ++ [(rd_T50 L j).f0]) ho.1 hml' hL.1
      have m1 := closedV_mono o c (m ++ [(rd_T50 L j).f0]) L h32 (fun y hy => by rw [hm']; exact List.mem_append_left _ hy)
      have m2 := closedV_bd o (m ++ [(rd_T50 L j).f0]) L h32
      refine Ev.step (fun k => by rw [skiarealaw36_RefundAll.l0, if_pos (by omega), if_pos (by omega), if_pos (by omega), Option.bind_some, wS j _ hL.1 (by omega)]) ?_
      have hs' : (L.take (j + 1)).any (fun x => decide (x.f1 ∈ o)) = (s || decide ((rd_T50 L j).f1 ∈ o)) := by rw [ht, hs, List.any_append]; simp
      cases s with
      | true =>
        refine Ev.yes rfl (Ev.yes (by omega) ?_)
        simp only [Option.bind_some]
        refine Ev.bind hcm (Ev.no (by omega) (Ev.no (by omega) ?_))
        exact ih (j + 1) (by omega) (by omega) _ _ _ (by rw [hs']; rfl) hA' hm'
      | false =>
        refine Ev.no (by decide) (Ev.bind (has_ev o _ ho.1) (Ev.yes (by omega) ?_))
        simp only [Option.bind_some]
        refine Ev.bind hcm (Ev.no (by omega) (Ev.no (by omega) ?_))
        exact ih (j + 1) (by omega) (by omega) _ _ _ (by rw [hs']; simp) hA' hm'
  exact key L.length 0 (by omega) (by omega) false [] c (by simp) (by simp) (by simp)
end Go.Proofs.Ytfabkiacmbkpmaa.Pure
