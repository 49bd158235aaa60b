/- With Least 0 and Rate 1000 all is paid back, with Rate 0 nothing; what was used and what was not are together the price, or 1 less. Condition: none. -/
import Derived.Test.YtfabkiacmbkpmaaAx22
import Derived.Test.YtfabkiacmbkpmaaM2
import Derived.Test.YtfabkiacmbkpmaaOpen
namespace Go.Proofs.Ytfabkiacmbkpmaa.Pure
open Go.RowKit Go.Proofs.Ytfabkiacmbkpmaa.A Go.Proofs.YtfabkiacmbkpmaaW.PrintWords Go.Proofs.YtfabkiacmbkpmaaW.PrintLast
set_option linter.unusedVariables false
theorem unused_sum {p u l : Int} (hp : 0 ≤ p ∧ p ≤ 100000000) (hu : 1 ≤ u ∧ u ≤ 100) (hl : 0 ≤ l ∧ l ≤ u) : p * l / u + p * (u - l) / u ≤ p ∧ p - 1 ≤ p * l / u + p * (u - l) / u := by
  have h1 := Int.mul_ediv_add_emod (p * l) u
  have h2 := Int.mul_ediv_add_emod (p * (u - l)) u
  have m1 := Int.emod_nonneg (p * l) (show u ≠ 0 by omega)
  have m2 := Int.emod_nonneg (p * (u - l)) (show u ≠ 0 by omega)
  have m3 := Int.emod_lt_of_pos (p * l) (show 0 < u by omega)
  have m4 := Int.emod_lt_of_pos (p * (u - l)) (show 0 < u by omega)
  have h3 : p * l + p * (u - l) = u * p := by rw [← Int.mul_add, show l + (u - l) = u by omega, Int.mul_comm]
  generalize p * l / u = x at *
  generalize p * (u - l) / u = y at *
  have h5 : u * (x + y) = u * x + u * y := Int.mul_add _ _ _
  have h4 : u * (x + y) ≤ u * p := by omega
  have h6 : u * (p - 1) ≤ u * (x + y) + (u - 1) := by
    have : u * (p - 1) = u * p - u := by rw [Int.mul_sub, Int.mul_one]
    omega
  refine ⟨Int.le_of_mul_le_mul_left h4 (by omega), ?_⟩
  refine Int.le_of_lt_add_one (Int.lt_of_mul_lt_mul_left (a := u) ?_ (by omega))
  have : u * (x + y + 1) = u * (x + y) + u := by rw [Int.mul_add, Int.mul_one]
  omega
theorem RefundWhole : ∀ (a0 : Int) (l1 : List Int) (a2_0 : Int) (a2_1 : Int), InI64 a0 → GoodL (fun x => InI64 x) l1 → InI64 a2_0 → InI64 a2_1 → ∃ k, skiarealaw36_RefundWhole.f k a0 l1 a2_0 a2_1 = some true := by
  intro p l u v _ hl _ _
  apply Ev.rounds
  simp only [skiarealaw36_RefundWhole.f, days_f _ _ _ _ hl.1, Option.bind_some]
  refine Ev.bind alive_ev (Ev.yes rfl ?_)
  by_cases h : (l.length : Int) > 100
  · exact Ev.yes h (Ev.now _)
  refine Ev.no h ?_
  have hj : Ev (fun k => skiarealaw36_RefundWhole.j0 k p false u v) true := by
    refine Ev.step (fun k => by rw [skiarealaw36_RefundWhole.j0, if_neg (by decide), unused_f, Option.bind_some, unused_f, Option.bind_some]) ?_
    by_cases hp : 0 ≤ p ∧ p ≤ 100000000
    · by_cases hu : (1 ≤ u ∧ u ≤ 100) ∧ (0 ≤ v ∧ v ≤ u)
      · have hw : wrap64 (u - v) = u - v := wrap_id (by omega)
        have e1 : unusedV p u v = (p * v / u, 0) := by unfold unusedV; rw [if_neg (not_not_intro hp), if_neg (not_not_intro hu)]
        have e2 : unusedV p u (u - v) = (p * (u - v) / u, 0) := by unfold unusedV; rw [if_neg (not_not_intro hp), if_neg (not_not_intro ⟨hu.1, by omega⟩)]
        obtain ⟨s1, s2⟩ := unused_sum hp hu.1 hu.2
        have q1 := Int.ediv_nonneg (pl_bd hp hu.1 hu.2).1 (show 0 ≤ u by omega)
        have q2 := Int.ediv_nonneg (pl_bd hp hu.1 (show 0 ≤ u - v ∧ u - v ≤ u by omega)).1 (show 0 ≤ u by omega)
        rw [hw, e1, e2]
        refine Ev.yes rfl (Ev.yes rfl (Ev.yes q1 (Ev.yes q2 (Ev.yes ?_ (Ev.val ?_)))))
        · show wrap64 (p * v / u + p * (u - v) / u) ≤ p
          rw [wrap_id (by omega)]; exact s1
        · apply decide_eq_true
          show wrap64 (p * v / u + p * (u - v) / u) ≥ wrap64 (p - 1)
          rw [wrap_id (x := p - 1) (by omega), wrap_id (by omega)]; exact s2
      · have e1 : unusedV p u v = (0, 1) := by unfold unusedV; rw [if_neg (not_not_intro hp), if_pos hu]
        rw [e1]
        exact Ev.no (by decide) (Ev.val (by simp))
    · have e1 : unusedV p u v = (0, 2) := by unfold unusedV; rw [if_pos hp]
      rw [e1]
      exact Ev.no (by decide) (Ev.val (by simp))
  have dv : ∀ R : Int, 0 ≤ R ∧ R ≤ 1000 → daysV 0 R p l = if ¬ (0 ≤ p ∧ p ≤ 100000000) then (0, 2) else if ¬ (1 ≤ l.length ∧ l.length ≤ 64) then (0, 1) else if l.all shareB = false then (0, 2) else (dsum 0 R l (evens p l.length) l.length, 0) := by
    intro R hR
    unfold daysV
    by_cases hp : 0 ≤ p ∧ p ≤ 100000000
    · rw [if_neg (not_not_intro ⟨⟨Int.le_refl _, by decide⟩, hR, hp⟩), if_neg (not_not_intro hp)]
    · rw [if_pos (fun h => hp h.2.2), if_pos hp]
  rw [dv 1000 (by decide), dv 0 (by decide)]
  by_cases hp : 0 ≤ p ∧ p ≤ 100000000
  · rw [if_neg (not_not_intro hp), if_neg (not_not_intro hp)]
    by_cases h2 : 1 ≤ l.length ∧ l.length ≤ 64
    · rw [if_neg (not_not_intro h2), if_neg (not_not_intro h2)]
      by_cases h3 : l.all shareB = false
      · rw [if_pos h3, if_pos h3]
        exact Ev.yes rfl (Ev.no (by decide) hj)
      · rw [if_neg h3, if_neg h3]
        have h3' : l.all shareB = true := by simpa using h3
        rw [dsum_all p l l.length hp.1 l.length (Nat.le_refl _) (fun i hi => (share_rd h3' i hi).1), psum_all p l.length hp.1 h2.1, dsum_none]
        exact Ev.yes rfl (Ev.yes rfl (Ev.yes rfl hj))
    · rw [if_pos h2, if_pos h2]
      exact Ev.yes rfl (Ev.no (by decide) hj)
  · rw [if_pos hp, if_pos hp]
    exact Ev.yes rfl (Ev.no (by decide) hj)
end Go.Proofs.Ytfabkiacmbkpmaa.Pure
