/- What 'right' and 'short' of the laws compute; what a right group is. Condition: lists that a machine can hold. -/
import Derived.Test.YtdklkjgcnibbgaaAx21
import Derived.Test.YtdklkjgcnibbgaaGPlanR
import Derived.Test.YtdklkjgcnibbgaaOpen
namespace Go.Proofs.Ytdklkjgcnibbgaa.Pure
open Go.RowKit Go.Proofs.Ytdklkjgcnibbgaa.A Go.Proofs.YtdklkjgcnibbgaaW.PrintWords Go.Proofs.YtdklkjgcnibbgaaW.PrintLast Go.Proofs.YtdklkjgcnibbgaaW.PrintMore
set_option linter.unusedVariables false
set_option linter.unusedSimpArgs false
/-- The group is right. -/
structure OKG (ages prices : List Int) (l : List S45) : Prop where
  len : ages.length ≤ 8
  olen : l.length ≤ 8
  same : ages.length = prices.length
  pr : ∀ j : Nat, j < ages.length → 0 ≤ rd prices j ∧ rd prices j ≤ 100000000
  off : ∀ o ∈ l, 1 ≤ o.f0 ∧ o.f0 ≤ 9999 ∧ 0 ≤ o.f1 ∧ o.f1 ≤ 8 ∧ 0 ≤ o.f2 ∧ o.f2 ≤ 8 ∧ 0 ≤ o.f3 ∧ o.f3 ≤ 100000000
  dist : l.Pairwise (fun a b => a.f0 ≠ b.f0)
theorem oLoop_ok {l : List S45} : ∀ (d j : Nat), oLoop l d j = 0 → ∀ i, j ≤ i → i < j + d → badO (rd_T45 l i) = false ∧ dupO l i = false
  | 0, j, _, i, h1, h2 => by omega
  | d + 1, j, h, i, h1, h2 => by
    rw [oLoop] at h
    split at h
    · cases h
    · rename_i c1
      split at h
      · cases h
      · rename_i c2
        by_cases e : i = j
        · subst e; exact ⟨by simpa using c1, by simpa using c2⟩
        · exact oLoop_ok d (j + 1) h i (by omega) (by omega)
theorem aLoop_ok {ages prices : List Int} {l : List S45} : ∀ (d j : Nat), aLoop ages prices l d j = 0 → (∀ i, j ≤ i → i < j + d → badA ages prices i = false) ∧ oLoop l l.length 0 = 0
  | 0, j, h => ⟨fun i h1 h2 => by omega, h⟩
  | d + 1, j, h => by
    rw [aLoop] at h
    split at h
    · cases h
    · rename_i c1
      obtain ⟨h1, h2⟩ := aLoop_ok d (j + 1) h
      refine ⟨fun i h3 h4 => ?_, h2⟩
      by_cases e : i = j
      · subst e; simpa using c1
      · exact h1 i (by omega) (by omega)
theorem mem45 {l : List S45} {a : S45} (h : a ∈ l) : ∃ i : Nat, i < l.length ∧ rd_T45 l i = a := by
  obtain ⟨i, hi, rfl⟩ := List.getElem_of_mem h
  exact ⟨i, hi, rd45_get hi⟩
theorem right_okg {ages prices : List Int} {l : List S45} (h : rightG ages prices l = 0) : OKG ages prices l := by
  unfold rightG at h
  split at h
  · cases h
  · rename_i c1
    split at h
    · rename_i c2
      obtain ⟨h1, h2⟩ := aLoop_ok _ _ h
      have h3 := fun i (hi : i < l.length) => oLoop_ok l.length 0 h2 i (Nat.zero_le _) (by omega)
      refine ⟨by omega, by omega, c2, fun j hj => ?_, fun o ho => ?_, ?_⟩
      · have := h1 j (Nat.zero_le _) (by omega)
        unfold badA inB at this
        rw [Bool.not_eq_false', Bool.and_eq_true] at this
        exact of_decide_eq_true this.2
      · obtain ⟨i, hi, rfl⟩ := mem45 ho
        have := (h3 i hi).1
        unfold badO inB at this
        simp only [Bool.not_eq_false', Bool.and_eq_true, decide_eq_true_eq] at this
        omega
      · rw [List.pairwise_iff_getElem]
        intro i j hil hjl hij e
        have h4 := (h3 j hjl).2
        unfold dupO at h4
        rw [List.any_eq_false] at h4
        refine h4 l[i] ?_ ?_
        · rw [List.mem_take_iff_getElem]; exact ⟨i, by omega, rfl⟩
        · rw [rd45_get hjl]; simpa [hasId] using e
    · cases h
theorem right_ev (ages prices : List Int) (l : List S45) (ha : ages.length ≤ 9223372036854775807) (hl : l.length ≤ 9223372036854775807) : Ev (fun k => skiarealaw24_right.f k ages prices l) (rightG ages prices l == 0) := Ev.bind (grright_ev ages prices l ha hl) (Ev.now _)
end Go.Proofs.Ytdklkjgcnibbgaa.Pure
