/- Plain laws of the bulletin chapter: bounds of the numbers of right bulletins. -/
import Derived.Test.YtibmbffhlicpaaaAx10
import Derived.Test.YtibmbffhlicpaaaAx11
import Derived.Test.YtibmbffhlicpaaaM2
namespace Go.Proofs.Ytibmbffhlicpaaa.A
open Go.RowKit Go.Proofs.YtibmbffhlicpaaaW.PrintWords Go.Proofs.YtibmbffhlicpaaaW.PrintLast
set_option linter.unusedVariables false
theorem rdI_get {l : List Int} {j : Nat} (h : j < l.length) : rd l j = l[j] := by simp [rd, h]
theorem gr_mono {m m' : S31 → Bool} {l : List S31} {t : Int} (h : ∀ j : Nat, j < l.length → m (rd_T31 l j) = true → m' (rd_T31 l j) = true) : grV m l t ≤ grV m' l t := by
  rcases gr_at m l t with h0 | ⟨j, hj, hp, he⟩
  · rw [h0]; exact gr_pos _ _ _
  · rw [← he]; exact gr_ge hj ⟨hp.1, hp.2.1, h j hj hp.2.2⟩
theorem zon_in {l : List Int} (h : zonB l = true) {x : Int} (hx : x ∈ l) : 1 ≤ x ∧ x ≤ 32 := by
  obtain ⟨j, hj, rfl⟩ := List.getElem_of_mem hx
  rw [zonB, Bool.and_eq_true] at h
  have h2 := List.all_eq_true.1 h.2 j (List.mem_range.2 hj)
  rw [zonAt, Bool.and_eq_true, decide_eq_true_iff, rdI_get hj] at h2
  exact h2.1
theorem zon_one {l : List Int} (h : zonB l = true) : rd l (0 : Nat) ∈ l := by
  rw [zonB, Bool.and_eq_true, decide_eq_true_iff] at h
  rw [rdI_get h.1]; exact List.getElem_mem _
theorem wor_le {l : List S31} {t : Int} (hr : RightP l) (m : S31 → Bool) : grV m l t ≤ 5 := by
  rcases gr_at m l t with h0 | ⟨j, hj, hp, he⟩
  · omega
  · have := (hr.2.2 j hj).1
    unfold rngP at this; omega
theorem wor_cur {l : List S31} {t : Int} (hr : RightP l) : grV allB l t > 0 ↔ curV l t > 0 := by
  refine ⟨fun h => ?_, fun h => ?_⟩
  · rcases gr_at allB l t with h0 | ⟨j, hj, hp, he⟩
    · omega
    · have := (hr.2.2 j hj).1
      have h1 := hp.1
      unfold rngP at this; omega
  · rcases cur_at l t with h0 | ⟨j, hj, hc, he⟩
    · omega
    · have := (hr.2.2 j hj).1
      have h1 := gr_ge (m := allB) hj ⟨he, hc, rfl⟩
      unfold rngP at this; omega
theorem lvl_zero {l : List S31} {t lo hi : Int} (hr : RightP l) : grV (lvlB 0 lo hi) l t = 0 := by
  rcases gr_at (lvlB 0 lo hi) l t with h0 | ⟨j, hj, hp, he⟩
  · exact h0
  · have h1 := hp.2.2
    simp only [lvlB, Bool.and_eq_true, decide_eq_true_iff] at h1
    have := zon_in (hr.2.2 j hj).2.1 h1.2.2
    omega
/-- The greatest level of the first n zones. -/
def mostTo (l : List S31) (t : Int) : Nat → Int
  | 0 => 0
  | n + 1 => mx (mostTo l t n) (grV (lvlB ((n + 1 : Nat) : Int) 0 6000) l t)
theorem mostTo_pos (l : List S31) (t : Int) : ∀ n, 0 ≤ mostTo l t n
  | 0 => Int.le_refl _
  | n + 1 => by
    have ih := mostTo_pos l t n
    rw [mostTo]
    rcases mx_or (mostTo l t n) (grV (lvlB ((n + 1 : Nat) : Int) 0 6000) l t) with h2 | h2 <;> omega
theorem mostTo_le (l : List S31) (t : Int) : ∀ n, mostTo l t n ≤ grV allB l t
  | 0 => gr_pos _ _ _
  | n + 1 => by
    have ih := mostTo_le l t n
    have h1 : grV (lvlB ((n + 1 : Nat) : Int) 0 6000) l t ≤ grV allB l t := gr_mono (fun _ _ _ => rfl)
    rw [mostTo, mx_le]
    exact ⟨ih, h1⟩
theorem mostTo_ge (l : List S31) (t : Int) (z : Int) : ∀ n : Nat, 1 ≤ z → z ≤ n → grV (lvlB z 0 6000) l t ≤ mostTo l t n
  | 0, h, h2 => by omega
  | n + 1, h, h2 => by
    rw [mostTo]
    by_cases hz : z = ((n + 1 : Nat) : Int)
    · rw [← hz]
      rcases mx_or (mostTo l t n) (grV (lvlB z 0 6000) l t) with h3 | h3 <;> omega
    · have ih := mostTo_ge l t z n h (by omega)
      rcases mx_or (mostTo l t n) (grV (lvlB ((n + 1 : Nat) : Int) 0 6000) l t) with h3 | h3 <;> omega
theorem most_eq {l : List S31} {t : Int} (hr : RightP l) : grV allB l t = mostTo l t 32 := by
  refine Int.le_antisymm ?_ (mostTo_le l t 32)
  rcases gr_at allB l t with h0 | ⟨j, hj, hp, he⟩
  · rw [h0]; exact mostTo_pos _ _ _
  · obtain ⟨h1, h2, _⟩ := hr.2.2 j hj
    have h3 := zon_one h2
    have h4 := zon_in h2 h3
    have h5 : grP (lvlB (rd (rd_T31 l j).f4 (0 : Nat)) 0 6000) (curV l t) t (rd_T31 l j) := by
      refine ⟨hp.1, hp.2.1, ?_⟩
      unfold rngP at h1
      simp only [lvlB, Bool.and_eq_true, decide_eq_true_iff]
      exact ⟨by omega, by omega, h3⟩
    have h6 := gr_ge hj h5
    have h7 := mostTo_ge l t (rd (rd_T31 l j).f4 (0 : Nat)) 32 h4.1 h4.2
    omega
theorem wide_ge {l : List S31} {t z lo hi lo' hi' : Int} (h1 : lo' ≤ lo) (h2 : hi ≤ hi') : grV (lvlB z lo hi) l t ≤ grV (lvlB z lo' hi') l t := by
  refine gr_mono (fun j hj h => ?_)
  simp only [lvlB, Bool.and_eq_true, decide_eq_true_iff] at h ⊢
  exact ⟨by omega, by omega, h.2.2⟩
end Go.Proofs.Ytibmbffhlicpaaa.A
