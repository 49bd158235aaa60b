/- Plain laws of the refund chapter: sums of parts, and what more closures do. No condition but those named. -/
import Derived.Test.YtfabkiacmbkpmaaAx2
import Derived.Test.YtfabkiacmbkpmaaAx3
import Derived.Test.YtfabkiacmbkpmaaAx4
import Derived.Test.YtfabkiacmbkpmaaAx9
import Derived.Test.YtfabkiacmbkpmaaM1
namespace Go.Proofs.Ytfabkiacmbkpmaa.A
open Go.RowKit Go.Proofs.YtfabkiacmbkpmaaW.PrintWords Go.Proofs.YtfabkiacmbkpmaaW.PrintLast
set_option linter.unusedVariables false
theorem in_f (a b c : Int) : refund_in.f a b c = some (decide (b ≤ a ∧ a ≤ c)) := by
  unfold refund_in.f
  by_cases h : a ≥ b
  · rw [if_pos h]; congr 1; simp [h]
  · rw [if_neg h]; congr 1; symm; apply decide_eq_false; omega
def unusedV (p u l : Int) : Int × Int :=
  if ¬ (0 ≤ p ∧ p ≤ 100000000) then (0, 2) else if ¬ ((1 ≤ u ∧ u ≤ 100) ∧ (0 ≤ l ∧ l ≤ u)) then (0, 1) else (p * l / u, 0)
theorem pl_bd {p u l : Int} (hp : 0 ≤ p ∧ p ≤ 100000000) (hu : 1 ≤ u ∧ u ≤ 100) (hl : 0 ≤ l ∧ l ≤ u) : 0 ≤ p * l ∧ p * l ≤ 10000000000 := by
  refine ⟨Int.mul_nonneg hp.1 hl.1, ?_⟩
  have h1 : p * l ≤ 100000000 * l := Int.mul_le_mul_of_nonneg_right hp.2 hl.1
  omega
theorem quo_id {p u l : Int} (hp : 0 ≤ p ∧ p ≤ 100000000) (hu : 1 ≤ u ∧ u ≤ 100) (hl : 0 ≤ l ∧ l ≤ u) : wrap64 (Int.tdiv (wrap64 (p * l)) u) = p * l / u := by
  obtain ⟨h0, h1⟩ := pl_bd hp hu hl
  rw [wrap_id (x := p * l) (by omega), Int.tdiv_eq_ediv_of_nonneg h0]
  have h2 : 0 ≤ p * l / u := Int.ediv_nonneg h0 (by omega)
  have h3 : p * l / u ≤ p * l := Int.ediv_le_self _ h0
  exact wrap_id (by omega)
theorem unused_f (p u l : Int) : refund_Unused.f p u l = some (unusedV p u l) := by
  unfold refund_Unused.f unusedV
  simp only [in_f, Option.bind_some]
  by_cases hp : 0 ≤ p ∧ p ≤ 100000000
  · rw [if_pos (by simpa using hp), if_neg (not_not_intro hp)]
    by_cases hu : 1 ≤ u ∧ u ≤ 100
    · rw [if_pos (by simpa using hu)]
      by_cases hl : 0 ≤ l ∧ l ≤ u
      · rw [if_pos (by simpa using hl), if_neg (not_not_intro ⟨hu, hl⟩), if_neg (by omega), quo_id hp hu hl]
      · rw [if_neg (by simpa using hl), if_pos (fun h => hl h.2)]
    · rw [if_neg (by simpa using hu), if_pos (fun h => hu h.1)]
  · rw [if_neg (by simpa using hp), if_pos hp]
theorem unusedR_f (p u l : Int) : skiarearef36_Unused.f p u l = some (unusedV p u l) := by
  unfold skiarearef36_Unused.f unusedV
  simp only [price_f, Option.bind_some]
  by_cases hp : 0 ≤ p ∧ p ≤ 100000000
  · rw [if_pos (by simpa using hp), if_neg (not_not_intro hp)]
    by_cases hu : 1 ≤ u ∧ u ≤ 100
    · rw [if_neg (by omega), if_neg (by omega)]
      by_cases hl : 0 ≤ l ∧ l ≤ u
      · rw [if_neg (by omega), if_neg (by omega), if_neg (by omega), if_neg (not_not_intro ⟨hu, hl⟩), quo_id hp hu hl]
      · rw [if_pos (fun h => hl h.2)]
        by_cases h0 : l < 0
        · rw [if_pos h0]
        · rw [if_neg h0, if_pos (by omega)]
    · rw [if_pos (fun h : (1 ≤ u ∧ u ≤ 100) ∧ _ => hu h.1)]
      by_cases h0 : u < 1
      · rw [if_pos h0]
      · rw [if_neg h0, if_pos (by omega)]
  · rw [if_neg (by simpa using hp), if_pos hp]
def psum (ps : List Int) : Nat → Int
  | 0 => 0
  | k + 1 => psum ps k + rd ps k
theorem psum_evens (a : Int) (m : Nat) : ∀ k : Nat, k ≤ m → psum (evens a m) k = k * (a / m) + (if (k : Int) ≤ a % m then (k : Int) else a % m) ∨ a % m < 0
  | 0, _ => by
    by_cases h : 0 ≤ a % (m : Int)
    · left; simp [psum, h]
    · right; omega
  | k + 1, hk => by
    rcases psum_evens a m k (by omega) with ih | ih
    · left
      rw [psum, ih, evens_rd _ _ _ (by omega)]
      have hx : ((k + 1 : Nat) : Int) * (a / m) = k * (a / m) + a / m := by rw [Int.natCast_add, Int.add_mul]; simp
      rw [hx]
      unfold evn
      split <;> split <;> split <;> omega
    · exact Or.inr ih
theorem psum_all (a : Int) (m : Nat) (ha : 0 ≤ a) (hm : 1 ≤ m) : psum (evens a m) m = a := by
  have h0 : 0 ≤ a % (m : Int) := Int.emod_nonneg _ (by omega)
  have h1 : a % (m : Int) < m := Int.emod_lt_of_pos _ (by omega)
  rcases psum_evens a m m (Nat.le_refl _) with h | h
  · rw [h, if_neg (by omega)]
    have := Int.mul_ediv_add_emod a m
    exact this
  · omega
theorem dsum_le_psum (a L R : Int) (l : List Int) (m : Nat) (ha : 0 ≤ a) (hR : 0 ≤ R) (hR2 : R ≤ 1000) : ∀ k : Nat, k ≤ m → dsum L R l (evens a m) k ≤ psum (evens a m) k
  | 0, _ => by simp [dsum, psum]
  | k + 1, h => by
    have ih := dsum_le_psum a L R l m ha hR hR2 k (by omega)
    unfold dsum psum
    rw [evens_rd _ _ _ (by omega)]
    obtain ⟨h0, _⟩ := evn_bd a m k ha (by omega)
    have h1 : evn a m k * R ≤ evn a m k * 1000 := Int.mul_le_mul_of_nonneg_left hR2 h0
    split <;> omega
theorem dsum_mono (a L L' R R' : Int) (l l' : List Int) (m : Nat) (ha : 0 ≤ a) (hR : R ≤ R') (hR0 : 0 ≤ R') (hL : L' ≤ L) : ∀ k : Nat, k ≤ m → (∀ i : Nat, i < k → rd l i ≤ rd l' i) → dsum L R l (evens a m) k ≤ dsum L' R' l' (evens a m) k
  | 0, _, _ => by simp [dsum]
  | k + 1, h, hl => by
    have ih := dsum_mono a L L' R R' l l' m ha hR hR0 hL k (by omega) (fun i hi => hl i (by omega))
    have hk := hl k (by omega)
    unfold dsum
    rw [evens_rd _ _ _ (by omega)]
    obtain ⟨h0, _⟩ := evn_bd a m k ha (by omega)
    have h1 : evn a m k * R ≤ evn a m k * R' := Int.mul_le_mul_of_nonneg_left hR h0
    have h2 : 0 ≤ evn a m k * R' := Int.mul_nonneg h0 hR0
    split <;> split <;> omega
theorem dsum_all (a : Int) (l : List Int) (m : Nat) (ha : 0 ≤ a) : ∀ k : Nat, k ≤ m → (∀ i : Nat, i < k → 0 ≤ rd l i) → dsum 0 1000 l (evens a m) k = psum (evens a m) k
  | 0, _, _ => by simp [dsum, psum]
  | k + 1, h, hl => by
    have ih := dsum_all a l m ha k (by omega) (fun i hi => hl i (by omega))
    have hk := hl k (by omega)
    unfold dsum psum
    rw [if_pos hk, ih]
    omega
theorem dsum_none (L : Int) (l ps : List Int) : ∀ k : Nat, dsum L 0 l ps k = 0
  | 0 => by simp [dsum]
  | k + 1 => by
    unfold dsum
    rw [dsum_none L l ps k]
    split <;> simp
theorem share_rd {l : List Int} (h : l.all shareB = true) (i : Nat) (hi : i < l.length) : 0 ≤ rd l i ∧ rd l i ≤ 1000 := by
  have := (all_of_rd _ _).1 h i hi
  simpa [shareB] using this
end Go.Proofs.Ytfabkiacmbkpmaa.A
