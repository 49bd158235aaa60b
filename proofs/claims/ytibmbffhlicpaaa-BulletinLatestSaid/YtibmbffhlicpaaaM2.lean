/- Plain laws of the bulletin chapter: what Current, Level and Worst compute. -/
import Derived.Test.YtibmbffhlicpaaaAx10
import Derived.Test.YtibmbffhlicpaaaAx11
import Derived.Test.YtibmbffhlicpaaaAx25
import Derived.Test.YtibmbffhlicpaaaM1
namespace Go.Proofs.Ytibmbffhlicpaaa.A
open Go.RowKit Go.Proofs.YtibmbffhlicpaaaW.PrintWords Go.Proofs.YtibmbffhlicpaaaW.PrintLast
set_option linter.unusedVariables false
-- what these numbers are
theorem mx_le {a b c : Int} : mx a b ≤ c ↔ a ≤ c ∧ b ≤ c := by unfold mx; split <;> omega
theorem mx_or (a b : Int) : (mx a b = a ∧ b ≤ a) ∨ (mx a b = b ∧ a ≤ b) := by unfold mx; split <;> omega
theorem curTo_ge (l : List S31) (t : Int) : ∀ n j : Nat, j < n → covB (rd_T31 l j) t = true → (rd_T31 l j).f0 ≤ curTo l t n
  | 0, j, h, _ => absurd h (by omega)
  | n + 1, j, h, hc => by
    rw [curTo]
    rcases Nat.lt_succ_iff_lt_or_eq.1 h with h1 | h1
    · have := curTo_ge l t n j h1 hc
      split
      · rcases mx_or (curTo l t n) (rd_T31 l n).f0 with h2 | h2 <;> omega
      · exact this
    · rw [h1] at hc ⊢
      rw [if_pos hc]
      rcases mx_or (curTo l t n) (rd_T31 l n).f0 with h2 | h2 <;> omega
theorem curTo_at (l : List S31) (t : Int) : ∀ n : Nat, curTo l t n = 0 ∨ ∃ j : Nat, j < n ∧ covB (rd_T31 l j) t = true ∧ (rd_T31 l j).f0 = curTo l t n
  | 0 => .inl rfl
  | n + 1 => by
    rw [curTo]
    have ih := curTo_at l t n
    split
    · rename_i hc
      rcases mx_or (curTo l t n) (rd_T31 l n).f0 with h2 | h2
      · rw [h2.1]; exact ih.imp id (fun ⟨j, h⟩ => ⟨j, by omega, h.2⟩)
      · rw [h2.1]; exact .inr ⟨n, by omega, hc, rfl⟩
    · exact ih.imp id (fun ⟨j, h⟩ => ⟨j, by omega, h.2⟩)
theorem curTo_pos (l : List S31) (t : Int) : ∀ n : Nat, 0 ≤ curTo l t n
  | 0 => Int.le_refl _
  | n + 1 => by
    have ih := curTo_pos l t n
    rw [curTo]
    split
    · rcases mx_or (curTo l t n) (rd_T31 l n).f0 with h2 | h2 <;> omega
    · exact ih
def grP (m : S31 → Bool) (v t : Int) (b : S31) : Prop := b.f0 = v ∧ covB b t = true ∧ m b = true
theorem grTo_ge (m : S31 → Bool) (v t : Int) (l : List S31) : ∀ n j : Nat, j < n → grP m v t (rd_T31 l j) → (rd_T31 l j).f5 ≤ grTo m v t l n
  | 0, j, h, _ => absurd h (by omega)
  | n + 1, j, h, hc => by
    rw [grTo]
    rcases Nat.lt_succ_iff_lt_or_eq.1 h with h1 | h1
    · have := grTo_ge m v t l n j h1 hc
      split
      · rcases mx_or (grTo m v t l n) (rd_T31 l n).f5 with h2 | h2 <;> omega
      · exact this
    · rw [h1] at hc ⊢
      rw [if_pos (show _ ∧ _ ∧ _ from hc)]
      rcases mx_or (grTo m v t l n) (rd_T31 l n).f5 with h2 | h2 <;> omega
theorem grTo_at (m : S31 → Bool) (v t : Int) (l : List S31) : ∀ n : Nat, grTo m v t l n = 0 ∨ ∃ j : Nat, j < n ∧ grP m v t (rd_T31 l j) ∧ (rd_T31 l j).f5 = grTo m v t l n
  | 0 => .inl rfl
  | n + 1 => by
    rw [grTo]
    have ih := grTo_at m v t l n
    split
    · rename_i hc
      rcases mx_or (grTo m v t l n) (rd_T31 l n).f5 with h2 | h2
      · rw [h2.1]; exact ih.imp id (fun ⟨j, h⟩ => ⟨j, by omega, h.2⟩)
      · rw [h2.1]; exact .inr ⟨n, by omega, hc, rfl⟩
    · exact ih.imp id (fun ⟨j, h⟩ => ⟨j, by omega, h.2⟩)
theorem grTo_pos (m : S31 → Bool) (v t : Int) (l : List S31) : ∀ n : Nat, 0 ≤ grTo m v t l n
  | 0 => Int.le_refl _
  | n + 1 => by
    have ih := grTo_pos m v t l n
    rw [grTo]
    split
    · rcases mx_or (grTo m v t l n) (rd_T31 l n).f5 with h2 | h2 <;> omega
    · exact ih
theorem cur_ge {l : List S31} {t : Int} {j : Nat} (h : j < l.length) (hc : covB (rd_T31 l j) t = true) : (rd_T31 l j).f0 ≤ curV l t := curTo_ge l t _ j h hc
theorem cur_at (l : List S31) (t : Int) : curV l t = 0 ∨ ∃ j : Nat, j < l.length ∧ covB (rd_T31 l j) t = true ∧ (rd_T31 l j).f0 = curV l t := curTo_at l t _
theorem cur_pos (l : List S31) (t : Int) : 0 ≤ curV l t := curTo_pos l t _
theorem gr_ge {m : S31 → Bool} {l : List S31} {t : Int} {j : Nat} (h : j < l.length) (hc : grP m (curV l t) t (rd_T31 l j)) : (rd_T31 l j).f5 ≤ grV m l t := grTo_ge m _ t l _ j h hc
theorem gr_at (m : S31 → Bool) (l : List S31) (t : Int) : grV m l t = 0 ∨ ∃ j : Nat, j < l.length ∧ grP m (curV l t) t (rd_T31 l j) ∧ (rd_T31 l j).f5 = grV m l t := grTo_at m _ t l _
theorem gr_pos (m : S31 → Bool) (l : List S31) (t : Int) : 0 ≤ grV m l t := grTo_pos m _ t l _
theorem level_f (l : List S31) (z lo hi t : Int) : skiarealaw49_level.f l z lo hi t = some (grV (lvlB z lo hi) l t) := rfl
theorem right_len {l : List S31} (h : RightP l) : l.length ≤ 9223372036854775807 := by have := h.2.1; omega
end Go.Proofs.Ytibmbffhlicpaaa.A
