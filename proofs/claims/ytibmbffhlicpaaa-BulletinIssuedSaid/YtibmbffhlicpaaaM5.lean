/- Plain laws of the bulletin chapter: what a further bulletin of a greater version turns. -/
import Derived.Test.YtibmbffhlicpaaaAx10
import Derived.Test.YtibmbffhlicpaaaM3
import Derived.Test.YtibmbffhlicpaaaM4
namespace Go.Proofs.Ytibmbffhlicpaaa.A
open Go.RowKit Go.Proofs.YtibmbffhlicpaaaW.PrintWords Go.Proofs.YtibmbffhlicpaaaW.PrintLast
set_option linter.unusedVariables false
theorem curTo_app (l : List S31) (b : S31) (t : Int) : ∀ n : Nat, n ≤ l.length → curTo (l ++ [b]) t n = curTo l t n
  | 0, _ => rfl
  | n + 1, h => by
    have ih := curTo_app l b t n (by omega)
    have e := rd_append_lt (m := [b]) (show n < l.length by omega)
    rw [curTo, curTo, ih, e]
theorem grTo_app (m : S31 → Bool) (v : Int) (l : List S31) (b : S31) (t : Int) : ∀ n : Nat, n ≤ l.length → grTo m v t (l ++ [b]) n = grTo m v t l n
  | 0, _ => rfl
  | n + 1, h => by
    have ih := grTo_app m v l b t n (by omega)
    have e := rd_append_lt (m := [b]) (show n < l.length by omega)
    rw [grTo, grTo, ih, e]
theorem len1 (l : List S31) (b : S31) : (l ++ [b]).length = l.length + 1 := by simp
theorem cur_app (l : List S31) (b : S31) (t : Int) : curV (l ++ [b]) t = if covB b t = true then mx (curV l t) b.f0 else curV l t := by
  unfold curV
  rw [len1, curTo, curTo_app l b t _ (Nat.le_refl _), rd_append_at]
theorem gr_app (m : S31 → Bool) (v : Int) (l : List S31) (b : S31) (t : Int) : grTo m v t (l ++ [b]) (l ++ [b]).length = if b.f0 = v ∧ covB b t = true ∧ m b = true then mx (grTo m v t l l.length) b.f5 else grTo m v t l l.length := by
  rw [len1, grTo, grTo_app m v l b t _ (Nat.le_refl _), rd_append_at]
section
variable {l : List S31} {b : S31} {t : Int}
/-- The last of right bulletins has the greatest version. -/
theorem right_last (hr : RightP l) : ∀ d j : Nat, j + d + 1 = l.length → (rd_T31 l j).f0 ≤ (rd_T31 l (l.length - 1 : Nat)).f0
  | 0, j, h => by rw [show l.length - 1 = j from by omega]; exact Int.le_refl _
  | d + 1, j, h => by
    have h1 := right_last hr d (j + 1) (by omega)
    have h2 := (hr.2.2 (j + 1) (by omega)).2.2 (by omega)
    rw [show j + 1 - 1 = j from rfl] at h2
    exact Int.le_trans h2 h1
theorem newer (hr : RightP l) (hv : l.length = 0 ∨ (rd_T31 l (l.length - 1 : Nat)).f0 < b.f0) (j : Nat) (hj : j < l.length) : (rd_T31 l j).f0 < b.f0 := by
  have := right_last hr (l.length - 1 - j) j (by omega)
  rcases hv with h | h <;> omega
theorem right_b (hx : rightV (l ++ [b]) = 0) : rngP b := by
  have := ((rightV_zero.1 hx).2 l.length (by simp)).1
  rwa [rd_append_at] at this
theorem cov_cur (hx : rightV (l ++ [b]) = 0) (hn : ∀ j : Nat, j < l.length → (rd_T31 l j).f0 < b.f0) (hc : covB b t = true) : curV (l ++ [b]) t = b.f0 := by
  rw [cur_app, if_pos hc]
  have h1 := right_b hx
  have h2 : curV l t < b.f0 := by
    rcases cur_at l t with h | ⟨j, hj, _, he⟩
    · unfold rngP at h1; omega
    · have := hn j hj; omega
  rcases mx_or (curV l t) b.f0 with h | h <;> omega
theorem cov_gr (m : S31 → Bool) (hx : rightV (l ++ [b]) = 0) (hn : ∀ j : Nat, j < l.length → (rd_T31 l j).f0 < b.f0) (hc : covB b t = true) : grV m (l ++ [b]) t = if m b = true then b.f5 else 0 := by
  have h1 := right_b hx
  have h0 : grTo m b.f0 t l l.length = 0 := by
    rcases grTo_at m b.f0 t l l.length with h | ⟨j, hj, hp, _⟩
    · exact h
    · have h2 := hn j hj
      have h3 := hp.1
      omega
  unfold grV
  rw [cov_cur hx hn hc, gr_app, h0]
  by_cases hm : m b = true
  · rw [if_pos ⟨rfl, hc, hm⟩, if_pos hm]
    unfold rngP at h1
    rcases mx_or 0 b.f5 with h | h <;> omega
  · rw [if_neg (fun h => hm h.2.2), if_neg hm]
theorem not_cur (hc : covB b t = false) : curV (l ++ [b]) t = curV l t := by rw [cur_app, if_neg (by rw [hc]; decide)]
theorem not_gr (m : S31 → Bool) (hc : covB b t = false) : grV m (l ++ [b]) t = grV m l t := by
  unfold grV
  rw [not_cur hc, gr_app, if_neg (fun h => by rw [hc] at h; exact absurd h.2.1 (by decide))]
end
end Go.Proofs.Ytibmbffhlicpaaa.A
