/- Plain laws of the bulletin chapter: the reference's Current, Level and Worst compute what the program's do; what these numbers are. -/
import Derived.Test.YtibmbffhlicpaaaAx6
import Derived.Test.YtibmbffhlicpaaaAx7
import Derived.Test.YtibmbffhlicpaaaAx15
import Derived.Test.YtibmbffhlicpaaaAx16
import Derived.Test.YtibmbffhlicpaaaAx17
import Derived.Test.YtibmbffhlicpaaaAx18
import Derived.Test.YtibmbffhlicpaaaM1
namespace Go.Proofs.Ytibmbffhlicpaaa.A
open Go.RowKit Go.Proofs.YtibmbffhlicpaaaW.PrintWords Go.Proofs.YtibmbffhlicpaaaW.PrintLast
set_option linter.unusedVariables false
theorem covers_f (b : S31) (t : Int) : skiarearef49_covers.f b.f0 b.f1.f0 b.f1.f1 b.f2 b.f3 b.f4 b.f5 t = some (covB b t) := by
  unfold skiarearef49_covers.f covB
  by_cases h : b.f1.f0 ≤ t
  · rw [if_pos h]; congr 1; simp [h]
  · rw [if_neg h]; congr 1; symm; apply decide_eq_false; omega
theorem curR_l0 (l : List S31) (t : Int) (hl : l.length ≤ 9223372036854775807) (d : Nat) : ∀ j : Nat, l.length - j = d → j ≤ l.length → Ev (fun k => skiarearef49_Current.l0 k l t (curTo l t j) j) (curV l t) := by
  induction d with
  | zero =>
    intro j hd hj
    obtain rfl : j = l.length := by omega
    exact Ev.step (fun k => by rw [skiarearef49_Current.l0, if_neg (by omega)]; rfl) (Ev.now _)
  | succ d ih =>
    intro j hd hj
    have hn := ih (j + 1) (by omega) (by omega)
    refine Ev.step (fun k => by rw [skiarearef49_Current.l0, if_pos (by omega), if_pos (by omega), covers_f, Option.bind_some, wS j _ hl (by omega)]) ?_
    refine Ev.ite (fun h => ?_) (fun h => ?_)
    · rw [curTo, if_pos h] at hn; exact hn
    · rw [curTo, if_neg h] at hn; exact hn
theorem curR_ev (l : List S31) (t : Int) (hl : l.length ≤ 9223372036854775807) : Ev (fun k => skiarearef49_Current.f k l t) (curV l t) := curR_l0 l t hl l.length 0 (by omega) (by omega)
theorem has_l0 (l : List Int) (x : Int) (hl : l.length ≤ 9223372036854775807) (d : Nat) : ∀ j : Nat, l.length - j = d → j ≤ l.length → Ev (fun k => skiarearef49_has.l0 k l x j) (decide (x ∈ l.drop j)) := by
  induction d with
  | zero =>
    intro j hd hj
    obtain rfl : j = l.length := by omega
    exact Ev.step (fun k => by rw [skiarearef49_has.l0, if_neg (by omega)]) (Ev.val (by simp))
  | succ d ih =>
    intro j hd hj
    have hn := ih (j + 1) (by omega) (by omega)
    have hdr : l.drop j = rd l j :: l.drop (j + 1) := by
      rw [List.drop_eq_getElem_cons (by omega)]
      congr 1
      simp [rd, List.getElem?_eq_getElem (show j < l.length by omega)]
    by_cases h : rd l j = x
    · exact Ev.step (fun k => by rw [skiarearef49_has.l0, if_pos (by omega), if_pos (by omega), if_pos h]) (Ev.val (by rw [hdr, h]; simp))
    · refine Ev.step (fun k => by rw [skiarearef49_has.l0, if_pos (by omega), if_pos (by omega), if_neg h, wS j _ hl (by omega)]) ?_
      have : decide (x ∈ l.drop j) = decide (x ∈ l.drop (j + 1)) := by rw [hdr]; simp [Ne.symm h]
      rw [this]; exact hn
theorem has_ev (l : List Int) (x : Int) (hl : l.length ≤ 9223372036854775807) : Ev (fun k => skiarearef49_has.f k l x) (decide (x ∈ l)) := has_l0 l x hl l.length 0 (by omega) (by omega)
theorem lvlR_l0 (l : List S31) (z lo hi t : Int) (hl : l.length ≤ 9223372036854775807) (hz : ∀ j : Nat, j < l.length → (rd_T31 l j).f4.length ≤ 9223372036854775807) (d : Nat) : ∀ j : Nat, l.length - j = d → j ≤ l.length →
    Ev (fun k => skiarearef49_Level.l0 k l z lo hi t (grTo (lvlB z lo hi) (curV l t) t l j) j) (grV (lvlB z lo hi) l t) := by
  induction d with
  | zero =>
    intro j hd hj
    obtain rfl : j = l.length := by omega
    exact Ev.step (fun k => by rw [skiarearef49_Level.l0, if_neg (by omega)]; rfl) (Ev.now _)
  | succ d ih =>
    intro j hd hj
    have hn := ih (j + 1) (by omega) (by omega)
    have hj1 : ∀ c, c = decide ((rd_T31 l j).f0 = curV l t ∧ covB (rd_T31 l j) t = true ∧ lvlB z lo hi (rd_T31 l j) = true) →
        Ev (fun k => skiarearef49_Level.j1 k l z lo hi t (grTo (lvlB z lo hi) (curV l t) t l j) j c (rd_T31 l j).f0 (rd_T31 l j).f1.f0 (rd_T31 l j).f1.f1 (rd_T31 l j).f2 (rd_T31 l j).f3 (rd_T31 l j).f4 (rd_T31 l j).f5) (grV (lvlB z lo hi) l t) := fun c hc => by
      by_cases h : (rd_T31 l j).f0 = curV l t ∧ covB (rd_T31 l j) t = true ∧ lvlB z lo hi (rd_T31 l j) = true
      · rw [hc, decide_eq_true h]
        rw [gr_yes h] at hn
        exact Ev.step (fun k => by rw [skiarearef49_Level.j1, if_pos rfl, wS j _ hl (by omega)]) hn
      · rw [hc, decide_eq_false h]
        rw [gr_no h] at hn
        exact Ev.step (fun k => by rw [skiarearef49_Level.j1, if_neg (by decide), wS j _ hl (by omega)]) hn
    refine Ev.step (fun k => by rw [skiarearef49_Level.l0, if_pos (by omega), if_pos (by omega), covers_f, Option.bind_some]) ?_
    refine Ev.ite (fun h1 => ?_) (fun h1 => hj1 _ (by simp [h1]))
    refine Ev.bind (curR_ev l t hl) (Ev.ite (fun h2 => ?_) (fun h2 => hj1 _ (by simp [h2])))
    refine Ev.bind (has_ev _ z (hz j (by omega))) (Ev.ite (fun h3 => ?_) (fun h3 => hj1 _ (by simp [lvlB] at h3 ⊢; simp [h3])))
    refine Ev.ite (fun h4 => hj1 _ ?_) (fun h4 => hj1 _ ?_)
    · simp [h1, h2, lvlB, h4]; intro _; simpa using h3
    · simp [lvlB, h4]
theorem lvlR_ev (l : List S31) (z lo hi t : Int) (hl : l.length ≤ 9223372036854775807) (hz : ∀ j : Nat, j < l.length → (rd_T31 l j).f4.length ≤ 9223372036854775807) : Ev (fun k => skiarearef49_Level.f k l z lo hi t) (grV (lvlB z lo hi) l t) :=
  lvlR_l0 l z lo hi t hl hz l.length 0 (by omega) (by omega)
theorem worR_l0 (l : List S31) (t : Int) (hl : l.length ≤ 9223372036854775807) (d : Nat) : ∀ j : Nat, l.length - j = d → j ≤ l.length →
    Ev (fun k => skiarearef49_Worst.l0 k l t (grTo allB (curV l t) t l j) j) (grV allB l t) := by
  induction d with
  | zero =>
    intro j hd hj
    obtain rfl : j = l.length := by omega
    exact Ev.step (fun k => by rw [skiarearef49_Worst.l0, if_neg (by omega)]; rfl) (Ev.now _)
  | succ d ih =>
    intro j hd hj
    have hn := ih (j + 1) (by omega) (by omega)
    refine Ev.step (fun k => by rw [skiarearef49_Worst.l0, if_pos (by omega), if_pos (by omega), covers_f, Option.bind_some, wS j _ hl (by omega)]) ?_
    refine Ev.ite (fun h1 => Ev.bind (curR_ev l t hl) (Ev.ite (fun h2 => ?_) (fun h2 => ?_))) (fun h1 => ?_)
    · rw [gr_yes ⟨h2, h1, rfl⟩] at hn; exact hn
    · rw [gr_no (fun h => h2 h.1)] at hn; exact hn
    · rw [gr_no (fun h => h1 h.2.1)] at hn; exact hn
theorem worR_ev (l : List S31) (t : Int) (hl : l.length ≤ 9223372036854775807) : Ev (fun k => skiarearef49_Worst.f k l t) (grV allB l t) := worR_l0 l t hl l.length 0 (by omega) (by omega)
-- what these numbers are
theorem mx_le {a b c : Int} : mx a b ≤ c ↔ a ≤ c ∧ b ≤ c := by unfold mx; split <;> omega
theorem mx_or (a b : Int) : (mx a b = a ∧ b ≤ a) ∨ (mx a b = b ∧ a ≤ b) := by unfold mx; split <;> omega
theorem curTo_ge (l : List S31) (t : Int) : ∀ n j : Nat, j < n → covB (rd_T31 l j) t = true → (rd_T31 l j).f0 ≤ curTo l t n
  | 0, j, h, _ => absurd h (by omega)
  | n + 1, j, h, hc => by
    rw [curTo]
    rcases Nat.lt_succ_iff_lt_or_eq.1 h with h1 | h1
    · have := curTo_ge l t n j h1 hc
      split
      · rcases mx_or (curTo l t n) (rd_T31 l n).f0 with h2 | h2 <;> omega
      · exact this
    · rw [h1] at hc ⊢
      rw [if_pos hc]
      rcases mx_or (curTo l t n) (rd_T31 l n).f0 with h2 | h2 <;> omega
theorem curTo_at (l : List S31) (t : Int) : ∀ n : Nat, curTo l t n = 0 ∨ ∃ j : Nat, j < n ∧ covB (rd_T31 l j) t = true ∧ (rd_T31 l j).f0 = curTo l t n
  | 0 => .inl rfl
  | n + 1 => by
    rw [curTo]
    have ih := curTo_at l t n
    split
    · rename_i hc
      rcases mx_or (curTo l t n) (rd_T31 l n).f0 with h2 | h2
      · rw [h2.1]; exact ih.imp id (fun ⟨j, h⟩ => ⟨j, by omega, h.2⟩)
      · rw [h2.1]; exact .inr ⟨n, by omega, hc, rfl⟩
    · exact ih.imp id (fun ⟨j, h⟩ => ⟨j, by omega, h.2⟩)
theorem curTo_pos (l : List S31) (t : Int) : ∀ n : Nat, 0 ≤ curTo l t n
  | 0 => Int.le_refl _
  | n + 1 => by
    have ih := curTo_pos l t n
    rw [curTo]
    split
    · rcases mx_or (curTo l t n) (rd_T31 l n).f0 with h2 | h2 <;> omega
    · exact ih
def grP (m : S31 → Bool) (v t : Int) (b : S31) : Prop := b.f0 = v ∧ covB b t = true ∧ m b = true
theorem grTo_ge (m : S31 → Bool) (v t : Int) (l : List S31) : ∀ n j : Nat, j < n → grP m v t (rd_T31 l j) → (rd_T31 l j).f5 ≤ grTo m v t l n
  | 0, j, h, _ => absurd h (by omega)
  | n + 1, j, h, hc => by
    rw [grTo]
    rcases Nat.lt_succ_iff_lt_or_eq.1 h with h1 | h1
    · have := grTo_ge m v t l n j h1 hc
      split
      · rcases mx_or (grTo m v t l n) (rd_T31 l n).f5 with h2 | h2 <;> omega
      · exact this
    · rw [h1] at hc ⊢
      rw [if_pos (show _ ∧ _ ∧ _ from hc)]
      rcases mx_or (grTo m v t l n) (rd_T31 l n).f5 with h2 | h2 <;> omega
theorem grTo_at (m : S31 → Bool) (v t : Int) (l : List S31) : ∀ n : Nat, grTo m v t l n = 0 ∨ ∃ j : Nat, j < n ∧ grP m v t (rd_T31 l j) ∧ (rd_T31 l j).f5 = grTo m v t l n
  | 0 => .inl rfl
  | n + 1 => by
    rw [grTo]
    have ih := grTo_at m v t l n
    split
    · rename_i hc
      rcases mx_or (grTo m v t l n) (rd_T31 l n).f5 with h2 | h2
      · rw [h2.1]; exact ih.imp id (fun ⟨j, h⟩ => ⟨j, by omega, h.2⟩)
      · rw [h2.1]; exact .inr ⟨n, by omega, hc, rfl⟩
    · exact ih.imp id (fun ⟨j, h⟩ => ⟨j, by omega, h.2⟩)
theorem grTo_pos (m : S31 → Bool) (v t : Int) (l : List S31) : ∀ n : Nat, 0 ≤ grTo m v t l n
  | 0 => Int.le_refl _
  | n + 1 => by
    have ih := grTo_pos m v t l n
    rw [grTo]
    split
    · rcases mx_or (grTo m v t l n) (rd_T31 l n).f5 with h2 | h2 <;> omega
    · exact ih
theorem cur_ge {l : List S31} {t : Int} {j : Nat} (h : j < l.length) (hc : covB (rd_T31 l j) t = true) : (rd_T31 l j).f0 ≤ curV l t := curTo_ge l t _ j h hc
theorem cur_at (l : List S31) (t : Int) : curV l t = 0 ∨ ∃ j : Nat, j < l.length ∧ covB (rd_T31 l j) t = true ∧ (rd_T31 l j).f0 = curV l t := curTo_at l t _
theorem cur_pos (l : List S31) (t : Int) : 0 ≤ curV l t := curTo_pos l t _
theorem gr_ge {m : S31 → Bool} {l : List S31} {t : Int} {j : Nat} (h : j < l.length) (hc : grP m (curV l t) t (rd_T31 l j)) : (rd_T31 l j).f5 ≤ grV m l t := grTo_ge m _ t l _ j h hc
theorem gr_at (m : S31 → Bool) (l : List S31) (t : Int) : grV m l t = 0 ∨ ∃ j : Nat, j < l.length ∧ grP m (curV l t) t (rd_T31 l j) ∧ (rd_T31 l j).f5 = grV m l t := grTo_at m _ t l _
theorem gr_pos (m : S31 → Bool) (l : List S31) (t : Int) : 0 ≤ grV m l t := grTo_pos m _ t l _
theorem level_f (l : List S31) (z lo hi t : Int) : skiarealaw49_level.f l z lo hi t = some (grV (lvlB z lo hi) l t) := rfl
theorem right_len {l : List S31} (h : RightP l) : l.length ≤ 9223372036854775807 := by have := h.2.1; omega
end Go.Proofs.Ytibmbffhlicpaaa.A
