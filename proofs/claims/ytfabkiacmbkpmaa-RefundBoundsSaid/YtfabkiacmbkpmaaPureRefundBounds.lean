/- No more is paid back than was paid, and more closures never pay back less. Condition: none. -/
import Derived.Test.YtfabkiacmbkpmaaAx21
import Derived.Test.YtfabkiacmbkpmaaM2
import Derived.Test.YtfabkiacmbkpmaaOpen
namespace Go.Proofs.Ytfabkiacmbkpmaa.Pure
open Go.RowKit Go.Proofs.Ytfabkiacmbkpmaa.A Go.Proofs.YtfabkiacmbkpmaaW.PrintWords Go.Proofs.YtfabkiacmbkpmaaW.PrintLast
set_option linter.unusedVariables false
def moreV (l d : List Int) (i : Nat) : Int := if i < d.length then mx (rd l i) (mn (rd d i) 1000) else rd l i
def moreL (l d : List Int) (j : Nat) : List Int := (List.range j).map (moreV l d)
theorem moreL_succ (l d : List Int) (j : Nat) : moreL l d j ++ [moreV l d j] = moreL l d (j + 1) := by simp [moreL, List.range_succ]
theorem moreL_len (l d : List Int) (j : Nat) : (moreL l d j).length = j := by simp [moreL]
theorem moreL_rd (l d : List Int) (m i : Nat) (h : i < m) : rd (moreL l d m) i = moreV l d i := by simp [moreL, rd, List.getD_eq_getElem?_getD, h]
theorem more_bd (l d : List Int) (i : Nat) (h : 0 ≤ rd l i ∧ rd l i ≤ 1000) : rd l i ≤ moreV l d i ∧ moreV l d i ≤ 1000 := by
  unfold moreV
  split
  · unfold mx mn; constructor <;> split <;> split <;> omega
  · omega
theorem RefundBounds : ∀ (a0_0 : Int) (a0_1 : Int) (a1 : Int) (l2_0 : List Int) (l2_1 : List Int), InI64 a0_0 → InI64 a0_1 → InI64 a1 → GoodL (fun x => InI64 x) l2_0 → GoodL (fun x => InI64 x) l2_1 → ∃ k, skiarealaw36_RefundBounds.f k a0_0 a0_1 a1 l2_0 l2_1 = some true := by
  intro L R p l d _ _ _ hl _
  apply Ev.rounds
  simp only [skiarealaw36_RefundBounds.f, days_f _ _ _ _ hl.1, Option.bind_some]
  refine Ev.bind alive_ev (Ev.yes rfl ?_)
  by_cases h : (l.length : Int) > 100
  · exact Ev.yes h (Ev.now _)
  refine Ev.no h ?_
  by_cases hg : ((0 ≤ L ∧ L ≤ 1000) ∧ (0 ≤ R ∧ R ≤ 1000) ∧ (0 ≤ p ∧ p ≤ 100000000)) ∧ (1 ≤ l.length ∧ l.length ≤ 64) ∧ l.all shareB = true
  · obtain ⟨⟨hL, hR, hp⟩, hn, ha⟩ := hg
    have good : ∀ (L' R' : Int) (l' : List Int), (0 ≤ L' ∧ L' ≤ 1000) → (0 ≤ R' ∧ R' ≤ 1000) → l'.length = l.length → l'.all shareB = true → daysV L' R' p l' = (dsum L' R' l' (evens p l.length) l.length, 0) := by
      intro L' R' l' h1 h2 h3 h4
      unfold daysV
      rw [if_neg (not_not_intro ⟨h1, h2, hp⟩), if_neg (not_not_intro (by omega)), if_neg (by rw [h4]; decide), h3]
    have e0 := good L R l hL hR rfl ha
    rw [e0]
    refine Ev.yes rfl ?_
    have hmore : ∀ i : Nat, i < l.length → rd l i ≤ moreV l d i ∧ moreV l d i ≤ 1000 := fun i hi => more_bd l d i (share_rd ha i hi)
    have hall : (moreL l d l.length).all shareB = true := by
      refine (all_of_rd _ _).2 fun i hi => ?_
      rw [moreL_len] at hi
      rw [moreL_rd _ _ _ _ hi]
      have h1 := hmore i hi
      have h2 := share_rd ha i hi
      simp only [shareB, decide_eq_true_eq]; omega
    have b0 := dsum_bd p L R l l.length hp.1 hp.2 hR.1 hR.2 l.length (Nat.le_refl _)
    have ps : ∀ (L' R' : Int) (l' : List Int), 0 ≤ R' → R' ≤ 1000 → dsum L' R' l' (evens p l.length) l.length ≤ p := fun L' R' l' h1 h2 => by
      have := dsum_le_psum p L' R' l' l.length hp.1 h1 h2 l.length (Nat.le_refl _)
      rwa [psum_all p l.length hp.1 hn.1] at this
    have key : ∀ dd j : Nat, l.length - j = dd → j ≤ l.length → Ev (fun k => skiarealaw36_RefundBounds.l0 k p l (dsum L R l (evens p l.length) l.length) (moreL l d j) j L R l d) true := by
      intro dd
      induction dd with
      | zero =>
        intro j hd hj
        obtain rfl : j = l.length := by omega
        have t2 : Int.tdiv L 2 = L / 2 := Int.tdiv_eq_ediv_of_nonneg hL.1
        have w2 : wrap64 (L / 2) = L / 2 := wrap_id (by omega)
        have w1 : wrap64 (R + 1) = R + 1 := wrap_id (by omega)
        have hmn : R ≤ mn 1000 (R + 1) ∧ mn 1000 (R + 1) ≤ 1000 ∧ 0 ≤ mn 1000 (R + 1) := by unfold mn; split <;> omega
        have e1 := good L R (moreL l d l.length) hL hR (moreL_len _ _ _) hall
        have e2 := good (L / 2) R l (by omega) hR rfl ha
        have e3 := good L (mn 1000 (R + 1)) l hL ⟨hmn.2.2, hmn.2.1⟩ rfl ha
        have m1 := dsum_mono p L L R R l (moreL l d l.length) l.length hp.1 (Int.le_refl _) hR.1 (Int.le_refl _) l.length (Nat.le_refl _) (fun i hi => by rw [moreL_rd _ _ _ _ hi]; exact (hmore i hi).1)
        have m2 := dsum_mono p L (L / 2) R R l l l.length hp.1 (Int.le_refl _) hR.1 (by omega) l.length (Nat.le_refl _) (fun i hi => Int.le_refl _)
        have m3 := dsum_mono p L L R (mn 1000 (R + 1)) l l l.length hp.1 hmn.1 hmn.2.2 (Int.le_refl _) l.length (Nat.le_refl _) (fun i hi => Int.le_refl _)
        refine Ev.step (fun k => by rw [skiarealaw36_RefundBounds.l0, if_neg (by omega), days_f _ _ _ _ (by rw [moreL_len]; omega), Option.bind_some, days_f _ _ _ _ hl.1, Option.bind_some, days_f _ _ _ _ hl.1, Option.bind_some, t2, w2, w1, e1, e2, e3]) ?_
        exact Ev.yes rfl (Ev.yes rfl (Ev.yes rfl (Ev.yes b0.1 (Ev.yes (ps _ _ _ hR.1 hR.2) (Ev.yes m1 (Ev.yes (ps _ _ _ hR.1 hR.2) (Ev.yes m2 (Ev.val (decide_eq_true m3)))))))))
      | succ dd ih =>
        intro j hd hj
        have hw : wrap64 ((j : Int) + 1) = ((j + 1 : Nat) : Int) := by rw [wrap_id (by omega)]; rfl
        have hlen := moreL_len l d j
        by_cases hjd : (j : Int) < d.length
        · have hv : mx (rd l j) (mn (rd d j) 1000) = moreV l d j := by unfold moreV; rw [if_pos (by omega)]
          exact Ev.step (fun k => by rw [skiarealaw36_RefundBounds.l0, if_pos (by omega), if_pos (by omega), if_pos hjd, if_pos (by omega), hv, moreL_succ, hw]) (ih (j + 1) (by omega) (by omega))
        · have hv : rd l j = moreV l d j := by unfold moreV; rw [if_neg (by omega)]
          exact Ev.step (fun k => by rw [skiarealaw36_RefundBounds.l0, if_pos (by omega), if_pos (by omega), if_neg hjd, if_pos (by omega), hv, moreL_succ, hw]) (ih (j + 1) (by omega) (by omega))
    exact key l.length 0 (by omega) (by omega)
  · have : daysV L R p l = (0, 2) ∨ daysV L R p l = (0, 1) := by
      unfold daysV
      by_cases h1 : (0 ≤ L ∧ L ≤ 1000) ∧ (0 ≤ R ∧ R ≤ 1000) ∧ (0 ≤ p ∧ p ≤ 100000000)
      · rw [if_neg (not_not_intro h1)]
        by_cases h2 : 1 ≤ l.length ∧ l.length ≤ 64
        · rw [if_neg (not_not_intro h2)]
          cases h3 : l.all shareB with
          | false => left; rfl
          | true => exact absurd ⟨h1, h2, h3⟩ hg
        · right; rw [if_pos h2]
      · left; rw [if_pos h1]
    rcases this with h1 | h1 <;> rw [h1] <;> exact Ev.no (by decide) (Ev.val (by simp))
end Go.Proofs.Ytfabkiacmbkpmaa.Pure
