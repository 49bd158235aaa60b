/- What the group's price and the reference's one compute, and both Costs: the same. Condition: lists that a machine can hold. -/
import Derived.Test.YtdklkjgcnibbgaaAx9
import Derived.Test.YtdklkjgcnibbgaaAx25
import Derived.Test.YtdklkjgcnibbgaaGPlanR
namespace Go.Proofs.Ytdklkjgcnibbgaa.Pure
open Go.RowKit Go.Proofs.Ytdklkjgcnibbgaa.A Go.Proofs.YtdklkjgcnibbgaaW.PrintWords Go.Proofs.YtdklkjgcnibbgaaW.PrintLast Go.Proofs.YtdklkjgcnibbgaaW.PrintMore
set_option linter.unusedVariables false
set_option linter.unusedSimpArgs false
/-- Person k of a bundle may stand there. -/
def okAt (n : Nat) (ps : List Int) (k : Nat) : Bool := decide (0 ≤ rd ps k ∧ rd ps k < n) && (decide (k = 0) || decide (rd ps ((k : Int) - 1) < rd ps k))
def okTo (n : Nat) (ps : List Int) : Nat → Bool
  | 0 => true
  | k + 1 => okTo n ps k && okAt n ps k
/-- The adults among the first k. -/
def adTo (ages ps : List Int) : Nat → Int
  | 0 => 0
  | k + 1 => if rd ages (rd ps k) ≥ 16 then adTo ages ps k + 1 else adTo ages ps k
theorem ad_in (ages ps : List Int) : ∀ k, 0 ≤ adTo ages ps k ∧ adTo ages ps k ≤ k
  | 0 => by simp [adTo]
  | k + 1 => by have := ad_in ages ps k; rw [adTo]; split <;> omega
def holdsV (ages : List Int) (o : S45) (ps : List Int) : Bool := decide (adTo ages ps ps.length ≤ o.f1) && decide ((ps.length : Int) - adTo ages ps ps.length ≤ o.f2)
/-- What a bundle costs, and whether it is valid by itself. -/
def oneV (ages prices : List Int) (l : List S45) (o : Int) (ps : List Int) : Int × Bool :=
  if okTo ages.length ps ps.length = true then
    (if o = 0 then (if ps.length = 1 then (rd prices (rd ps 0), true) else (0, false))
     else if idAt l o < l.length ∧ ps.length ≠ 0 ∧ holdsV ages (rd_T45 l (idAt l o : Nat)) ps = true then ((rd_T45 l (idAt l o : Nat)).f3, true) else (0, false))
  else (0, false)
theorem okTo_le {n : Nat} {ps : List Int} {k : Nat} (h : okTo n ps k = true) : ∀ {j : Nat}, j < k → okAt n ps j = true := by
  intro j hj
  induction k with
  | zero => omega
  | succ k ih =>
    rw [okTo, Bool.and_eq_true] at h
    by_cases e : j = k
    · subst e; exact h.2
    · exact ih h.1 (by omega)
theorem okTo_no {n : Nat} {ps : List Int} {k : Nat} (h : okTo n ps k = false) : ∀ d, okTo n ps (k + d) = false
  | 0 => h
  | d + 1 => by rw [← Nat.add_assoc, okTo, okTo_no h d]; rfl
theorem okAt_in {n : Nat} {ps : List Int} {j : Nat} (h : okAt n ps j = true) : 0 ≤ rd ps j ∧ rd ps j < n := by
  unfold okAt at h
  rw [Bool.and_eq_true] at h
  exact of_decide_eq_true h.1
theorem one_no {ages prices : List Int} {l : List S45} {o : Int} {ps : List Int} {k : Nat} (hk : k < ps.length) (h : okAt ages.length ps k = false) : oneV ages prices l o ps = (0, false) := by
  have := okTo_no (n := ages.length) (ps := ps) (k := k + 1) (by rw [okTo, h, Bool.and_false]) (ps.length - (k + 1))
  rw [show k + 1 + (ps.length - (k + 1)) = ps.length by omega] at this
  unfold oneV
  rw [if_neg (by rw [this]; decide)]
theorem holds_l0 (ages : List Int) (o : S45) (ps : List Int) (hp : ps.length ≤ 9223372036854775807) (hok : ∀ j : Nat, j < ps.length → 0 ≤ rd ps j ∧ rd ps j < ages.length) : ∀ (d j : Nat), ps.length - j = d → j ≤ ps.length → Ev (fun k => group_holds.l0 k ages ps (adTo ages ps j) ps ps.length j o.f0 o.f1 o.f2 o.f3) (holdsV ages o ps)
  | 0, j, hd, hj => by
    obtain rfl : j = ps.length := by omega
    have h1 := ad_in ages ps ps.length
    refine Ev.step (fun k => by rw [group_holds.l0, if_neg (by omega)]) ?_
    unfold holdsV
    rw [wrap_id (by omega)]
    by_cases h : adTo ages ps ps.length ≤ o.f1
    · rw [decide_eq_true h, Bool.true_and]; exact Ev.yes h (Ev.now _)
    · rw [decide_eq_false h, Bool.false_and]; exact Ev.no h (Ev.now _)
  | d + 1, j, hd, hj => by
    have ih := holds_l0 ages o ps hp hok d (j + 1) (by omega) (by omega)
    have h1 := ad_in ages ps j
    have h2 := hok j (by omega)
    have hn : wrap64 ((j : Int) + 1) = ((j + 1 : Nat) : Int) := wS j _ hp (by omega)
    have ha : wrap64 (adTo ages ps j + 1) = adTo ages ps j + 1 := wrap_id (by omega)
    rw [adTo] at ih
    refine Ev.step (fun k => by rw [group_holds.l0, if_pos (by omega), if_pos (by omega), if_pos (by omega), if_pos h2.1, if_pos h2.2, hn, ha]) ?_
    by_cases h : rd ages (rd ps j) ≥ 16
    · rw [if_pos h] at ih; exact Ev.yes h ih
    · rw [if_neg h] at ih; exact Ev.no h ih
theorem holds_ev (ages : List Int) (o : S45) (ps : List Int) (hp : ps.length ≤ 9223372036854775807) (hok : ∀ j : Nat, j < ps.length → 0 ≤ rd ps j ∧ rd ps j < ages.length) : Ev (fun k => group_holds.f k o.f0 o.f1 o.f2 o.f3 ages ps) (holdsV ages o ps) := holds_l0 ages o ps hp hok ps.length 0 (by omega) (by omega)
theorem ok_all {n : Nat} {ps : List Int} (h : okTo n ps ps.length = true) : ∀ j : Nat, j < ps.length → 0 ≤ rd ps j ∧ rd ps j < n := fun j hj => okAt_in (okTo_le h hj)
theorem price_l0 (ages prices : List Int) (l : List S45) (o : Int) (ps : List Int) (ha : ages.length ≤ 100) (he : ages.length = prices.length) (hp : ps.length ≤ 9223372036854775807) (hl : l.length ≤ 9223372036854775807) : ∀ (d j : Nat), ps.length - j = d → j ≤ ps.length → okTo ages.length ps j = true → Ev (fun k => group_price.l0 k ages prices l ps ps.length j o ps) (oneV ages prices l o ps)
  | 0, j, hd, hj, hok => by
    obtain rfl : j = ps.length := by omega
    refine Ev.step (fun k => by rw [group_price.l0, if_neg (by omega)]) ?_
    unfold oneV
    rw [if_pos hok]
    by_cases h0 : o = 0
    · rw [if_pos h0]
      refine Ev.yes h0 ?_
      by_cases h1 : ps.length = 1
      · have h2 := ok_all hok 0 (by omega)
        rw [if_pos h1]
        exact Ev.yes (by omega) (Ev.yes (by omega) (Ev.yes h2.1 (Ev.yes (by have := h2.2; rw [he] at this; exact this) (Ev.now _))))
      · rw [if_neg h1]; exact Ev.no (by omega) (Ev.now _)
    · rw [if_neg h0]
      refine Ev.no h0 (Ev.bind (a := offerV l o) (Ev.now _) ?_)
      have ht : ∀ t, Ev (fun k => group_price.j2 k l t true) (0, false) := fun t => Ev.step (fun k => by rw [group_price.j2, if_pos rfl]) (Ev.now _)
      by_cases hi : idAt l o < l.length
      · have e : offerV l o = (idAt l o : Int) := if_pos hi
        rw [e]
        refine Ev.no (by omega) ?_
        by_cases hz : ps.length = 0
        · rw [if_neg (fun q => q.2.1 hz)]; exact Ev.yes (by omega) (ht _)
        · refine Ev.no (by omega) (Ev.yes (by omega) (Ev.yes (by omega) (Ev.bind (holds_ev ages _ ps hp (ok_all hok)) ?_)))
          by_cases hh : holdsV ages (rd_T45 l (idAt l o : Nat)) ps = true
          · rw [if_pos ⟨hi, hz, hh⟩, hh]
            exact Ev.step (fun k => by rw [group_price.j2, if_neg (by decide), if_pos (by omega), if_pos (by omega)]) (Ev.now _)
          · rw [if_neg (fun q => hh q.2.2), Bool.eq_false_iff.2 hh]; exact ht _
      · rw [if_neg (fun q => hi q.1)]
        have e : offerV l o = -1 := if_neg hi
        rw [e]
        exact Ev.yes (by omega) (ht _)
  | d + 1, j, hd, hj, hok => by
    have ih := price_l0 ages prices l o ps ha he hp hl d (j + 1) (by omega) (by omega)
    have hn : wrap64 ((j : Int) + 1) = ((j + 1 : Nat) : Int) := wS j _ hp (by omega)
    have hm : wrap64 ((j : Int) - 1) = (j : Int) - 1 := wrap_id (by omega)
    have hj1 : ∀ b, b = !(okAt ages.length ps j) → Ev (fun k => group_price.j1 k ages prices l ps ps.length j b o ps) (oneV ages prices l o ps) := by
      intro b hb
      refine Ev.step (fun k => by rw [group_price.j1, hn]) ?_
      by_cases h : b = true
      · rw [h] at hb
        rw [one_no (k := j) (by omega) (by simpa using hb.symm)]
        exact Ev.yes h (Ev.now _)
      · refine Ev.no h (ih ?_)
        rw [Bool.eq_false_iff.2 h] at hb
        rw [okTo, hok]; simpa using hb.symm
    have hr : inB (rd ps j) 0 (wrap64 ((ages.length : Int) - 1)) = decide (0 ≤ rd ps j ∧ rd ps j < ages.length) := by
      unfold inB; rw [wrap_id (by omega), decide_eq_decide]; omega
    refine Ev.step (fun k => by rw [group_price.l0, if_pos (by omega), if_pos (by omega), if_pos (by omega), hm]) (Ev.bindB (in_f ..) ?_)
    rw [hr]
    by_cases h1 : 0 ≤ rd ps j ∧ rd ps j < ages.length
    · refine Ev.yes (decide_eq_true h1) ?_
      by_cases h2 : j = 0
      · refine Ev.no (by omega) (hj1 _ ?_)
        unfold okAt; rw [decide_eq_true h1, decide_eq_true h2]; rfl
      · refine Ev.yes (by omega) (Ev.yes (by omega) (Ev.yes (by omega) (hj1 _ ?_)))
        unfold okAt; rw [decide_eq_true h1, decide_eq_false h2, Bool.true_and, Bool.false_or]
        by_cases h3 : rd ps ((j : Int) - 1) < rd ps j
        · rw [decide_eq_true h3, decide_eq_false (by omega)]; rfl
        · rw [decide_eq_false h3, decide_eq_true (by omega)]; rfl
    · refine Ev.no (by rw [decide_eq_false h1]; decide) (hj1 _ ?_)
      unfold okAt; rw [decide_eq_false h1]; rfl
theorem price_ev (ages prices : List Int) (l : List S45) (o : Int) (ps : List Int) (ha : ages.length ≤ 100) (he : ages.length = prices.length) (hp : ps.length ≤ 9223372036854775807) (hl : l.length ≤ 9223372036854775807) : Ev (fun k => group_price.f k ages prices l o ps) (oneV ages prices l o ps) := price_l0 ages prices l o ps ha he hp hl ps.length 0 (by omega) (by omega) rfl
theorem find_l0 (l : List S45) (x : Int) (hl : l.length ≤ 9223372036854775807) : ∀ (d j : Nat), idAt l x - j = d → j ≤ idAt l x → Ev (fun k => skiarearef24_find.l0 k l x j) (if idAt l x < l.length then ((rd_T45 l (idAt l x : Nat)).f0, (rd_T45 l (idAt l x : Nat)).f1, (rd_T45 l (idAt l x : Nat)).f2, (rd_T45 l (idAt l x : Nat)).f3, true) else (0, 0, 0, 0, false))
  | 0, j, hd, hj => by
    obtain rfl : j = idAt l x := by omega
    have hle : idAt l x ≤ l.length := List.findIdx_le_length
    by_cases h : idAt l x < l.length
    · rw [if_pos h]
      exact Ev.step (fun k => by rw [skiarearef24_find.l0, if_pos (by omega), if_pos (by omega), if_pos (beq_iff_eq.1 (id_here h))]) (Ev.now _)
    · rw [if_neg h]
      exact Ev.step (fun k => by rw [skiarearef24_find.l0, if_neg (by omega)]) (Ev.now _)
  | d + 1, j, hd, hj => by
    have hle : idAt l x ≤ l.length := List.findIdx_le_length
    have hn : ¬ (rd_T45 l j).f0 = x := by have := id_before (l := l) (x := x) (j := j) (by omega); simpa using this
    have hw : wrap64 ((j : Int) + 1) = ((j + 1 : Nat) : Int) := wS j l.length hl (by omega)
    exact Ev.step (fun k => by rw [skiarearef24_find.l0, if_pos (by omega), if_pos (by omega), if_neg hn, hw]) (find_l0 l x hl d (j + 1) (by omega) (by omega))
theorem one_l0 (ages prices : List Int) (l : List S45) (o : Int) (ps : List Int) (ha : ages.length ≤ 100) (he : ages.length = prices.length) (hp : ps.length ≤ 9223372036854775807) (hl : l.length ≤ 9223372036854775807) : ∀ (d j : Nat), ps.length - j = d → j ≤ ps.length → okTo ages.length ps j = true → Ev (fun k => skiarearef24_one.l0 k ages prices l (adTo ages ps j) ((j : Int) - adTo ages ps j) j o ps) (oneV ages prices l o ps)
  | 0, j, hd, hj, hok => by
    obtain rfl : j = ps.length := by omega
    refine Ev.step (fun k => by rw [skiarearef24_one.l0, if_neg (by omega)]) ?_
    unfold oneV
    rw [if_pos hok]
    by_cases h0 : o = 0
    · rw [if_pos h0]
      refine Ev.yes h0 ?_
      by_cases h1 : ps.length = 1
      · have h2 := ok_all hok 0 (by omega)
        rw [if_pos h1]
        exact Ev.yes (by omega) (Ev.yes (by omega) (Ev.yes h2.1 (Ev.yes (by have := h2.2; rw [he] at this; exact this) (Ev.now _))))
      · rw [if_neg h1]; exact Ev.no (by omega) (Ev.now _)
    · rw [if_neg h0]
      refine Ev.no h0 (Ev.bind (find_l0 l o hl _ 0 rfl (Nat.zero_le _)) ?_)
      have ht : ∀ a b c d, Ev (fun k => skiarearef24_one.j2 k true a b c d) (0, false) := fun a b c d => Ev.step (fun k => by rw [skiarearef24_one.j2, if_pos rfl]) (Ev.now _)
      by_cases hi : idAt l o < l.length
      · rw [if_pos hi]
        refine Ev.yes rfl ?_
        by_cases hz : ps.length = 0
        · rw [if_neg (fun q => q.2.1 hz)]; exact Ev.yes (by omega) (ht _ _ _ _)
        · refine Ev.no (by omega) ?_
          by_cases hA : adTo ages ps ps.length > (rd_T45 l (idAt l o : Nat)).f1
          · rw [if_neg (fun q => by have := q.2.2; unfold holdsV at this; rw [decide_eq_false (by omega)] at this; cases this)]
            exact Ev.yes hA (ht _ _ _ _)
          · refine Ev.no hA ?_
            by_cases hB : (ps.length : Int) - adTo ages ps ps.length > (rd_T45 l (idAt l o : Nat)).f2
            · rw [if_neg (fun q => by have := q.2.2; unfold holdsV at this; rw [decide_eq_false (p := (ps.length : Int) - adTo ages ps ps.length ≤ _) (by omega), Bool.and_false] at this; cases this), decide_eq_true hB]
              exact ht _ _ _ _
            · rw [if_pos ⟨hi, hz, by unfold holdsV; rw [decide_eq_true (by omega), decide_eq_true (by omega)]; rfl⟩, decide_eq_false hB]
              exact Ev.step (fun k => by rw [skiarearef24_one.j2, if_neg (by decide)]) (Ev.now _)
      · rw [if_neg hi, if_neg (fun q => hi q.1)]
        exact Ev.no (by decide) (ht _ _ _ _)
  | d + 1, j, hd, hj, hok => by
    have ih := one_l0 ages prices l o ps ha he hp hl d (j + 1) (by omega) (by omega)
    have hn : wrap64 ((j : Int) + 1) = ((j + 1 : Nat) : Int) := wS j _ hp (by omega)
    have hm : wrap64 ((j : Int) - 1) = (j : Int) - 1 := wrap_id (by omega)
    have hai := ad_in ages ps j
    have w1 : wrap64 (adTo ages ps j + 1) = adTo ages ps j + 1 := wrap_id (by omega)
    have w2 : wrap64 ((j : Int) - adTo ages ps j + 1) = (j : Int) - adTo ages ps j + 1 := wrap_id (by omega)
    have hj1 : ∀ b, b = !(okAt ages.length ps j) → Ev (fun k => skiarearef24_one.j1 k ages prices l (adTo ages ps j) ((j : Int) - adTo ages ps j) j (rd ps j) b o ps) (oneV ages prices l o ps) := by
      intro b hb
      refine Ev.step (fun k => by rw [skiarearef24_one.j1, hn, w1, w2]) ?_
      by_cases h : b = true
      · rw [h] at hb
        rw [one_no (k := j) (by omega) (by simpa using hb.symm)]
        exact Ev.yes h (Ev.now _)
      · rw [Bool.eq_false_iff.2 h] at hb
        have hok2 : okAt ages.length ps j = true := by simpa using hb.symm
        have hin := okAt_in hok2
        have ih := ih (by rw [okTo, hok, hok2]; rfl)
        rw [adTo] at ih
        refine Ev.no h (Ev.yes hin.1 (Ev.yes hin.2 ?_))
        by_cases h16 : rd ages (rd ps j) ≥ 16
        · rw [if_pos h16] at ih
          rw [show ((j + 1 : Nat) : Int) - (adTo ages ps j + 1) = (j : Int) - adTo ages ps j by omega] at ih
          exact Ev.yes h16 ih
        · rw [if_neg h16] at ih
          rw [show ((j + 1 : Nat) : Int) - adTo ages ps j = (j : Int) - adTo ages ps j + 1 by omega] at ih
          exact Ev.no h16 ih
    refine Ev.step (fun k => by rw [skiarearef24_one.l0, if_pos (by omega), if_pos (by omega), hm]) ?_
    have hT : ¬ (0 ≤ rd ps j ∧ rd ps j < ages.length) → true = !(okAt ages.length ps j) := fun h => by unfold okAt; rw [decide_eq_false h]; rfl
    refine Ev.ite (fun h => hj1 _ (hT (by omega))) fun h1 => Ev.ite (fun h => hj1 _ (hT (by omega))) fun h2 => ?_
    have h12 : 0 ≤ rd ps j ∧ rd ps j < ages.length := by omega
    by_cases h3 : j = 0
    · refine Ev.no (by omega) (hj1 _ ?_)
      unfold okAt; rw [decide_eq_true h12, decide_eq_true h3]; rfl
    · refine Ev.yes (by omega) (Ev.yes (by omega) (Ev.yes (by omega) (hj1 _ ?_)))
      unfold okAt; rw [decide_eq_true h12, decide_eq_false h3, Bool.true_and, Bool.false_or]
      by_cases h4 : rd ps ((j : Int) - 1) < rd ps j
      · rw [decide_eq_true h4, decide_eq_false (by omega)]; rfl
      · rw [decide_eq_false h4, decide_eq_true (by omega)]; rfl
theorem one_ev (ages prices : List Int) (l : List S45) (o : Int) (ps : List Int) (ha : ages.length ≤ 100) (he : ages.length = prices.length) (hp : ps.length ≤ 9223372036854775807) (hl : l.length ≤ 9223372036854775807) : Ev (fun k => skiarearef24_one.f k ages prices l o ps) (oneV ages prices l o ps) := one_l0 ages prices l o ps ha he hp hl ps.length 0 (by omega) (by omega) rfl
theorem one_ok {ages prices : List Int} {l : List S45} {o : Int} {ps : List Int} (h : (oneV ages prices l o ps).2 = true) : okTo ages.length ps ps.length = true := by
  unfold oneV at h
  split at h
  · assumption
  · cases h
end Go.Proofs.Ytdklkjgcnibbgaa.Pure
