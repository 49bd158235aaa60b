/- Plain laws of the refund chapter: what the program's and the reference's Days, Unused and Reduce compute, on every input. No condition. -/
import Derived.Test.YtfabkiacmbkpmaaAx2
import Derived.Test.YtfabkiacmbkpmaaAx3
import Derived.Test.YtfabkiacmbkpmaaAx6
import Derived.Test.YtfabkiacmbkpmaaAx7
import Derived.Test.YtfabkiacmbkpmaaAx8
import Derived.Test.YtfabkiacmbkpmaaOpen
namespace Go.Proofs.Ytfabkiacmbkpmaa.A
open Go.RowKit Go.Proofs.YtfabkiacmbkpmaaW.PrintWords Go.Proofs.YtfabkiacmbkpmaaW.PrintLast
set_option maxRecDepth 100000 in
theorem alive_ev : Ev (fun k => skiarealaw36_alive.f k) true := Ev.of skiarealaw36_alive.mono (k := 30) (by decide +kernel)
theorem Ev.yes {α : Type} {c : Prop} [Decidable c] {f g : Nat → Option α} {r : α} (h : c) (H : Ev f r) : Ev (fun k => if c then f k else g k) r := Ev.congr (fun _ => if_pos h) H
theorem Ev.no {α : Type} {c : Prop} [Decidable c] {f g : Nat → Option α} {r : α} (h : ¬ c) (H : Ev g r) : Ev (fun k => if c then f k else g k) r := Ev.congr (fun _ => if_neg h) H
theorem Ev.val {α : Type} {r r' : α} (h : r = r') : Ev (fun _ => some r) r' := by subst h; exact Ev.now _
theorem Ev.pure {α : Type} {f : Nat → Option α} {o : Option α} {r : α} (h : ∀ k, f k = o) (ho : o = some r) : Ev f r := ⟨0, fun k _ => (h k).trans ho⟩
theorem wrap_id {x : Int} (h : -9223372036854775808 ≤ x ∧ x ≤ 9223372036854775807) : wrap64 x = x := by unfold wrap64; omega
theorem share_f (x : Int) : skiarearef36_share.f x = some (shareB x) := by
  unfold skiarearef36_share.f shareB
  by_cases h : x ≥ 0
  · rw [if_pos h]; congr 1; simp [h]
  · rw [if_neg h]; congr 1; symm; apply decide_eq_false; omega
theorem price_f (x : Int) : skiarearef36_price.f x = some (decide (0 ≤ x ∧ x ≤ 100000000)) := by
  unfold skiarearef36_price.f
  by_cases h : x ≥ 0
  · rw [if_pos h]; congr 1; simp [h]
  · rw [if_neg h]; congr 1; symm; apply decide_eq_false; omega
def evPre (a : Int) (m j : Nat) : List Int := (List.range j).map fun i : Nat => evn a m i
theorem evPre_succ (a : Int) (m j : Nat) : evPre a m j ++ [evn a m j] = evPre a m (j + 1) := by simp [evPre, List.range_succ]
theorem evPre_len (a : Int) (m j : Nat) : (evPre a m j).length = j := by simp [evPre]
theorem evenR_l0 (a : Int) (m : Nat) (ha : 0 ≤ a) (ha2 : a ≤ 100000000) (hm : 1 ≤ m) (hm2 : m ≤ 64) (d : Nat) : ∀ j, m - j = d → j ≤ m →
    Ev (fun k => skiarearef34_Even.l0 k a m (evPre a m j) j) (evens a m, 0) := by
  induction d with
  | zero =>
    intro j hd hj
    obtain rfl : j = m := by omega
    refine Ev.step (fun k => by rw [skiarearef34_Even.l0, if_neg (by omega)]) (Ev.val ?_)
    simp [evPre, evens]
  | succ d ih =>
    intro j hd hj
    have hw : wrap64 ((j : Int) + 1) = ((j + 1 : Nat) : Int) := by rw [wrap_id (by omega)]; rfl
    have ht : Int.tmod a m = a % m := Int.tmod_eq_emod_of_nonneg ha
    have htd : Int.tdiv a m = a / m := Int.tdiv_eq_ediv_of_nonneg ha
    have q0 : 0 ≤ a / m := Int.ediv_nonneg ha (by omega)
    have q1 : a / m ≤ a := Int.ediv_le_self _ ha
    have hlen := evPre_len a m j
    by_cases h : (j : Int) < a % m
    · have he : evn a m j = a / m + 1 := evn_lt h
      refine Ev.step (fun k => by rw [skiarearef34_Even.l0, if_pos (by omega), if_neg (by omega), ht, if_pos h, if_pos (by omega), htd, wrap_id (x := a / m) (by omega), wrap_id (x := a / m + 1) (by omega), hw, ← he, evPre_succ]) (ih (j + 1) (by omega) (by omega))
    · have he : evn a m j = a / m := evn_ge h
      refine Ev.step (fun k => by rw [skiarearef34_Even.l0, if_pos (by omega), if_neg (by omega), ht, if_neg h, if_pos (by omega), htd, wrap_id (x := a / m) (by omega), hw, ← he, evPre_succ]) (ih (j + 1) (by omega) (by omega))
theorem evenR (a : Int) (m : Nat) (ha : 0 ≤ a) (ha2 : a ≤ 100000000) (hm : 1 ≤ m) (hm2 : m ≤ 64) : Ev (fun k => skiarearef34_Even.f k a m) (evens a m, 0) := by
  refine Ev.congr (fun k => by rw [skiarearef34_Even.f, if_neg (by omega)]) ?_
  refine Ev.step (fun k => by rw [skiarearef34_Even.j0, if_neg (by simp; omega), if_neg (by omega)]) ?_
  refine Ev.step (fun k => by rw [skiarearef34_Even.j1, if_neg (by simp; omega)]) ?_
  exact evenR_l0 a m ha ha2 hm hm2 m 0 (by omega) (by omega)
theorem daysR_l1 (p L R : Int) (l : List Int) (hp : 0 ≤ p) (hp2 : p ≤ 100000000) (hR : 0 ≤ R) (hR2 : R ≤ 1000) (h1 : 1 ≤ l.length) (h64 : l.length ≤ 64) (d : Nat) : ∀ j : Nat, l.length - j = d → j ≤ l.length →
    Ev (fun k => skiarearef36_Days.l1 k l (evens p l.length) (dsum L R l (evens p l.length) j) j L R) (dsum L R l (evens p l.length) l.length, 0) := by
  induction d with
  | zero =>
    intro j hd hj
    obtain rfl : j = l.length := by omega
    refine Ev.step (fun k => by rw [skiarearef36_Days.l1, if_neg (by omega)]) (Ev.now _)
  | succ d ih =>
    intro j hd hj
    have hw : wrap64 ((j : Int) + 1) = ((j + 1 : Nat) : Int) := by rw [wrap_id (by omega)]; rfl
    have hlen := evens_len p l.length
    obtain ⟨b0, b1⟩ := part_bd p R l.length j (by omega) hp hp2 hR hR2
    obtain ⟨b2, b3⟩ := dsum_bd p L R l l.length hp hp2 hR hR2 j hj
    by_cases h : rd l j ≥ L
    · have he : dsum L R l (evens p l.length) (j + 1) = dsum L R l (evens p l.length) j + rd (evens p l.length) j * R / 1000 := by rw [dsum, if_pos h]
      refine Ev.step (fun k => by rw [skiarearef36_Days.l1, if_pos (by omega), if_pos (by omega), if_pos h, if_pos (by omega), wrap_id (x := rd (evens p l.length) j * R) (by omega), Int.tdiv_eq_ediv_of_nonneg b0, wrap_id (x := rd (evens p l.length) j * R / 1000) (by omega), wrap_id (x := dsum L R l (evens p l.length) j + rd (evens p l.length) j * R / 1000) (by omega), ← he, hw]) (ih (j + 1) (by omega) (by omega))
    · have he : dsum L R l (evens p l.length) (j + 1) = dsum L R l (evens p l.length) j := by rw [dsum, if_neg h, Int.add_zero]
      refine Ev.step (fun k => by rw [skiarearef36_Days.l1, if_pos (by omega), if_pos (by omega), if_neg h, hw, ← he]) (ih (j + 1) (by omega) (by omega))
def daysV (L R p : Int) (l : List Int) : Int × Int :=
  if ¬ ((0 ≤ L ∧ L ≤ 1000) ∧ (0 ≤ R ∧ R ≤ 1000) ∧ (0 ≤ p ∧ p ≤ 100000000)) then (0, 2)
  else if ¬ (1 ≤ l.length ∧ l.length ≤ 64) then (0, 1)
  else if l.all shareB = false then (0, 2)
  else (dsum L R l (evens p l.length) l.length, 0)
theorem days_f (L R p : Int) (l : List Int) (h : l.length ≤ 9223372036854775807) : refund_Days.f L R p l = some (daysV L R p l) := by
  unfold refund_Days.f daysV
  rw [if_neg (not_not_intro h)]
  by_cases h1 : (0 ≤ L ∧ L ≤ 1000) ∧ (0 ≤ R ∧ R ≤ 1000) ∧ (0 ≤ p ∧ p ≤ 100000000)
  · rw [if_neg (not_not_intro h1), if_neg (not_not_intro h1)]
    by_cases h2 : 1 ≤ l.length ∧ l.length ≤ 64
    · rw [if_neg (not_not_intro h2), if_neg (not_not_intro h2)]
      by_cases h3 : l.all shareB = false
      · rw [if_pos h3, if_pos h3]
      · rw [if_neg h3, if_neg h3]
    · rw [if_pos h2, if_pos h2]
  · rw [if_pos h1, if_pos h1]
theorem daysR_l0 (p L R : Int) (l : List Int) (hp : 0 ≤ p) (hp2 : p ≤ 100000000) (hR : 0 ≤ R) (hR2 : R ≤ 1000) (h1 : 1 ≤ l.length) (h64 : l.length ≤ 64) (d : Nat) : ∀ j : Nat, l.length - j = d → j ≤ l.length → (∀ i : Nat, i < j → shareB (rd l i) = true) →
    Ev (fun k => skiarearef36_Days.l0 k p l j L R) (if l.all shareB = false then (0, 2) else (dsum L R l (evens p l.length) l.length, 0)) := by
  induction d with
  | zero =>
    intro j hd hj hall
    obtain rfl : j = l.length := by omega
    have ha : l.all shareB = true := (all_of_rd _ _).2 hall
    rw [if_neg (by rw [ha]; decide)]
    refine Ev.step (fun k => by rw [skiarearef36_Days.l0, if_neg (by omega)]) ?_
    exact Ev.bind (evenR p l.length hp hp2 h1 h64) (daysR_l1 p L R l hp hp2 hR hR2 h1 h64 l.length 0 (by omega) (by omega))
  | succ d ih =>
    intro j hd hj hall
    have hw : wrap64 ((j : Int) + 1) = ((j + 1 : Nat) : Int) := by rw [wrap_id (by omega)]; rfl
    cases hs : shareB (rd l j) with
    | true =>
      refine Ev.step (fun k => by rw [skiarearef36_Days.l0, if_pos (by omega), if_pos (by omega), share_f, hs, Option.bind_some, if_pos rfl, hw]) (ih (j + 1) (by omega) (by omega) (fun i hi => ?_))
      rcases Nat.lt_succ_iff_lt_or_eq.1 hi with h | h
      · exact hall i h
      · rw [h]; exact hs
    | false =>
      have ha : l.all shareB = false := by
        cases ha : l.all shareB with
        | false => rfl
        | true => have := (all_of_rd _ _).1 ha j (by omega); rw [hs] at this; cases this
      rw [if_pos ha]
      refine Ev.step (fun k => by rw [skiarearef36_Days.l0, if_pos (by omega), if_pos (by omega), share_f, hs, Option.bind_some, if_neg (by decide)]) (Ev.now _)
theorem daysR (L R p : Int) (l : List Int) : Ev (fun k => skiarearef36_Days.f k L R p l) (daysV L R p l) := by
  unfold daysV
  simp only [skiarearef36_Days.f, share_f, price_f, Option.bind_some]
  by_cases hL : 0 ≤ L ∧ L ≤ 1000
  · refine Ev.yes (by simpa [shareB] using hL) ?_
    by_cases hR : 0 ≤ R ∧ R ≤ 1000
    · refine Ev.yes (by simpa [shareB] using hR) ?_
      by_cases hp : 0 ≤ p ∧ p ≤ 100000000
      · rw [if_neg (not_not_intro ⟨hL, hR, hp⟩)]
        refine Ev.step (fun k => by rw [skiarearef36_Days.j0, if_neg (by simp [hp])]) ?_
        by_cases h : 1 ≤ l.length ∧ l.length ≤ 64
        · rw [if_neg (not_not_intro h)]
          refine Ev.no (by omega) ?_
          refine Ev.step (fun k => by rw [skiarearef36_Days.j1, if_neg (by simp; omega)]) ?_
          exact daysR_l0 p L R l hp.1 hp.2 hR.1 hR.2 h.1 h.2 l.length 0 (by omega) (by omega) (fun i hi => absurd hi (by omega))
        · rw [if_pos h]
          by_cases h1 : (l.length : Int) < 1
          · refine Ev.yes h1 ?_
            exact Ev.step (fun k => by rw [skiarearef36_Days.j1, if_pos rfl]) (Ev.now _)
          · refine Ev.no h1 ?_
            exact Ev.step (fun k => by rw [skiarearef36_Days.j1, if_pos (by simp; omega)]) (Ev.now _)
      · rw [if_pos (fun h => hp h.2.2)]
        exact Ev.step (fun k => by rw [skiarearef36_Days.j0, if_pos (by simp; omega)]) (Ev.now _)
    · rw [if_pos (fun h => hR h.2.1)]
      refine Ev.no (by simpa [shareB] using hR) ?_
      exact Ev.step (fun k => by rw [skiarearef36_Days.j0, if_pos rfl]) (Ev.now _)
  · rw [if_pos (fun h => hL h.1)]
    refine Ev.no (by simpa [shareB] using hL) ?_
    exact Ev.step (fun k => by rw [skiarearef36_Days.j0, if_pos rfl]) (Ev.now _)
end Go.Proofs.Ytfabkiacmbkpmaa.A
