/- What the two Rights, prices and Costs compute; the theory of divisions of a set of persons into bundles. Condition: lists that a machine can hold. -/
import Derived.Test.YtdklkjgcnibbgaaAx1
import Derived.Test.YtdklkjgcnibbgaaAx4
import Derived.Test.YtdklkjgcnibbgaaAx18
import Derived.Test.YtdklkjgcnibbgaaAx19
import Derived.Test.YtdklkjgcnibbgaaAx16
import Derived.Test.YtdklkjgcnibbgaaAx5
import Derived.Test.YtdklkjgcnibbgaaAx6
import Derived.Test.YtdklkjgcnibbgaaAx23
import Derived.Test.YtdklkjgcnibbgaaAx24
import Derived.Test.YtdklkjgcnibbgaaAx7
import Derived.Test.YtdklkjgcnibbgaaAx8
import Derived.Test.YtdklkjgcnibbgaaAx9
import Derived.Test.YtdklkjgcnibbgaaAx25
import Derived.Test.YtdklkjgcnibbgaaAx21
import Derived.Test.YtdklkjgcnibbgaaOpen
namespace Go.Proofs.Ytdklkjgcnibbgaa.Pure
open Go.RowKit Go.Proofs.Ytdklkjgcnibbgaa.A Go.Proofs.YtdklkjgcnibbgaaW.PrintWords Go.Proofs.YtdklkjgcnibbgaaW.PrintLast Go.Proofs.YtdklkjgcnibbgaaW.PrintMore
set_option linter.unusedVariables false
set_option linter.unusedSimpArgs false
/- What the group's Right and the reference's Right compute: the same number. Condition: lists that a machine can hold. -/
theorem wrap_id {x : Int} (h : -9223372036854775808 ≤ x ∧ x ≤ 9223372036854775807) : wrap64 x = x := by unfold wrap64; omega
theorem wS (j n : Nat) (h : n ≤ 9223372036854775807) (hj : j < n) : wrap64 ((j : Int) + 1) = ((j + 1 : Nat) : Int) := by rw [wrap_id (by omega)]; rfl
theorem Ev.yes {α : Type} {c : Prop} [Decidable c] {f g : Nat → Option α} {r : α} (h : c) (H : Ev f r) : Ev (fun k => if c then f k else g k) r := Ev.congr (fun _ => if_pos h) H
theorem Ev.no {α : Type} {c : Prop} [Decidable c] {f g : Nat → Option α} {r : α} (h : ¬ c) (H : Ev g r) : Ev (fun k => if c then f k else g k) r := Ev.congr (fun _ => if_neg h) H
theorem Ev.ite {α : Type} {c : Prop} [Decidable c] {f g : Nat → Option α} {r : α} (h : c → Ev f r) (H : ¬ c → Ev g r) : Ev (fun k => if c then f k else g k) r := by
  by_cases hc : c
  · exact Ev.yes hc (h hc)
  · exact Ev.no hc (H hc)
theorem Ev.val {α : Type} {r r' : α} (h : r = r') : Ev (fun _ => some r) r' := by subst h; exact Ev.now _
theorem Ev.is {α : Type} {o : Option α} {r : α} (h : o = some r) : Ev (fun _ => o) r := by subst h; exact Ev.now _
/-- What holds on the way of both branches. -/
theorem Ev.bindB {β : Type} {o : Option Bool} {b : Bool} {f : Nat → Bool → Option β} {r : β} (h : o = some b) (H : Ev (fun k => f k b) r) : Ev (fun k => o.bind (f k)) r := by subst h; exact H
def inB (n lo hi : Int) : Bool := decide (lo ≤ n ∧ n ≤ hi)
theorem in_f (n lo hi : Int) : group_in.f n lo hi = some (inB n lo hi) := by
  unfold group_in.f inB
  by_cases h : n ≥ lo
  · rw [if_pos h]; congr 1; rw [decide_eq_decide]; exact ⟨fun q => ⟨h, q⟩, fun q => q.2⟩
  · rw [if_neg h]; congr 1; exact (decide_eq_false fun q => h q.1).symm
theorem price_f (n : Int) : skiarearef24_price.f n = some (inB n 0 100000000) := by
  unfold skiarearef24_price.f inB
  by_cases h : n ≥ 0
  · rw [if_pos h]; congr 1; rw [decide_eq_decide]; exact ⟨fun q => ⟨h, q⟩, fun q => q.2⟩
  · rw [if_neg h]; congr 1; exact (decide_eq_false fun q => h q.1).symm
def badA (ages prices : List Int) (j : Nat) : Bool := !(inB (rd ages j) 0 120 && inB (rd prices j) 0 100000000)
def badO (o : S45) : Bool := !(inB o.f0 1 9999 && (inB o.f1 0 8 && (inB o.f2 0 8 && inB o.f3 0 100000000)))
def dupO (l : List S45) (j : Nat) : Bool := (l.take j).any (hasId (rd_T45 l j).f0)
def oLoop (l : List S45) : Nat → Nat → Int
  | 0, _ => 0
  | d + 1, j => if badO (rd_T45 l j) = true then 2 else if dupO l j = true then 7 else oLoop l d (j + 1)
def aLoop (ages prices : List Int) (l : List S45) : Nat → Nat → Int
  | 0, _ => oLoop l l.length 0
  | d + 1, j => if badA ages prices j = true then 2 else aLoop ages prices l d (j + 1)
/-- The first error. -/
def rightG (ages prices : List Int) (l : List S45) : Int := if (ages.length : Int) > 8 ∨ (l.length : Int) > 8 then 4 else if ages.length = prices.length then aLoop ages prices l ages.length 0 else 3
theorem offer_take (l : List S45) (j : Nat) : hasOffer (l.take j) (rd_T45 l j).f0 = dupO l j := by
  unfold hasOffer offerV dupO idAt
  by_cases h : ∃ x ∈ l.take j, hasId (rd_T45 l j).f0 x = true
  · rw [if_pos (List.findIdx_lt_length.2 h), List.any_eq_true.2 h, decide_eq_true (by omega)]
  · rw [if_neg (fun c => h (List.findIdx_lt_length.1 c)), decide_eq_false (by omega)]
    exact (Bool.eq_false_iff.2 fun c => h (List.any_eq_true.1 c)).symm
theorem g_l1 (l : List S45) (hl : l.length ≤ 9223372036854775807) : ∀ (d j : Nat), l.length - j = d → j ≤ l.length → Ev (fun k => group_Right.l1 k l l l.length j) (oLoop l d j)
  | 0, j, hd, hj => by
    obtain rfl : j = l.length := by omega
    rw [oLoop]
    exact Ev.step (fun k => by rw [group_Right.l1, if_neg (by omega)]) (Ev.now _)
  | d + 1, j, hd, hj => by
    have ih := g_l1 l hl d (j + 1) (by omega) (by omega)
    have hj3 : ∀ b, b = badO (rd_T45 l j) → Ev (fun k => group_Right.j3 k l j l l.length j ((rd_T45 l j).f0) b) (oLoop l (d + 1) j) := by
      intro b hb
      rw [oLoop, ← hb]
      have hn : wrap64 ((j : Int) + 1) = ((j + 1 : Nat) : Int) := wS j _ hl (by omega)
      refine Ev.step (fun k => by rw [group_Right.j3, hn, Int.toNat_natCast]) ?_
      by_cases h : b = true
      · rw [if_pos h]; exact Ev.yes h (Ev.now _)
      · rw [if_neg h]
        refine Ev.no h (Ev.yes (by omega) (Ev.yes (by omega) (Ev.bind (a := hasOffer (l.take j) (rd_T45 l j).f0) (Ev.now _) ?_)))
        rw [offer_take]
        by_cases h2 : dupO l j = true
        · rw [if_pos h2]; exact Ev.yes h2 (Ev.now _)
        · rw [if_neg h2]; exact Ev.no h2 ih
    refine Ev.step (fun k => by rw [group_Right.l1, if_pos (by omega), if_pos (by omega), if_pos (by omega)]) ?_
    refine Ev.bindB (in_f ..) (Ev.ite (fun h1 => Ev.bindB (in_f ..) (Ev.ite (fun h2 => Ev.bindB (in_f ..) (Ev.ite (fun h3 => Ev.bindB (in_f ..) (hj3 _ ?_)) fun h3 => hj3 _ ?_)) fun h2 => hj3 _ ?_)) fun h1 => hj3 _ ?_)
    · unfold badO; rw [h1, h2, h3]; simp
    · unfold badO; rw [h1, h2, Bool.eq_false_iff.2 h3]; simp
    · unfold badO; rw [h1, Bool.eq_false_iff.2 h2]; simp
    · unfold badO; rw [Bool.eq_false_iff.2 h1]; simp
theorem g_l0 (ages prices : List Int) (l : List S45) (ha : ages.length ≤ 9223372036854775807) (hl : l.length ≤ 9223372036854775807) (he : ages.length = prices.length) : ∀ (d j : Nat), ages.length - j = d → j ≤ ages.length → Ev (fun k => group_Right.l0 k ages prices l ages.length j) (aLoop ages prices l d j)
  | 0, j, hd, hj => by
    obtain rfl : j = ages.length := by omega
    rw [aLoop]
    exact Ev.step (fun k => by rw [group_Right.l0, if_neg (by omega)]; rfl) (g_l1 l hl l.length 0 (by omega) (by omega))
  | d + 1, j, hd, hj => by
    have ih := g_l0 ages prices l ha hl he d (j + 1) (by omega) (by omega)
    have hn : wrap64 ((j : Int) + 1) = ((j + 1 : Nat) : Int) := wS j _ ha (by omega)
    rw [aLoop]
    refine Ev.step (fun k => by rw [group_Right.l0, if_pos (by omega), if_pos (by omega), if_pos (by omega), hn]) ?_
    refine Ev.bindB (in_f ..) ?_
    by_cases h1 : inB (rd ages j) 0 120 = true
    · refine Ev.yes h1 (Ev.yes (by omega) (Ev.bindB (in_f ..) ?_))
      by_cases h2 : inB (rd prices j) 0 100000000 = true
      · rw [if_neg (by unfold badA; rw [h1, h2]; decide)]; exact Ev.yes h2 ih
      · rw [if_pos (by unfold badA; rw [h1, Bool.eq_false_iff.2 h2]; decide)]; exact Ev.no h2 (Ev.now _)
    · rw [if_pos (by unfold badA; rw [Bool.eq_false_iff.2 h1]; rfl)]; exact Ev.no h1 (Ev.now _)
theorem gright_ev (ages prices : List Int) (l : List S45) (ha : ages.length ≤ 9223372036854775807) (hl : l.length ≤ 9223372036854775807) : Ev (fun k => group_Right.f k ages prices l) (rightG ages prices l) := by
  have hj : ∀ b, (b = decide ((ages.length : Int) > 8 ∨ (l.length : Int) > 8)) → Ev (fun k => group_Right.j0 k ages prices l b) (rightG ages prices l) := by
    intro b hb
    refine Ev.step (fun k => by rw [group_Right.j0]) ?_
    unfold rightG
    by_cases h : (ages.length : Int) > 8 ∨ (l.length : Int) > 8
    · rw [if_pos h]; rw [decide_eq_true h] at hb; exact Ev.yes hb (Ev.now _)
    · rw [if_neg h]; rw [decide_eq_false h] at hb; subst hb
      refine Ev.no (by decide) ?_
      by_cases h2 : ages.length = prices.length
      · rw [if_pos h2]; exact Ev.yes (by omega) (g_l0 ages prices l ha hl h2 ages.length 0 (by omega) (by omega))
      · rw [if_neg h2]; exact Ev.no (by omega) (Ev.now _)
  refine Ev.ite (fun h => hj _ (decide_eq_true (.inl h)).symm) fun h => hj _ ?_
  rw [decide_eq_decide]
  exact ⟨.inr, fun c => c.resolve_left h⟩
theorem takeO_any {l : List S45} {x : Int} {k : Nat} (hk : k < l.length) : (l.take (k + 1)).any (hasId x) = ((l.take k).any (hasId x) || hasId x (rd_T45 l k)) := by
  rw [List.take_succ_eq_append_getElem hk, List.any_append, rd45_get hk]
  simp
theorem gr_l2 (l : List S45) (v : Int) (j : Nat) (hl : l.length ≤ 9223372036854775807) (hj : j < l.length) (a b c : Int) (hgo : Ev (fun k => skiarearef24_Right.l1 k l ((j + 1 : Nat) : Int)) v) : ∀ (d m : Nat), j - m = d → m ≤ j → (l.take m).any (hasId (rd_T45 l j).f0) = false → Ev (fun k => skiarearef24_Right.l2 k l j m (rd_T45 l j).f0 a b c) (if dupO l j = true then 7 else v)
  | 0, m, hd, hm, hf => by
    obtain rfl : m = j := by omega
    rw [if_neg (by unfold dupO; rw [hf]; decide)]
    have hn : wrap64 ((m : Int) + 1) = ((m + 1 : Nat) : Int) := wS m _ hl (by omega)
    exact Ev.step (fun k => by rw [skiarearef24_Right.l2, if_neg (by omega), hn]) hgo
  | d + 1, m, hd, hm, hf => by
    have hn : wrap64 ((m : Int) + 1) = ((m + 1 : Nat) : Int) := wS m _ hl (by omega)
    refine Ev.step (fun k => by rw [skiarearef24_Right.l2, if_pos (by omega), if_pos (by omega), if_pos (by omega), hn]) ?_
    have hmt : (l.take (m + 1)).any (hasId (rd_T45 l j).f0) = hasId (rd_T45 l j).f0 (rd_T45 l m) := by rw [takeO_any (by omega), hf]; rfl
    by_cases he : (rd_T45 l m).f0 = (rd_T45 l j).f0
    · have hd : dupO l j = true := by
        unfold dupO
        rw [List.any_eq_true]
        refine ⟨rd_T45 l m, ?_, by simp [hasId, he]⟩
        rw [rd45_get (show m < l.length by omega), List.mem_take_iff_getElem]
        exact ⟨m, by omega, rfl⟩
      rw [if_pos hd]
      exact Ev.yes he (Ev.now _)
    · exact Ev.no he (gr_l2 l v j hl hj a b c hgo d (m + 1) (by omega) (by omega) (by rw [hmt]; simpa [hasId] using he))
theorem gr_l1 (l : List S45) (hl : l.length ≤ 9223372036854775807) : ∀ (d j : Nat), l.length - j = d → j ≤ l.length → Ev (fun k => skiarearef24_Right.l1 k l j) (oLoop l d j)
  | 0, j, hd, hj => by
    obtain rfl : j = l.length := by omega
    rw [oLoop]
    exact Ev.step (fun k => by rw [skiarearef24_Right.l1, if_neg (by omega)]) (Ev.now _)
  | d + 1, j, hd, hj => by
    have ih := gr_l1 l hl d (j + 1) (by omega) (by omega)
    have hj4 : ∀ b, b = badO (rd_T45 l j) → Ev (fun k => skiarearef24_Right.j4 k l j b ((rd_T45 l j).f0) ((rd_T45 l j).f1) ((rd_T45 l j).f2) ((rd_T45 l j).f3)) (oLoop l (d + 1) j) := by
      intro b hb
      rw [oLoop, ← hb]
      refine Ev.step (fun k => by rw [skiarearef24_Right.j4]) ?_
      by_cases h : b = true
      · rw [if_pos h]; exact Ev.yes h (Ev.now _)
      · rw [if_neg h]; exact Ev.no h (gr_l2 l _ j hl (by omega) _ _ _ ih j 0 (by omega) (by omega) rfl)
    refine Ev.step (fun k => by rw [skiarearef24_Right.l1, if_pos (by omega), if_pos (by omega)]) ?_
    have hT : (¬ (1 ≤ (rd_T45 l j).f0 ∧ (rd_T45 l j).f0 ≤ 9999) ∨ ¬ (0 ≤ (rd_T45 l j).f1 ∧ (rd_T45 l j).f1 ≤ 8) ∨ ¬ (0 ≤ (rd_T45 l j).f2 ∧ (rd_T45 l j).f2 ≤ 8)) → true = badO (rd_T45 l j) := by
      intro h
      unfold badO inB
      rcases h with h | h | h
      · rw [decide_eq_false h]; rfl
      · rw [decide_eq_false h]; simp
      · rw [decide_eq_false h]; simp
    refine Ev.ite (fun h => hj4 _ (hT (by omega))) fun h1 => Ev.ite (fun h => hj4 _ (hT (by omega))) fun h2 => Ev.ite (fun h => hj4 _ (hT (by omega))) fun h3 => Ev.ite (fun h => hj4 _ (hT (by omega))) fun h4 => Ev.ite (fun h => hj4 _ (hT (by omega))) fun h5 => Ev.ite (fun h => hj4 _ (hT (by omega))) fun h6 => Ev.bindB (price_f _) (hj4 _ ?_)
    unfold badO
    rw [show inB (rd_T45 l j).f0 1 9999 = true from decide_eq_true (by omega), show inB (rd_T45 l j).f1 0 8 = true from decide_eq_true (by omega), show inB (rd_T45 l j).f2 0 8 = true from decide_eq_true (by omega)]
    simp
theorem gr_l0 (ages prices : List Int) (l : List S45) (ha : ages.length ≤ 9223372036854775807) (hl : l.length ≤ 9223372036854775807) (he : ages.length = prices.length) : ∀ (d j : Nat), ages.length - j = d → j ≤ ages.length → Ev (fun k => skiarearef24_Right.l0 k ages prices l j) (aLoop ages prices l d j)
  | 0, j, hd, hj => by
    obtain rfl : j = ages.length := by omega
    rw [aLoop]
    exact Ev.step (fun k => by rw [skiarearef24_Right.l0, if_neg (by omega)]; rfl) (gr_l1 l hl l.length 0 (by omega) (by omega))
  | d + 1, j, hd, hj => by
    have ih := gr_l0 ages prices l ha hl he d (j + 1) (by omega) (by omega)
    have hn : wrap64 ((j : Int) + 1) = ((j + 1 : Nat) : Int) := wS j _ ha (by omega)
    have hj2 : ∀ b, b = badA ages prices j → Ev (fun k => skiarearef24_Right.j2 k ages prices l j b) (aLoop ages prices l (d + 1) j) := by
      intro b hb
      rw [aLoop, ← hb]
      refine Ev.step (fun k => by rw [skiarearef24_Right.j2, hn]) ?_
      by_cases h : b = true
      · rw [if_pos h]; exact Ev.yes h (Ev.now _)
      · rw [if_neg h]; exact Ev.no h ih
    refine Ev.step (fun k => by rw [skiarearef24_Right.l0, if_pos (by omega), if_pos (by omega)]) ?_
    have hT : ¬ (0 ≤ rd ages j ∧ rd ages j ≤ 120) → true = badA ages prices j := fun h => by unfold badA inB; rw [decide_eq_false h]; rfl
    refine Ev.ite (fun h => hj2 _ (hT (by omega))) fun h1 => Ev.ite (fun h => hj2 _ (hT (by omega))) fun h2 => Ev.yes (by omega) (Ev.bindB (price_f _) (hj2 _ ?_))
    unfold badA
    rw [show inB (rd ages j) 0 120 = true from decide_eq_true (by omega)]
    simp
theorem grright_ev (ages prices : List Int) (l : List S45) (ha : ages.length ≤ 9223372036854775807) (hl : l.length ≤ 9223372036854775807) : Ev (fun k => skiarearef24_Right.f k ages prices l) (rightG ages prices l) := by
  have hj : ∀ b, (b = decide ((ages.length : Int) > 8 ∨ (l.length : Int) > 8)) → Ev (fun k => skiarearef24_Right.j0 k ages prices l b) (rightG ages prices l) := by
    intro b hb
    refine Ev.step (fun k => by rw [skiarearef24_Right.j0]) ?_
    unfold rightG
    by_cases h : (ages.length : Int) > 8 ∨ (l.length : Int) > 8
    · rw [if_pos h]; rw [decide_eq_true h] at hb; exact Ev.yes hb (Ev.now _)
    · rw [if_neg h]; rw [decide_eq_false h] at hb; subst hb
      refine Ev.no (by decide) ?_
      by_cases h2 : ages.length = prices.length
      · rw [if_pos h2]; exact Ev.yes (by omega) (gr_l0 ages prices l ha hl h2 ages.length 0 (by omega) (by omega))
      · rw [if_neg h2]; exact Ev.no (by omega) (Ev.now _)
  refine Ev.ite (fun h => hj _ (decide_eq_true (.inl h)).symm) fun h => hj _ ?_
  rw [decide_eq_decide]
  exact ⟨.inr, fun c => c.resolve_left h⟩
/- The laws' own examples hold. No condition. -/
theorem alive_k : skiarealaw24_alive.f 400 = some true := by decide +kernel
theorem alive_ev : Ev (fun k => skiarealaw24_alive.f k) true := Ev.of skiarealaw24_alive.mono alive_k
/- What the group's price and the reference's one compute, and both Costs: the same. Condition: lists that a machine can hold. -/
/-- Person k of a bundle may stand there. -/
def okAt (n : Nat) (ps : List Int) (k : Nat) : Bool := decide (0 ≤ rd ps k ∧ rd ps k < n) && (decide (k = 0) || decide (rd ps ((k : Int) - 1) < rd ps k))
def okTo (n : Nat) (ps : List Int) : Nat → Bool
  | 0 => true
  | k + 1 => okTo n ps k && okAt n ps k
/-- The adults among the first k. -/
def adTo (ages ps : List Int) : Nat → Int
  | 0 => 0
  | k + 1 => if rd ages (rd ps k) ≥ 16 then adTo ages ps k + 1 else adTo ages ps k
theorem ad_in (ages ps : List Int) : ∀ k, 0 ≤ adTo ages ps k ∧ adTo ages ps k ≤ k
  | 0 => by simp [adTo]
  | k + 1 => by have := ad_in ages ps k; rw [adTo]; split <;> omega
def holdsV (ages : List Int) (o : S45) (ps : List Int) : Bool := decide (adTo ages ps ps.length ≤ o.f1) && decide ((ps.length : Int) - adTo ages ps ps.length ≤ o.f2)
/-- What a bundle costs, and whether it is valid by itself. -/
def oneV (ages prices : List Int) (l : List S45) (o : Int) (ps : List Int) : Int × Bool :=
  if okTo ages.length ps ps.length = true then
    (if o = 0 then (if ps.length = 1 then (rd prices (rd ps 0), true) else (0, false))
     else if idAt l o < l.length ∧ ps.length ≠ 0 ∧ holdsV ages (rd_T45 l (idAt l o : Nat)) ps = true then ((rd_T45 l (idAt l o : Nat)).f3, true) else (0, false))
  else (0, false)
theorem okTo_le {n : Nat} {ps : List Int} {k : Nat} (h : okTo n ps k = true) : ∀ {j : Nat}, j < k → okAt n ps j = true := by
  intro j hj
  induction k with
  | zero => omega
  | succ k ih =>
    rw [okTo, Bool.and_eq_true] at h
    by_cases e : j = k
    · subst e; exact h.2
    · exact ih h.1 (by omega)
theorem okTo_no {n : Nat} {ps : List Int} {k : Nat} (h : okTo n ps k = false) : ∀ d, okTo n ps (k + d) = false
  | 0 => h
  | d + 1 => by rw [← Nat.add_assoc, okTo, okTo_no h d]; rfl
theorem okAt_in {n : Nat} {ps : List Int} {j : Nat} (h : okAt n ps j = true) : 0 ≤ rd ps j ∧ rd ps j < n := by
  unfold okAt at h
  rw [Bool.and_eq_true] at h
  exact of_decide_eq_true h.1
theorem one_no {ages prices : List Int} {l : List S45} {o : Int} {ps : List Int} {k : Nat} (hk : k < ps.length) (h : okAt ages.length ps k = false) : oneV ages prices l o ps = (0, false) := by
  have := okTo_no (n := ages.length) (ps := ps) (k := k + 1) (by rw [okTo, h, Bool.and_false]) (ps.length - (k + 1))
  rw [show k + 1 + (ps.length - (k + 1)) = ps.length by omega] at this
  unfold oneV
  rw [if_neg (by rw [this]; decide)]
theorem holds_l0 (ages : List Int) (o : S45) (ps : List Int) (hp : ps.length ≤ 9223372036854775807) (hok : ∀ j : Nat, j < ps.length → 0 ≤ rd ps j ∧ rd ps j < ages.length) : ∀ (d j : Nat), ps.length - j = d → j ≤ ps.length → Ev (fun k => group_holds.l0 k ages ps (adTo ages ps j) ps ps.length j o.f0 o.f1 o.f2 o.f3) (holdsV ages o ps)
  | 0, j, hd, hj => by
    obtain rfl : j = ps.length := by omega
    have h1 := ad_in ages ps ps.length
    refine Ev.step (fun k => by rw [group_holds.l0, if_neg (by omega)]) ?_
    unfold holdsV
    rw [wrap_id (by omega)]
    by_cases h : adTo ages ps ps.length ≤ o.f1
    · rw [decide_eq_true h, Bool.true_and]; exact Ev.yes h (Ev.now _)
    · rw [decide_eq_false h, Bool.false_and]; exact Ev.no h (Ev.now _)
  | d + 1, j, hd, hj => by
    have ih := holds_l0 ages o ps hp hok d (j + 1) (by omega) (by omega)
    have h1 := ad_in ages ps j
    have h2 := hok j (by omega)
    have hn : wrap64 ((j : Int) + 1) = ((j + 1 : Nat) : Int) := wS j _ hp (by omega)
    have ha : wrap64 (adTo ages ps j + 1) = adTo ages ps j + 1 := wrap_id (by omega)
    rw [adTo] at ih
    refine Ev.step (fun k => by rw [group_holds.l0, if_pos (by omega), if_pos (by omega), if_pos (by omega), if_pos h2.1, if_pos h2.2, hn, ha]) ?_
    by_cases h : rd ages (rd ps j) ≥ 16
    · rw [if_pos h] at ih; exact Ev.yes h ih
    · rw [if_neg h] at ih; exact Ev.no h ih
theorem holds_ev (ages : List Int) (o : S45) (ps : List Int) (hp : ps.length ≤ 9223372036854775807) (hok : ∀ j : Nat, j < ps.length → 0 ≤ rd ps j ∧ rd ps j < ages.length) : Ev (fun k => group_holds.f k o.f0 o.f1 o.f2 o.f3 ages ps) (holdsV ages o ps) := holds_l0 ages o ps hp hok ps.length 0 (by omega) (by omega)
theorem ok_all {n : Nat} {ps : List Int} (h : okTo n ps ps.length = true) : ∀ j : Nat, j < ps.length → 0 ≤ rd ps j ∧ rd ps j < n := fun j hj => okAt_in (okTo_le h hj)
theorem price_l0 (ages prices : List Int) (l : List S45) (o : Int) (ps : List Int) (ha : ages.length ≤ 100) (he : ages.length = prices.length) (hp : ps.length ≤ 9223372036854775807) (hl : l.length ≤ 9223372036854775807) : ∀ (d j : Nat), ps.length - j = d → j ≤ ps.length → okTo ages.length ps j = true → Ev (fun k => group_price.l0 k ages prices l ps ps.length j o ps) (oneV ages prices l o ps)
  | 0, j, hd, hj, hok => by
    obtain rfl : j = ps.length := by omega
    refine Ev.step (fun k => by rw [group_price.l0, if_neg (by omega)]) ?_
    unfold oneV
    rw [if_pos hok]
    by_cases h0 : o = 0
    · rw [if_pos h0]
      refine Ev.yes h0 ?_
      by_cases h1 : ps.length = 1
      · have h2 := ok_all hok 0 (by omega)
        rw [if_pos h1]
        exact Ev.yes (by omega) (Ev.yes (by omega) (Ev.yes h2.1 (Ev.yes (by have := h2.2; rw [he] at this; exact this) (Ev.now _))))
      · rw [if_neg h1]; exact Ev.no (by omega) (Ev.now _)
    · rw [if_neg h0]
      refine Ev.no h0 (Ev.bind (a := offerV l o) (Ev.now _) ?_)
      have ht : ∀ t, Ev (fun k => group_price.j2 k l t true) (0, false) := fun t => Ev.step (fun k => by rw [group_price.j2, if_pos rfl]) (Ev.now _)
      by_cases hi : idAt l o < l.length
      · have e : offerV l o = (idAt l o : Int) := if_pos hi
        rw [e]
        refine Ev.no (by omega) ?_
        by_cases hz : ps.length = 0
        · rw [if_neg (fun q => q.2.1 hz)]; exact Ev.yes (by omega) (ht _)
        · refine Ev.no (by omega) (Ev.yes (by omega) (Ev.yes (by omega) (Ev.bind (holds_ev ages _ ps hp (ok_all hok)) ?_)))
          by_cases hh : holdsV ages (rd_T45 l (idAt l o : Nat)) ps = true
          · rw [if_pos ⟨hi, hz, hh⟩, hh]
            exact Ev.step (fun k => by rw [group_price.j2, if_neg (by decide), if_pos (by omega), if_pos (by omega)]) (Ev.now _)
          · rw [if_neg (fun q => hh q.2.2), Bool.eq_false_iff.2 hh]; exact ht _
      · rw [if_neg (fun q => hi q.1)]
        have e : offerV l o = -1 := if_neg hi
        rw [e]
        exact Ev.yes (by omega) (ht _)
  | d + 1, j, hd, hj, hok => by
    have ih := price_l0 ages prices l o ps ha he hp hl d (j + 1) (by omega) (by omega)
    have hn : wrap64 ((j : Int) + 1) = ((j + 1 : Nat) : Int) := wS j _ hp (by omega)
    have hm : wrap64 ((j : Int) - 1) = (j : Int) - 1 := wrap_id (by omega)
    have hj1 : ∀ b, b = !(okAt ages.length ps j) → Ev (fun k => group_price.j1 k ages prices l ps ps.length j b o ps) (oneV ages prices l o ps) := by
      intro b hb
      refine Ev.step (fun k => by rw [group_price.j1, hn]) ?_
      by_cases h : b = true
      · rw [h] at hb
        rw [one_no (k := j) (by omega) (by simpa using hb.symm)]
        exact Ev.yes h (Ev.now _)
      · refine Ev.no h (ih ?_)
        rw [Bool.eq_false_iff.2 h] at hb
        rw [okTo, hok]; simpa using hb.symm
    have hr : inB (rd ps j) 0 (wrap64 ((ages.length : Int) - 1)) = decide (0 ≤ rd ps j ∧ rd ps j < ages.length) := by
      unfold inB; rw [wrap_id (by omega), decide_eq_decide]; omega
    refine Ev.step (fun k => by rw [group_price.l0, if_pos (by omega), if_pos (by omega), if_pos (by omega), hm]) (Ev.bindB (in_f ..) ?_)
    rw [hr]
    by_cases h1 : 0 ≤ rd ps j ∧ rd ps j < ages.length
    · refine Ev.yes (decide_eq_true h1) ?_
      by_cases h2 : j = 0
      · refine Ev.no (by omega) (hj1 _ ?_)
        unfold okAt; rw [decide_eq_true h1, decide_eq_true h2]; rfl
      · refine Ev.yes (by omega) (Ev.yes (by omega) (Ev.yes (by omega) (hj1 _ ?_)))
        unfold okAt; rw [decide_eq_true h1, decide_eq_false h2, Bool.true_and, Bool.false_or]
        by_cases h3 : rd ps ((j : Int) - 1) < rd ps j
        · rw [decide_eq_true h3, decide_eq_false (by omega)]; rfl
        · rw [decide_eq_false h3, decide_eq_true (by omega)]; rfl
    · refine Ev.no (by rw [decide_eq_false h1]; decide) (hj1 _ ?_)
      unfold okAt; rw [decide_eq_false h1]; rfl
theorem price_ev (ages prices : List Int) (l : List S45) (o : Int) (ps : List Int) (ha : ages.length ≤ 100) (he : ages.length = prices.length) (hp : ps.length ≤ 9223372036854775807) (hl : l.length ≤ 9223372036854775807) : Ev (fun k => group_price.f k ages prices l o ps) (oneV ages prices l o ps) := price_l0 ages prices l o ps ha he hp hl ps.length 0 (by omega) (by omega) rfl
theorem find_l0 (l : List S45) (x : Int) (hl : l.length ≤ 9223372036854775807) : ∀ (d j : Nat), idAt l x - j = d → j ≤ idAt l x → Ev (fun k => skiarearef24_find.l0 k l x j) (if idAt l x < l.length then ((rd_T45 l (idAt l x : Nat)).f0, (rd_T45 l (idAt l x : Nat)).f1, (rd_T45 l (idAt l x : Nat)).f2, (rd_T45 l (idAt l x : Nat)).f3, true) else (0, 0, 0, 0, false))
  | 0, j, hd, hj => by
    obtain rfl : j = idAt l x := by omega
    have hle : idAt l x ≤ l.length := List.findIdx_le_length
    by_cases h : idAt l x < l.length
    · rw [if_pos h]
      exact Ev.step (fun k => by rw [skiarearef24_find.l0, if_pos (by omega), if_pos (by omega), if_pos (beq_iff_eq.1 (id_here h))]) (Ev.now _)
    · rw [if_neg h]
      exact Ev.step (fun k => by rw [skiarearef24_find.l0, if_neg (by omega)]) (Ev.now _)
  | d + 1, j, hd, hj => by
    have hle : idAt l x ≤ l.length := List.findIdx_le_length
    have hn : ¬ (rd_T45 l j).f0 = x := by have := id_before (l := l) (x := x) (j := j) (by omega); simpa using this
    have hw : wrap64 ((j : Int) + 1) = ((j + 1 : Nat) : Int) := wS j l.length hl (by omega)
    exact Ev.step (fun k => by rw [skiarearef24_find.l0, if_pos (by omega), if_pos (by omega), if_neg hn, hw]) (find_l0 l x hl d (j + 1) (by omega) (by omega))
theorem one_l0 (ages prices : List Int) (l : List S45) (o : Int) (ps : List Int) (ha : ages.length ≤ 100) (he : ages.length = prices.length) (hp : ps.length ≤ 9223372036854775807) (hl : l.length ≤ 9223372036854775807) : ∀ (d j : Nat), ps.length - j = d → j ≤ ps.length → okTo ages.length ps j = true → Ev (fun k => skiarearef24_one.l0 k ages prices l (adTo ages ps j) ((j : Int) - adTo ages ps j) j o ps) (oneV ages prices l o ps)
  | 0, j, hd, hj, hok => by
    obtain rfl : j = ps.length := by omega
    refine Ev.step (fun k => by rw [skiarearef24_one.l0, if_neg (by omega)]) ?_
    unfold oneV
    rw [if_pos hok]
    by_cases h0 : o = 0
    · rw [if_pos h0]
      refine Ev.yes h0 ?_
      by_cases h1 : ps.length = 1
      · have h2 := ok_all hok 0 (by omega)
        rw [if_pos h1]
        exact Ev.yes (by omega) (Ev.yes (by omega) (Ev.yes h2.1 (Ev.yes (by have := h2.2; rw [he] at this; exact this) (Ev.now _))))
      · rw [if_neg h1]; exact Ev.no (by omega) (Ev.now _)
    · rw [if_neg h0]
      refine Ev.no h0 (Ev.bind (find_l0 l o hl _ 0 rfl (Nat.zero_le _)) ?_)
      have ht : ∀ a b c d, Ev (fun k => skiarearef24_one.j2 k true a b c d) (0, false) := fun a b c d => Ev.step (fun k => by rw [skiarearef24_one.j2, if_pos rfl]) (Ev.now _)
      by_cases hi : idAt l o < l.length
      · rw [if_pos hi]
        refine Ev.yes rfl ?_
        by_cases hz : ps.length = 0
        · rw [if_neg (fun q => q.2.1 hz)]; exact Ev.yes (by omega) (ht _ _ _ _)
        · refine Ev.no (by omega) ?_
          by_cases hA : adTo ages ps ps.length > (rd_T45 l (idAt l o : Nat)).f1
          · rw [if_neg (fun q => by have := q.2.2; unfold holdsV at this; rw [decide_eq_false (by omega)] at this; cases this)]
            exact Ev.yes hA (ht _ _ _ _)
          · refine Ev.no hA ?_
            by_cases hB : (ps.length : Int) - adTo ages ps ps.length > (rd_T45 l (idAt l o : Nat)).f2
            · rw [if_neg (fun q => by have := q.2.2; unfold holdsV at this; rw [decide_eq_false (p := (ps.length : Int) - adTo ages ps ps.length ≤ _) (by omega), Bool.and_false] at this; cases this), decide_eq_true hB]
              exact ht _ _ _ _
            · rw [if_pos ⟨hi, hz, by unfold holdsV; rw [decide_eq_true (by omega), decide_eq_true (by omega)]; rfl⟩, decide_eq_false hB]
              exact Ev.step (fun k => by rw [skiarearef24_one.j2, if_neg (by decide)]) (Ev.now _)
      · rw [if_neg hi, if_neg (fun q => hi q.1)]
        exact Ev.no (by decide) (ht _ _ _ _)
  | d + 1, j, hd, hj, hok => by
    have ih := one_l0 ages prices l o ps ha he hp hl d (j + 1) (by omega) (by omega)
    have hn : wrap64 ((j : Int) + 1) = ((j + 1 : Nat) : Int) := wS j _ hp (by omega)
    have hm : wrap64 ((j : Int) - 1) = (j : Int) - 1 := wrap_id (by omega)
    have hai := ad_in ages ps j
    have w1 : wrap64 (adTo ages ps j + 1) = adTo ages ps j + 1 := wrap_id (by omega)
    have w2 : wrap64 ((j : Int) - adTo ages ps j + 1) = (j : Int) - adTo ages ps j + 1 := wrap_id (by omega)
    have hj1 : ∀ b, b = !(okAt ages.length ps j) → Ev (fun k => skiarearef24_one.j1 k ages prices l (adTo ages ps j) ((j : Int) - adTo ages ps j) j (rd ps j) b o ps) (oneV ages prices l o ps) := by
      intro b hb
      refine Ev.step (fun k => by rw [skiarearef24_one.j1, hn, w1, w2]) ?_
      by_cases h : b = true
      · rw [h] at hb
        rw [one_no (k := j) (by omega) (by simpa using hb.symm)]
        exact Ev.yes h (Ev.now _)
      · rw [Bool.eq_false_iff.2 h] at hb
        have hok2 : okAt ages.length ps j = true := by simpa using hb.symm
        have hin := okAt_in hok2
        have ih := ih (by rw [okTo, hok, hok2]; rfl)
        rw [adTo] at ih
        refine Ev.no h (Ev.yes hin.1 (Ev.yes hin.2 ?_))
        by_cases h16 : rd ages (rd ps j) ≥ 16
        · rw [if_pos h16] at ih
          rw [show ((j + 1 : Nat) : Int) - (adTo ages ps j + 1) = (j : Int) - adTo ages ps j by omega] at ih
          exact Ev.yes h16 ih
        · rw [if_neg h16] at ih
          rw [show ((j + 1 : Nat) : Int) - adTo ages ps j = (j : Int) - adTo ages ps j + 1 by omega] at ih
          exact Ev.no h16 ih
    refine Ev.step (fun k => by rw [skiarearef24_one.l0, if_pos (by omega), if_pos (by omega), hm]) ?_
    have hT : ¬ (0 ≤ rd ps j ∧ rd ps j < ages.length) → true = !(okAt ages.length ps j) := fun h => by unfold okAt; rw [decide_eq_false h]; rfl
    refine Ev.ite (fun h => hj1 _ (hT (by omega))) fun h1 => Ev.ite (fun h => hj1 _ (hT (by omega))) fun h2 => ?_
    have h12 : 0 ≤ rd ps j ∧ rd ps j < ages.length := by omega
    by_cases h3 : j = 0
    · refine Ev.no (by omega) (hj1 _ ?_)
      unfold okAt; rw [decide_eq_true h12, decide_eq_true h3]; rfl
    · refine Ev.yes (by omega) (Ev.yes (by omega) (Ev.yes (by omega) (hj1 _ ?_)))
      unfold okAt; rw [decide_eq_true h12, decide_eq_false h3, Bool.true_and, Bool.false_or]
      by_cases h4 : rd ps ((j : Int) - 1) < rd ps j
      · rw [decide_eq_true h4, decide_eq_false (by omega)]; rfl
      · rw [decide_eq_false h4, decide_eq_true (by omega)]; rfl
theorem one_ev (ages prices : List Int) (l : List S45) (o : Int) (ps : List Int) (ha : ages.length ≤ 100) (he : ages.length = prices.length) (hp : ps.length ≤ 9223372036854775807) (hl : l.length ≤ 9223372036854775807) : Ev (fun k => skiarearef24_one.f k ages prices l o ps) (oneV ages prices l o ps) := one_l0 ages prices l o ps ha he hp hl ps.length 0 (by omega) (by omega) rfl
theorem one_ok {ages prices : List Int} {l : List S45} {o : Int} {ps : List Int} (h : (oneV ages prices l o ps).2 = true) : okTo ages.length ps ps.length = true := by
  unfold oneV at h
  split at h
  · assumption
  · cases h
/- Both Costs compute the same. Condition: lists that a machine can hold; at most 100 persons. -/
def cntT : List Bool → Int
  | [] => 0
  | b :: t => (if b = true then 1 else 0) + cntT t
theorem cntT_le : ∀ s : List Bool, 0 ≤ cntT s ∧ cntT s ≤ s.length
  | [] => by simp [cntT]
  | b :: t => by have := cntT_le t; rw [cntT, List.length_cons]; split <;> omega
theorem cntT_all : ∀ s : List Bool, cntT s = s.length ↔ false ∉ s
  | [] => by simp [cntT]
  | b :: t => by
    have h1 := cntT_le t
    have h2 := cntT_all t
    rw [cntT, List.length_cons, List.mem_cons]
    cases b with
    | true =>
      rw [if_pos rfl]
      constructor
      · intro h q
        rcases q with q | q
        · cases q
        · exact h2.1 (by omega) q
      · intro h
        have := h2.2 (fun q => h (.inr q))
        omega
    | false =>
      rw [if_neg (by decide)]
      exact ⟨fun h => by omega, fun h => absurd (.inl rfl) h⟩
theorem cntT_set : ∀ (s : List Bool) (i : Nat), i < s.length → rdOf false s i = false → cntT (s.set i true) = cntT s + 1
  | [], i, h, _ => by simp at h
  | b :: t, 0, _, h => by
    have hb : b = false := h
    subst hb
    rw [List.set_cons_zero, cntT, cntT, if_pos rfl, if_neg (by decide)]
    omega
  | b :: t, i + 1, hi, h => by
    have := cntT_set t i (by simpa using hi) (by simpa [rdOf] using h)
    rw [List.set_cons_succ, cntT, cntT, this]
    omega
theorem hasf_l0 (l : List Bool) (hl : l.length ≤ 9223372036854775807) (d : Nat) : ∀ j : Nat, l.length - j = d → j ≤ l.length → ∃ r : Int, Ev (fun k => slices_Index_bool_bool.l0 k l false l.length j) r ∧ (decide (r ≥ 0) = decide (false ∈ l.drop j)) := by
  induction d with
  | zero =>
    intro j hd hj
    obtain rfl : j = l.length := by omega
    exact ⟨-1, Ev.step (fun k => by rw [slices_Index_bool_bool.l0, if_neg (by omega)]) (Ev.now _), by simp⟩
  | succ d ih =>
    intro j hd hj
    have hlt : j < l.length := by omega
    have hr : rdOf false l j = l[j] := by simp [rdOf, List.getElem?_eq_getElem hlt]
    rw [List.drop_eq_getElem_cons hlt]
    by_cases he : l[j] = false
    · exact ⟨j, Ev.step (fun k => by rw [slices_Index_bool_bool.l0, if_pos (by omega), if_pos (by omega), if_pos (by omega), hr, he, if_pos (by decide)]) (Ev.now _), by rw [he, decide_eq_true (by omega), decide_eq_true (List.mem_cons_self ..)]⟩
    · obtain ⟨r, hE, hr2⟩ := ih (j + 1) (by omega) (by omega)
      have he' : l[j] = true := by simpa using he
      refine ⟨r, Ev.step (fun k => by rw [slices_Index_bool_bool.l0, if_pos (by omega), if_pos (by omega), if_pos (by omega), hr, he', if_neg (by decide), wS j _ hl (by omega)]) hE, ?_⟩
      rw [hr2, he', decide_eq_decide, List.mem_cons]
      exact ⟨.inr, fun h => h.resolve_left (by decide)⟩
theorem hasf_ev (l : List Bool) (hl : l.length ≤ 9223372036854775807) : Ev (fun k => slices_Contains_bool_bool.f k l false) (decide (false ∈ l)) := by
  obtain ⟨r, hE, hr⟩ := hasf_l0 l hl l.length 0 (by omega) (by omega)
  rw [List.drop_zero] at hr
  rw [← hr]
  exact Ev.bind hE (Ev.now _)
theorem rd43_get {l : List S43} {j : Nat} (h : j < l.length) : rd_T43 l j = l[j] := by simp [rd_T43, List.getElem?_eq_getElem h]
/-- The persons ps are taken; nothing if one of them was before. -/
def markV : List Bool → List Int → Option (List Bool)
  | s, [] => some s
  | s, p :: ps => if rdOf false s p = true then none else markV (s.set p.toNat true) ps
/-- What the bundles cost, and whether they are valid; s are the persons of those before. -/
def costV (ages prices : List Int) (l : List S45) : List S43 → List Bool → Int → Int × Bool
  | [], s, sum => if false ∈ s then (0, false) else (sum, true)
  | B :: L, s, sum => if (oneV ages prices l B.f0 B.f1).2 = true then (match markV s B.f1 with
    | some s' => costV ages prices l L s' (wrap64 (sum + (oneV ages prices l B.f0 B.f1).1))
    | none => (0, false)) else (0, false)
def orNo (F : List Bool → Int × Bool) : Option (List Bool) → Int × Bool
  | some s => F s
  | none => (0, false)
theorem markV_len : ∀ {s : List Bool} {ps : List Int} {s' : List Bool}, markV s ps = some s' → s'.length = s.length
  | s, [], s', h => by cases h; rfl
  | s, p :: ps, s', h => by
    rw [markV] at h
    split at h
    · cases h
    · rw [markV_len h, List.length_set]
theorem rd_drop {ps : List Int} {m : Nat} (h : m < ps.length) : ps.drop m = rd ps m :: ps.drop (m + 1) := by
  rw [List.drop_eq_getElem_cons h]
  congr 1
  simp [rd, List.getElem?_eq_getElem h]
theorem cost_l1 (ages prices : List Int) (l : List S45) (L : List S43) (B : S43) (v sum : Int) (j : Nat) (hB : rd_T43 L j = B) (hj : j < L.length) (hL : L.length ≤ 9223372036854775807) (ha : ages.length ≤ 100) (hbl : B.f1.length ≤ 9223372036854775807) (hok : ∀ m : Nat, m < B.f1.length → 0 ≤ rd B.f1 m ∧ rd B.f1 m < ages.length)
    (F : List Bool → Int × Bool) (next : ∀ seen : List Bool, seen.length = ages.length → Ev (fun k => group_Cost.l0 k ages prices l (wrap64 (sum + v)) seen L L.length ((j + 1 : Nat) : Int)) (F seen) ∧ Ev (fun k => skiarearef24_Cost.l0 k ages prices l L (wrap64 (sum + v)) seen (cntT seen) ((j + 1 : Nat) : Int)) (F seen)) :
    ∀ (e m : Nat) (seen : List Bool), B.f1.length - m = e → m ≤ B.f1.length → seen.length = ages.length → Ev (fun k => group_Cost.l1 k ages prices l sum seen v L L.length j B.f1 (B.f1.length : Int) m) (orNo F (markV seen (B.f1.drop m))) ∧ Ev (fun k => skiarearef24_Cost.l1 k ages prices l L (wrap64 (sum + v)) seen (cntT seen) j m) (orNo F (markV seen (B.f1.drop m))) := by
  have HN := Aside0.mk (wS j _ hL hj)
  have hj0 : (0 : Int) ≤ j := Int.natCast_nonneg j
  have hj1 : (j : Int) < L.length := Int.ofNat_lt.2 hj
  intro e
  induction e with
  | zero =>
    intro m seen he' hm hs
    obtain rfl : m = B.f1.length := by omega
    obtain ⟨h1, h2⟩ := next seen hs
    have hm0 : ¬ ((B.f1.length : Int) < B.f1.length) := Int.lt_irrefl _
    rw [List.drop_length]
    exact ⟨Ev.step (fun k => by rw [group_Cost.l1, if_neg hm0, HN.out]) h1, Ev.step (fun k => by rw [skiarearef24_Cost.l1, if_pos hj0, if_pos hj1, hB, if_neg hm0, HN.out]) h2⟩
  | succ e ih =>
    intro m seen he' hm hs
    have hml : m < B.f1.length := by omega
    have hp := hok m hml
    have a1 : B.f1.length - (m + 1) = e := by omega
    have a2 : m + 1 ≤ B.f1.length := by omega
    have HNM := Aside0.mk (wS m _ hbl hml)
    have hp2 : rd B.f1 m < (seen.length : Int) := by rw [hs]; exact hp.2
    have hm0 : (0 : Int) ≤ m := Int.natCast_nonneg m
    have hm1 : (m : Int) < B.f1.length := Int.ofNat_lt.2 hml
    rw [rd_drop hml, markV]
    by_cases hseen : rdOf false seen (rd B.f1 m) = true
    · rw [if_pos hseen]
      show Ev _ (0, false) ∧ Ev _ (0, false)
      exact ⟨Ev.step (fun k => by rw [group_Cost.l1, if_pos hm1, if_pos hm0, if_pos hm1, if_pos hp.1, if_pos hp2, if_pos hseen]) (Ev.now _), Ev.step (fun k => by rw [skiarearef24_Cost.l1, if_pos hj0, if_pos hj1, hB, if_pos hm1, if_pos hm0, if_pos hp.1, if_pos hp2, if_pos hseen]) (Ev.now _)⟩
    · rw [if_neg hseen]
      obtain ⟨h1, h2⟩ := ih (m + 1) (seen.set (rd B.f1 m).toNat true) a1 a2 (by rw [List.length_set]; exact hs)
      have ht : (((rd B.f1 m).toNat : Nat) : Int) = rd B.f1 m := Int.toNat_of_nonneg hp.1
      have hc : cntT (seen.set (rd B.f1 m).toNat true) = cntT seen + 1 := cntT_set seen _ (by have := hp2; have := ht; omega) (by rw [ht]; simpa using hseen)
      have hcl := cntT_le seen
      have hw : wrap64 (cntT seen + 1) = cntT seen + 1 := wrap_id (by omega)
      rw [hc] at h2
      exact ⟨Ev.step (fun k => by rw [group_Cost.l1, if_pos hm1, if_pos hm0, if_pos hm1, if_pos hp.1, if_pos hp2, if_neg hseen, HNM.out]) h1, Ev.step (fun k => by rw [skiarearef24_Cost.l1, if_pos hj0, if_pos hj1, hB, if_pos hm1, if_pos hm0, if_pos hp.1, if_pos hp2, if_neg hseen, HNM.out, hw]) h2⟩
theorem cost_l0 (ages prices : List Int) (l : List S45) (L : List S43) (ha : ages.length ≤ 100) (he : ages.length = prices.length) (hl : l.length ≤ 9223372036854775807) (hL : L.length ≤ 9223372036854775807) (hb : ∀ b ∈ L, b.f1.length ≤ 9223372036854775807) :
    ∀ (d j : Nat) (seen : List Bool) (sum : Int), L.length - j = d → j ≤ L.length → seen.length = ages.length → Ev (fun k => group_Cost.l0 k ages prices l sum seen L L.length j) (costV ages prices l (L.drop j) seen sum) ∧ Ev (fun k => skiarearef24_Cost.l0 k ages prices l L sum seen (cntT seen) j) (costV ages prices l (L.drop j) seen sum)
  | 0, j, seen, sum, hd, hj, hs => by
    obtain rfl : j = L.length := by omega
    have hc := cntT_all seen
    have hm0 : ¬ ((L.length : Int) < L.length) := Int.lt_irrefl _
    rw [List.drop_length, costV]
    by_cases h : false ∈ seen
    · rw [if_pos h]
      refine ⟨Ev.step (fun k => by rw [group_Cost.l0, if_neg hm0]) (Ev.bind (hasf_ev seen (by omega)) (Ev.yes (decide_eq_true h) (Ev.now _))), Ev.step (fun k => by rw [skiarearef24_Cost.l0, if_neg hm0]) (Ev.no (fun q => ?_) (Ev.now _))⟩
      exact hc.1 (by rw [hs]; exact q) h
    · rw [if_neg h]
      have hf : ¬ (decide (false ∈ seen) = true) := fun q => h (of_decide_eq_true q)
      exact ⟨Ev.step (fun k => by rw [group_Cost.l0, if_neg hm0]) (Ev.bind (hasf_ev seen (by omega)) (Ev.no hf (Ev.now _))), Ev.step (fun k => by rw [skiarearef24_Cost.l0, if_neg hm0]) (Ev.yes (by have := hc.2 h; rw [hs] at this; exact this) (Ev.now _))⟩
  | d + 1, j, seen, sum, hd, hj, hs => by
    have hlt : j < L.length := by omega
    have hbl : (rd_T43 L j).f1.length ≤ 9223372036854775807 := by rw [rd43_get hlt]; exact hb _ (List.getElem_mem hlt)
    have P := price_ev ages prices l (rd_T43 L j).f0 (rd_T43 L j).f1 ha he hbl hl
    have O := one_ev ages prices l (rd_T43 L j).f0 (rd_T43 L j).f1 ha he hbl hl
    have hj0 : (0 : Int) ≤ j := Int.natCast_nonneg j
    have hj1 : (j : Int) < L.length := Int.ofNat_lt.2 hlt
    have g0 : ∀ {r}, Ev (fun k => (group_price.f k ages prices l (rd_T43 L j).f0 (rd_T43 L j).f1).bind fun bt111 => if bt111.2 = true then group_Cost.l1 k ages prices l sum seen bt111.1 L L.length j (rd_T43 L j).f1 ((rd_T43 L j).f1.length : Int) 0 else some (0, false)) r → Ev (fun k => group_Cost.l0 k ages prices l sum seen L L.length j) r := fun h => Ev.step (fun k => by rw [group_Cost.l0, if_pos hj1, if_pos hj0, if_pos hj1]) h
    have g1 : ∀ {r}, Ev (fun k => (skiarearef24_one.f k ages prices l (rd_T43 L j).f0 (rd_T43 L j).f1).bind fun bt238 => if bt238.2 = true then skiarearef24_Cost.l1 k ages prices l L (wrap64 (sum + bt238.1)) seen (cntT seen) j 0 else some (0, false)) r → Ev (fun k => skiarearef24_Cost.l0 k ages prices l L sum seen (cntT seen) j) r := fun h => Ev.step (fun k => by rw [skiarearef24_Cost.l0, if_pos hj1, if_pos hj0]) h
    have ed : L.drop j = rd_T43 L j :: L.drop (j + 1) := by rw [List.drop_eq_getElem_cons hlt, rd43_get hlt]
    rw [ed, costV]
    by_cases hv : (oneV ages prices l (rd_T43 L j).f0 (rd_T43 L j).f1).2 = true
    · rw [if_pos hv]
      have hok := ok_all (one_ok hv)
      obtain ⟨h1, h2⟩ := cost_l1 ages prices l L (rd_T43 L j) (oneV ages prices l (rd_T43 L j).f0 (rd_T43 L j).f1).1 sum j rfl hlt hL ha hbl hok (fun s' => costV ages prices l (L.drop (j + 1)) s' (wrap64 (sum + (oneV ages prices l (rd_T43 L j).f0 (rd_T43 L j).f1).1))) (fun seen hs => cost_l0 ages prices l L ha he hl hL hb d (j + 1) seen _ (by omega) (by omega) hs) (rd_T43 L j).f1.length 0 seen (by omega) (by omega) hs
      rw [List.drop_zero] at h1 h2
      have e : orNo (fun s' => costV ages prices l (L.drop (j + 1)) s' (wrap64 (sum + (oneV ages prices l (rd_T43 L j).f0 (rd_T43 L j).f1).1))) (markV seen (rd_T43 L j).f1) = (match markV seen (rd_T43 L j).f1 with
        | some s' => costV ages prices l (L.drop (j + 1)) s' (wrap64 (sum + (oneV ages prices l (rd_T43 L j).f0 (rd_T43 L j).f1).1))
        | none => (0, false)) := by cases markV seen (rd_T43 L j).f1 <;> rfl
      rw [e] at h1 h2
      exact ⟨g0 (Ev.bind P (Ev.yes hv h1)), g1 (Ev.bind O (Ev.yes hv h2))⟩
    · rw [if_neg hv]
      exact ⟨g0 (Ev.bind P (Ev.no hv (Ev.now _))), g1 (Ev.bind O (Ev.no hv (Ev.now _)))⟩
theorem cntT_zero : ∀ n : Nat, cntT (List.replicate n false) = 0
  | 0 => rfl
  | n + 1 => by rw [List.replicate_succ, cntT, cntT_zero n]; rfl
theorem cost_two (ages prices : List Int) (l : List S45) (L : List S43) (ha : ages.length ≤ 100) (he : ages.length = prices.length) (hl : l.length ≤ 9223372036854775807) (hL : L.length ≤ 9223372036854775807) (hb : ∀ b ∈ L, b.f1.length ≤ 9223372036854775807) :
    Ev (fun k => group_Cost.f k ages prices l L) (costV ages prices l L (List.replicate ages.length false) 0) ∧ Ev (fun k => skiarearef24_Cost.f k ages prices l L) (costV ages prices l L (List.replicate ages.length false) 0) := by
  obtain ⟨h1, h2⟩ := cost_l0 ages prices l L ha he hl hL hb L.length 0 (List.replicate ages.length false) 0 (by omega) (by omega) (List.length_replicate ..)
  rw [cntT_zero] at h2
  rw [List.drop_zero] at h1 h2
  refine ⟨Ev.yes (by omega) (Ev.yes (by omega) ?_), Ev.yes (by omega) (Ev.yes (by omega) ?_)⟩
  · rw [Int.toNat_natCast]; exact h1
  · rw [Int.toNat_natCast]; exact h2
theorem cost_both (ages prices : List Int) (l : List S45) (L : List S43) (ha : ages.length ≤ 100) (he : ages.length = prices.length) (hl : l.length ≤ 9223372036854775807) (hL : L.length ≤ 9223372036854775807) (hb : ∀ b ∈ L, b.f1.length ≤ 9223372036854775807) :
    ∃ r, Ev (fun k => group_Cost.f k ages prices l L) r ∧ Ev (fun k => skiarearef24_Cost.f k ages prices l L) r := ⟨_, cost_two ages prices l L ha he hl hL hb⟩
/- What 'right' and 'short' of the laws compute; what a right group is. Condition: lists that a machine can hold. -/
/-- The group is right. -/
structure OKG (ages prices : List Int) (l : List S45) : Prop where
  len : ages.length ≤ 8
  olen : l.length ≤ 8
  same : ages.length = prices.length
  pr : ∀ j : Nat, j < ages.length → 0 ≤ rd prices j ∧ rd prices j ≤ 100000000
  off : ∀ o ∈ l, 1 ≤ o.f0 ∧ o.f0 ≤ 9999 ∧ 0 ≤ o.f1 ∧ o.f1 ≤ 8 ∧ 0 ≤ o.f2 ∧ o.f2 ≤ 8 ∧ 0 ≤ o.f3 ∧ o.f3 ≤ 100000000
  dist : l.Pairwise (fun a b => a.f0 ≠ b.f0)
theorem oLoop_ok {l : List S45} : ∀ (d j : Nat), oLoop l d j = 0 → ∀ i, j ≤ i → i < j + d → badO (rd_T45 l i) = false ∧ dupO l i = false
  | 0, j, _, i, h1, h2 => by omega
  | d + 1, j, h, i, h1, h2 => by
    rw [oLoop] at h
    split at h
    · cases h
    · rename_i c1
      split at h
      · cases h
      · rename_i c2
        by_cases e : i = j
        · subst e; exact ⟨by simpa using c1, by simpa using c2⟩
        · exact oLoop_ok d (j + 1) h i (by omega) (by omega)
theorem aLoop_ok {ages prices : List Int} {l : List S45} : ∀ (d j : Nat), aLoop ages prices l d j = 0 → (∀ i, j ≤ i → i < j + d → badA ages prices i = false) ∧ oLoop l l.length 0 = 0
  | 0, j, h => ⟨fun i h1 h2 => by omega, h⟩
  | d + 1, j, h => by
    rw [aLoop] at h
    split at h
    · cases h
    · rename_i c1
      obtain ⟨h1, h2⟩ := aLoop_ok d (j + 1) h
      refine ⟨fun i h3 h4 => ?_, h2⟩
      by_cases e : i = j
      · subst e; simpa using c1
      · exact h1 i (by omega) (by omega)
theorem mem45 {l : List S45} {a : S45} (h : a ∈ l) : ∃ i : Nat, i < l.length ∧ rd_T45 l i = a := by
  obtain ⟨i, hi, rfl⟩ := List.getElem_of_mem h
  exact ⟨i, hi, rd45_get hi⟩
theorem right_okg {ages prices : List Int} {l : List S45} (h : rightG ages prices l = 0) : OKG ages prices l := by
  unfold rightG at h
  split at h
  · cases h
  · rename_i c1
    split at h
    · rename_i c2
      obtain ⟨h1, h2⟩ := aLoop_ok _ _ h
      have h3 := fun i (hi : i < l.length) => oLoop_ok l.length 0 h2 i (Nat.zero_le _) (by omega)
      refine ⟨by omega, by omega, c2, fun j hj => ?_, fun o ho => ?_, ?_⟩
      · have := h1 j (Nat.zero_le _) (by omega)
        unfold badA inB at this
        rw [Bool.not_eq_false', Bool.and_eq_true] at this
        exact of_decide_eq_true this.2
      · obtain ⟨i, hi, rfl⟩ := mem45 ho
        have := (h3 i hi).1
        unfold badO inB at this
        simp only [Bool.not_eq_false', Bool.and_eq_true, decide_eq_true_eq] at this
        omega
      · rw [List.pairwise_iff_getElem]
        intro i j hil hjl hij e
        have h4 := (h3 j hjl).2
        unfold dupO at h4
        rw [List.any_eq_false] at h4
        refine h4 l[i] ?_ ?_
        · rw [List.mem_take_iff_getElem]; exact ⟨i, by omega, rfl⟩
        · rw [rd45_get hjl]; simpa [hasId] using e
    · cases h
theorem right_ev (ages prices : List Int) (l : List S45) (ha : ages.length ≤ 9223372036854775807) (hl : l.length ≤ 9223372036854775807) : Ev (fun k => skiarealaw24_right.f k ages prices l) (rightG ages prices l == 0) := Ev.bind (grright_ev ages prices l ha hl) (Ev.now _)
/- Divisions of a set of persons into bundles: the theory, no program in sight. No condition. -/
/-- How many of the first n are in f. -/
def cn : Nat → (Nat → Bool) → Nat
  | 0, _ => 0
  | n + 1, f => cn n f + if f n = true then 1 else 0
theorem cn_succ (n : Nat) (f : Nat → Bool) : cn (n + 1) f = cn n f + if f n = true then 1 else 0 := rfl
theorem cn_le (n : Nat) (f : Nat → Bool) : cn n f ≤ n := by
  induction n with
  | zero => exact Nat.le_refl _
  | succ n ih => rw [cn]; split <;> omega
theorem cn_congr {n : Nat} {f g : Nat → Bool} (h : ∀ p, p < n → f p = g p) : cn n f = cn n g := by
  induction n with
  | zero => rfl
  | succ n ih => rw [cn, cn, ih (fun p hp => h p (by omega)), h n (by omega)]
theorem cn_mono {n : Nat} {f g : Nat → Bool} (h : ∀ p, p < n → f p = true → g p = true) : cn n f ≤ cn n g := by
  induction n with
  | zero => exact Nat.le_refl _
  | succ n ih =>
    have h1 := ih (fun p hp => h p (by omega))
    have h2 := h n (by omega)
    rw [cn, cn]
    split
    · rename_i hf; rw [if_pos (h2 hf)]; omega
    · omega
theorem cn_zero {n : Nat} {f : Nat → Bool} : cn n f = 0 ↔ ∀ p, p < n → f p = false := by
  induction n with
  | zero => exact ⟨fun _ p hp => by omega, fun _ => rfl⟩
  | succ n ih =>
    rw [cn]
    constructor
    · intro h p hp
      have h1 : cn n f = 0 := by omega
      by_cases e : p = n
      · subst e
        by_cases hf : f p = true
        · rw [if_pos hf] at h; omega
        · simpa using hf
      · exact ih.1 h1 p (by omega)
    · intro h
      have := ih.2 fun p hp => h p (by omega)
      rw [this, h n (by omega)]
      rfl
/-- A bundle: its offer, its persons. -/
structure Bd where
  off : Int
  mem : Nat → Bool
def adult (ages : List Int) (p : Nat) : Bool := decide (rd ages p ≥ 16)
/-- What a bundle costs, if it is valid by itself. -/
inductive Pr (ages prices : List Int) (l : List S45) : Bd → Int → Prop
  | one (b : Bd) (p : Nat) : b.off = 0 → p < ages.length → (∀ q, q < ages.length → (b.mem q = true ↔ q = p)) → Pr ages prices l b (rd prices p)
  | off (b : Bd) (o : S45) : o ∈ l → o.f0 = b.off → b.off ≠ 0 → cn ages.length b.mem ≠ 0 → (cn ages.length (fun q => b.mem q && adult ages q) : Int) ≤ o.f1 → (cn ages.length (fun q => b.mem q && !adult ages q) : Int) ≤ o.f2 → Pr ages prices l b o.f3
theorem Pr.congr {ages prices : List Int} {l : List S45} {b b' : Bd} {c : Int} (h : Pr ages prices l b c) (ho : b.off = b'.off) (hm : ∀ p, p < ages.length → b.mem p = b'.mem p) : Pr ages prices l b' c := by
  cases h with
  | one p h0 hp h1 => exact .one b' p (by rw [← ho]; exact h0) hp fun q hq => by rw [← hm q hq]; exact h1 q hq
  | off o h1 h2 h3 h4 h5 h6 =>
    refine .off b' o h1 (by rw [← ho]; exact h2) (by rw [← ho]; exact h3) ?_ ?_ ?_
    · rw [← cn_congr hm]; exact h4
    · rw [← cn_congr (f := fun q => b.mem q && adult ages q) (fun p hp => by rw [hm p hp])]; exact h5
    · rw [← cn_congr (f := fun q => b.mem q && !adult ages q) (fun p hp => by rw [hm p hp])]; exact h6
theorem Pr.pos {ages prices : List Int} {l : List S45} {b : Bd} {c : Int} (h : Pr ages prices l b c) : ∃ p, p < ages.length ∧ b.mem p = true := by
  cases h with
  | one p h0 hp h1 => exact ⟨p, hp, (h1 p hp).2 rfl⟩
  | off o h1 h2 h3 h4 h5 h6 =>
    refine Classical.byContradiction fun hn => h4 (cn_zero.2 fun p hp => ?_)
    by_cases hm : b.mem p = true
    · exact absurd ⟨p, hp, hm⟩ hn
    · simpa using hm
def without (S T : Nat → Bool) : Nat → Bool := fun p => S p && !T p
/-- S can be divided into k bundles that cost c. -/
inductive Dv (ages prices : List Int) (l : List S45) : (Nat → Bool) → Int → Nat → Prop
  | nil (S : Nat → Bool) : (∀ p, p < ages.length → S p = false) → Dv ages prices l S 0 0
  | cons (S : Nat → Bool) (b : Bd) (c d : Int) (k : Nat) : Pr ages prices l b c → (∀ p, p < ages.length → b.mem p = true → S p = true) → Dv ages prices l (without S b.mem) d k → Dv ages prices l S (c + d) (k + 1)
theorem Dv.congr {ages prices : List Int} {l : List S45} {S T : Nat → Bool} {c : Int} {k : Nat} (h : Dv ages prices l S c k) (hS : ∀ p, p < ages.length → S p = T p) : Dv ages prices l T c k := by
  induction h generalizing T with
  | nil S h0 => exact .nil T fun p hp => by rw [← hS p hp]; exact h0 p hp
  | cons S b c d k hP hm _ ih =>
    refine .cons T b c d k hP (fun p hp h => by rw [← hS p hp]; exact hm p hp h) (ih fun p hp => ?_)
    unfold without
    rw [hS p hp]
/-- The bundle of a given person may come first. -/
theorem Dv.first {ages prices : List Int} {l : List S45} {S : Nat → Bool} {c : Int} {k : Nat} (h : Dv ages prices l S c k) {p : Nat} (hp : p < ages.length) (hS : S p = true) :
    ∃ b a d j, Pr ages prices l b a ∧ b.mem p = true ∧ (∀ q, q < ages.length → b.mem q = true → S q = true) ∧ Dv ages prices l (without S b.mem) d j ∧ c = a + d ∧ k = j + 1 := by
  induction h with
  | nil S h0 => rw [h0 p hp] at hS; cases hS
  | cons S b c d k hP hm hD ih =>
    by_cases hb : b.mem p = true
    · exact ⟨b, c, d, k, hP, hb, hm, hD, rfl, rfl⟩
    · obtain ⟨b', a, d', j, hP', hb', hm', hD', e1, e2⟩ := ih (by unfold without; rw [hS]; simpa using hb)
      refine ⟨b', a, c + d', j + 1, hP', hb', fun q hq h => ?_, ?_, by omega, by omega⟩
      · have := hm' q hq h
        unfold without at this
        rw [Bool.and_eq_true] at this
        exact this.1
      · refine .cons _ b c d' j hP (fun q hq h => ?_) (hD'.congr fun q hq => ?_)
        · unfold without
          rw [hm q hq h, Bool.true_and]
          by_cases h2 : b'.mem q = true
          · have := hm' q hq h2
            unfold without at this
            rw [h] at this
            simp at this
          · simpa using h2
        · unfold without
          rw [Bool.and_assoc, Bool.and_assoc, Bool.and_comm (!b.mem q)]
/-- More offers: what was a division still is one. -/
theorem Dv.more {ages prices : List Int} {l l' : List S45} (hl : ∀ o ∈ l, o ∈ l') {S : Nat → Bool} {c : Int} {k : Nat} (h : Dv ages prices l S c k) : Dv ages prices l' S c k := by
  induction h with
  | nil S h0 => exact .nil S h0
  | cons S b c d k hP hm _ ih =>
    refine .cons S b c d k ?_ hm ih
    cases hP with
    | one p h0 hp h1 => exact .one b p h0 hp h1
    | off o h1 h2 h3 h4 h5 h6 => exact .off b o (hl o h1) h2 h3 h4 h5 h6
/-- The least cost, and with it the fewest bundles: every other division costs more, or as much with no fewer. -/
def Best (ages prices : List Int) (l : List S45) (S : Nat → Bool) (c : Int) (k : Nat) : Prop := Dv ages prices l S c k ∧ ∀ c' k', Dv ages prices l S c' k' → c < c' ∨ (c = c' ∧ k ≤ k')
theorem Best.uniq {ages prices : List Int} {l : List S45} {S : Nat → Bool} {c c' : Int} {k k' : Nat} (h : Best ages prices l S c k) (h' : Best ages prices l S c' k') : c = c' ∧ k = k' := by
  have h1 := h.2 _ _ h'.1
  have h2 := h'.2 _ _ h.1
  omega
/-- A set's best division, from the best ones of what is left after each bundle of a given person. -/
theorem Best.step {ages prices : List Int} {l : List S45} {S : Nat → Bool} {p : Nat} (hp : p < ages.length) (hS : S p = true) {c : Int} {k : Nat} (hD : Dv ages prices l S c k)
    (hle : ∀ b a d j, Pr ages prices l b a → b.mem p = true → (∀ q, q < ages.length → b.mem q = true → S q = true) → Best ages prices l (without S b.mem) d j → c < a + d ∨ (c = a + d ∧ k ≤ j + 1))
    (hex : ∀ b a, Pr ages prices l b a → b.mem p = true → (∀ q, q < ages.length → b.mem q = true → S q = true) → ∃ d j, Best ages prices l (without S b.mem) d j) : Best ages prices l S c k := by
  refine ⟨hD, fun c' k' h => ?_⟩
  obtain ⟨b, a, d, j, hP, hb, hm, hD', rfl, rfl⟩ := h.first hp hS
  obtain ⟨d0, j0, hB⟩ := hex b a hP hb hm
  have h1 := hle b a d0 j0 hP hb hm hB
  have h2 := hB.2 _ _ hD'
  omega
/-- Persons in another order: r turns it around (r is its own inverse below n). -/
theorem cn_perm_swap {n : Nat} {f : Nat → Bool} : cn (n + 1) f = cn n (fun p => f (p + 1)) + if f 0 = true then 1 else 0 := by
  induction n with
  | zero => rw [cn, cn, cn]
  | succ n ih => rw [cn, ih, cn]; omega
theorem cn_rev : ∀ (n : Nat) (f : Nat → Bool), cn n (fun p => f (n - 1 - p)) = cn n f
  | 0, _ => rfl
  | n + 1, f => by
    rw [cn_perm_swap]
    have h : cn n (fun p => f (n + 1 - 1 - (p + 1))) = cn n (fun p => f (n - 1 - p)) := cn_congr fun p hp => by rw [show n + 1 - 1 - (p + 1) = n - 1 - p by omega]
    rw [h, cn_rev n f, cn]
    rfl
theorem Pr.rev {ages prices ages' prices' : List Int} {l l' : List S45} (hn : ages'.length = ages.length) (ha : ∀ p, p < ages.length → rd ages' p = rd ages (ages.length - 1 - p : Nat)) (hpr : ∀ p, p < ages.length → rd prices' p = rd prices (ages.length - 1 - p : Nat)) (hl : ∀ o ∈ l, o ∈ l') {b : Bd} {c : Int} (h : Pr ages prices l b c) :
    Pr ages' prices' l' ⟨b.off, fun p => b.mem (ages.length - 1 - p)⟩ c := by
  cases h with
  | one p h0 hp h1 =>
    have e : rd prices p = rd prices' (ages.length - 1 - p : Nat) := by rw [hpr _ (by omega), show ages.length - 1 - (ages.length - 1 - p) = p by omega]
    rw [e]
    refine .one _ _ h0 (by omega) fun q hq => ?_
    show b.mem (ages.length - 1 - q) = true ↔ _
    rw [h1 _ (by omega)]
    omega
  | off o h1 h2 h3 h4 h5 h6 =>
    refine .off _ o (hl o h1) h2 h3 ?_ ?_ ?_
    · rw [hn]; show cn ages.length (fun p => b.mem (ages.length - 1 - p)) ≠ 0; rw [cn_rev]; exact h4
    · rw [hn]
      rw [cn_congr (g := fun p => (fun q => b.mem q && adult ages q) (ages.length - 1 - p)) (fun p hp => by show (b.mem _ && adult ages' p) = _; unfold adult; rw [ha p hp]), cn_rev ages.length (fun q => b.mem q && adult ages q)]
      exact h5
    · rw [hn]
      rw [cn_congr (g := fun p => (fun q => b.mem q && !adult ages q) (ages.length - 1 - p)) (fun p hp => by show (b.mem _ && !adult ages' p) = _; unfold adult; rw [ha p hp]), cn_rev ages.length (fun q => b.mem q && !adult ages q)]
      exact h6
theorem Dv.rev {ages prices ages' prices' : List Int} {l l' : List S45} (hn : ages'.length = ages.length) (ha : ∀ p, p < ages.length → rd ages' p = rd ages (ages.length - 1 - p : Nat)) (hpr : ∀ p, p < ages.length → rd prices' p = rd prices (ages.length - 1 - p : Nat)) (hl : ∀ o ∈ l, o ∈ l') {S : Nat → Bool} {c : Int} {k : Nat} (h : Dv ages prices l S c k) : Dv ages' prices' l' (fun p => S (ages.length - 1 - p)) c k := by
  induction h with
  | nil S h0 => exact .nil _ fun p hp => h0 _ (by omega)
  | cons S b c d k hP hm _ ih => exact .cons _ ⟨b.off, fun p => b.mem (ages.length - 1 - p)⟩ c d k (hP.rev hn ha hpr hl) (fun p hp h => hm _ (by omega) h) ih
/-- A person less: p is left out, the persons behind move up. -/
def up (p q : Nat) : Nat := if q < p then q else q + 1
def down (p q : Nat) : Nat := if q < p then q else q - 1
theorem cn_up {p : Nat} : ∀ (n : Nat) (f : Nat → Bool), p ≤ n → cn n (fun q => f (up p q)) + (if f p = true then 1 else 0) = cn (n + 1) f
  | 0, f, h => by
    obtain rfl : p = 0 := by omega
    rw [cn, cn, cn]
  | n + 1, f, h => by
    by_cases e : p = n + 1
    · subst e
      rw [cn_succ (n + 1) f]
      rw [cn_congr (f := fun q => f (up (n + 1) q)) (g := f) (fun q hq => by show f (up (n + 1) q) = f q; unfold up; rw [if_pos hq])]
    · have ih := cn_up n f (show p ≤ n by omega)
      rw [cn_succ (n + 1) f, cn_succ n (fun q => f (up p q)), ← ih]
      have : up p n = n + 1 := by unfold up; rw [if_neg (by omega)]
      show _ + (if f (up p n) = true then 1 else 0) + _ = _
      rw [this]
      omega
theorem up_ne (p q : Nat) : up p q ≠ p := by unfold up; split <;> omega
theorem down_up (p q : Nat) : down p (up p q) = q := by
  unfold up down
  by_cases h : q < p
  · rw [if_pos h, if_pos h]
  · rw [if_neg h, if_neg (by omega)]; omega
theorem up_down {p q : Nat} (h : q ≠ p) : up p (down p q) = q := by
  unfold up down
  by_cases h1 : q < p
  · rw [if_pos h1, if_pos h1]
  · rw [if_neg h1, if_neg (by omega)]; omega
theorem cn_less {p n : Nat} (f : Nat → Bool) (h : p ≤ n) : cn n (fun q => f (up p q)) ≤ cn (n + 1) f := by have := cn_up n f h; omega
/-- Without person p no more is to be paid. -/
theorem Dv.fewer {ages prices ages' prices' : List Int} {l : List S45} {n p : Nat} (hn : ages.length = n + 1) (hn' : ages'.length = n) (hp : p ≤ n) (ha : ∀ q, q < n → rd ages' q = rd ages (up p q : Nat)) (hpr : ∀ q, q < n → rd prices' q = rd prices (up p q : Nat)) (h0 : ∀ q : Nat, q < n + 1 → 0 ≤ rd prices q) (hl0 : ∀ o ∈ l, 0 ≤ o.f3)
    {S : Nat → Bool} {c : Int} {k : Nat} (h : Dv ages prices l S c k) : ∃ c' k', c' ≤ c ∧ Dv ages' prices' l (fun q => S (up p q)) c' k' := by
  have hup : ∀ q, q < n → up p q < n + 1 := fun q hq => by unfold up; split <;> omega
  induction h with
  | nil S hS => exact ⟨0, 0, Int.le_refl _, .nil _ fun q hq => hS _ (by rw [hn]; exact hup q (by omega))⟩
  | cons S b c d k hP hm _ ih =>
    obtain ⟨c', k', hle, hD⟩ := ih
    have drop : 0 ≤ c → (∀ q, q < n → b.mem (up p q) = false) → ∃ c' k', c' ≤ c + d ∧ Dv ages' prices' l (fun q => S (up p q)) c' k' := fun hc he => ⟨c', k', by omega, hD.congr fun q hq => by
      show (S (up p q) && !b.mem (up p q)) = _
      rw [he q (by omega)]; simp⟩
    have keep : Pr ages' prices' l ⟨b.off, fun q => b.mem (up p q)⟩ c → ∃ c' k', c' ≤ c + d ∧ Dv ages' prices' l (fun q => S (up p q)) c' k' := fun hP' => ⟨c + c', k' + 1, by omega, .cons _ ⟨b.off, fun q => b.mem (up p q)⟩ c c' k' hP' (fun q hq h => hm _ (by rw [hn]; exact hup q (by omega)) h) hD⟩
    cases hP with
    | one r h1 hr h2 =>
      rw [hn] at hr h2
      by_cases e : r = p
      · subst e
        refine drop (h0 r hr) fun q hq => ?_
        by_cases hb : b.mem (up r q) = true
        · exact absurd ((h2 _ (hup q hq)).1 hb) (up_ne r q)
        · simpa using hb
      · have hd : down p r < n := by unfold down; split <;> omega
        have e2 : rd prices r = rd prices' (down p r : Nat) := by rw [hpr _ hd, up_down e]
        rw [e2] at keep ⊢
        refine keep (.one _ _ h1 (by rw [hn']; exact hd) fun q hq => ?_)
        show b.mem (up p q) = true ↔ _
        rw [h2 _ (hup q (by omega))]
        exact ⟨fun h => by rw [← h, down_up], fun h => by rw [h, up_down e]⟩
    | off o h1 h2 h3 h4 h5 h6 =>
      rw [hn] at h4 h5 h6
      by_cases hz : cn n (fun q => b.mem (up p q)) = 0
      · exact drop (hl0 o h1) (cn_zero.1 hz)
      · refine keep (.off _ o h1 h2 h3 (by rw [hn']; exact hz) ?_ ?_)
        · rw [hn', cn_congr (g := fun q => (fun r => b.mem r && adult ages r) (up p q)) (fun q hq => by show (b.mem _ && adult ages' q) = _; unfold adult; rw [ha q hq])]
          exact Int.le_trans (Int.ofNat_le.2 (cn_less (fun r => b.mem r && adult ages r) hp)) h5
        · rw [hn', cn_congr (g := fun q => (fun r => b.mem r && !adult ages r) (up p q)) (fun q hq => by show (b.mem _ && !adult ages' q) = _; unfold adult; rw [ha q hq])]
          exact Int.le_trans (Int.ofNat_le.2 (cn_less (fun r => b.mem r && !adult ages r) hp)) h6
/-- A division of the others is one of those behind the gap of p. -/
def gap (p : Nat) (T : Nat → Bool) : Nat → Bool := fun q => decide (q ≠ p) && T (down p q)
theorem cn_gap {n p : Nat} (hp : p ≤ n) (T : Nat → Bool) : cn (n + 1) (gap p T) = cn n T := by
  have h := cn_up n (gap p T) hp
  rw [← h, show gap p T p = false by unfold gap; simp]
  rw [cn_congr (f := fun q => gap p T (up p q)) (g := T) (fun q hq => by unfold gap; rw [down_up, decide_eq_true (up_ne p q), Bool.true_and])]
  rfl
theorem Dv.gap {ages prices ages' prices' : List Int} {l : List S45} {n p : Nat} (hn : ages.length = n + 1) (hn' : ages'.length = n) (hp : p ≤ n) (ha : ∀ q, q < n → rd ages' q = rd ages (up p q : Nat)) (hpr : ∀ q, q < n → rd prices' q = rd prices (up p q : Nat))
    {T : Nat → Bool} {c : Int} {k : Nat} (h : Dv ages' prices' l T c k) : Dv ages prices l (Pure.gap p T) c k := by
  have hdn : ∀ q, q < n + 1 → q ≠ p → down p q < n := fun q hq he => by unfold down; split <;> omega
  induction h with
  | nil S hS =>
    refine .nil _ fun q hq => ?_
    unfold Pure.gap
    by_cases e : q = p
    · rw [decide_eq_false (fun h => h e), Bool.false_and]
    · rw [hS _ (by rw [hn']; exact hdn q (by omega) e), Bool.and_false]
  | cons S b c d k hP hm _ ih =>
    refine .cons _ ⟨b.off, Pure.gap p b.mem⟩ c d k ?_ (fun q hq h => ?_) (ih.congr fun q hq => ?_)
    · cases hP with
      | one r h1 hr h2 =>
        rw [hn'] at hr h2
        have hur : up p r < n + 1 := by unfold up; split <;> omega
        rw [hpr r hr]
        refine .one _ _ h1 (by rw [hn]; exact hur) fun q hq => ?_
        show (decide (q ≠ p) && b.mem (down p q)) = true ↔ _
        by_cases e : q = p
        · rw [decide_eq_false (fun h => h e), Bool.false_and]
          exact ⟨fun h => (by cases h), fun h => absurd (h.symm.trans e) (up_ne p r)⟩
        · rw [decide_eq_true e, Bool.true_and, h2 _ (hdn q (by omega) e)]
          exact ⟨fun h => by rw [← h, up_down e], fun h => by rw [h, down_up]⟩
      | off o h1 h2 h3 h4 h5 h6 =>
        rw [hn'] at h4 h5 h6
        refine .off _ o h1 h2 h3 (by rw [hn]; show cn (n + 1) (Pure.gap p b.mem) ≠ 0; rw [cn_gap hp]; exact h4) ?_ ?_
        · rw [hn, cn_congr (g := Pure.gap p (fun r => b.mem r && adult ages' r)) (fun q hq => ?_), cn_gap hp]
          · exact h5
          · show ((decide (q ≠ p) && b.mem (down p q)) && adult ages q) = (decide (q ≠ p) && (b.mem (down p q) && adult ages' (down p q)))
            by_cases e : q = p
            · rw [decide_eq_false (fun h => h e)]; rfl
            · rw [decide_eq_true e]; unfold adult; rw [ha _ (hdn q hq e), up_down e]; rfl
        · rw [hn, cn_congr (g := Pure.gap p (fun r => b.mem r && !adult ages' r)) (fun q hq => ?_), cn_gap hp]
          · exact h6
          · show ((decide (q ≠ p) && b.mem (down p q)) && !adult ages q) = (decide (q ≠ p) && (b.mem (down p q) && !adult ages' (down p q)))
            by_cases e : q = p
            · rw [decide_eq_false (fun h => h e)]; rfl
            · rw [decide_eq_true e]; unfold adult; rw [ha _ (hdn q hq e), up_down e]; rfl
    · have h' : (decide (q ≠ p) && b.mem (down p q)) = true := h
      rw [Bool.and_eq_true] at h'
      have e := of_decide_eq_true h'.1
      show (decide (q ≠ p) && S (down p q)) = true
      rw [h'.1, hm _ (by rw [hn']; exact hdn q (by omega) e) h'.2]; rfl
    · show (decide (q ≠ p) && (S (down p q) && !b.mem (down p q))) = ((decide (q ≠ p) && S (down p q)) && !(decide (q ≠ p) && b.mem (down p q)))
      by_cases e : q = p
      · rw [decide_eq_false (fun h => h e)]; rfl
      · rw [decide_eq_true e]; simp
/-- With one person more, at most his price more is to be paid. -/
theorem Dv.plus {ages prices ages' prices' : List Int} {l : List S45} {n p : Nat} (hn : ages.length = n + 1) (hn' : ages'.length = n) (hp : p ≤ n) (ha : ∀ q, q < n → rd ages' q = rd ages (up p q : Nat)) (hpr : ∀ q, q < n → rd prices' q = rd prices (up p q : Nat))
    {c : Int} {k : Nat} (h : Dv ages' prices' l (fun _ => true) c k) : Dv ages prices l (fun _ => true) (rd prices p + c) (k + 1) := by
  refine .cons _ ⟨0, fun q => decide (q = p)⟩ _ c k (.one _ p rfl (by omega) fun q _ => by simp) (fun _ _ _ => rfl) ((h.gap hn hn' hp ha hpr).congr fun q hq => ?_)
  show (decide (q ≠ p) && true) = (true && !decide (q = p))
  by_cases e : q = p
  · rw [decide_eq_false (fun h => h e), decide_eq_true e]; rfl
  · rw [decide_eq_true e, decide_eq_false e]; rfl
/-- The single prices of the persons of S. -/
def sumP (prices : List Int) : Nat → (Nat → Bool) → Int
  | 0, _ => 0
  | n + 1, S => sumP prices n S + if S n = true then rd prices n else 0
theorem sumP_congr {prices : List Int} {n : Nat} {S T : Nat → Bool} (h : ∀ p, p < n → S p = T p) : sumP prices n S = sumP prices n T := by
  induction n with
  | zero => rfl
  | succ n ih => rw [sumP, sumP, ih (fun p hp => h p (by omega)), h n (by omega)]
theorem sumP_take {prices : List Int} {S T : Nat → Bool} {p : Nat} : ∀ {n : Nat}, (∀ q, q < n → T q = (S q && decide (q ≠ p))) → (p < n → S p = true) → (sumP prices n S = sumP prices n T + if p < n then rd prices p else 0) ∧ (cn n S = cn n T + if p < n then 1 else 0)
  | 0, _, _ => ⟨rfl, rfl⟩
  | n + 1, hT, hS => by
    obtain ⟨h1, h2⟩ := sumP_take (prices := prices) (S := S) (T := T) (p := p) (n := n) (fun q hq => hT q (by omega)) (fun h => hS (by omega))
    have hTn := hT n (by omega)
    rw [sumP, sumP, cn, cn, h1, h2, hTn]
    by_cases e : n = p
    · subst e
      have hSn : S n = true := hS (Nat.lt_succ_self n)
      have a1 : ¬ (n < n) := Nat.lt_irrefl n
      have a2 : n < n + 1 := Nat.lt_succ_self n
      simp [hSn, a1, a2]
    · rw [decide_eq_true e, Bool.and_true]
      by_cases hp : p < n
      · have a2 : p < n + 1 := by omega
        rw [if_pos hp, if_pos hp, if_pos a2, if_pos a2]; omega
      · have a2 : ¬ (p < n + 1) := by omega
        rw [if_neg hp, if_neg hp, if_neg a2, if_neg a2]; omega
/-- Without offers everybody pays the single price. -/
theorem Dv.singles {ages prices : List Int} {S : Nat → Bool} {c : Int} {k : Nat} (h : Dv ages prices [] S c k) : c = sumP prices ages.length S ∧ k = cn ages.length S := by
  induction h with
  | nil S hS =>
    have : ∀ n, n ≤ ages.length → sumP prices n S = 0 ∧ cn n S = 0 := by
      intro n
      induction n with
      | zero => intro _; exact ⟨rfl, rfl⟩
      | succ n ih =>
        intro hn
        obtain ⟨h1, h2⟩ := ih (by omega)
        rw [sumP, cn, h1, h2, hS n (by omega)]
        exact ⟨rfl, rfl⟩
    have := this _ (Nat.le_refl _)
    exact ⟨this.1.symm, this.2.symm⟩
  | cons S b c d k hP hm _ ih =>
    cases hP with
    | one p h0 hp h1 =>
      obtain ⟨e1, e2⟩ := sumP_take (prices := prices) (S := S) (T := without S b.mem) (p := p) (n := ages.length) (fun q hq => by
        unfold without
        have := h1 q hq
        by_cases e : q = p
        · rw [this.2 e, decide_eq_false (fun h => h e)]; rfl
        · rw [Bool.eq_false_iff.2 (fun h => e (this.1 h)), decide_eq_true e]; rfl) (fun _ => hm p hp ((h1 p hp).2 rfl))
      rw [if_pos hp] at e1 e2
      omega
    | off o h1 _ _ _ _ _ => exact absurd h1 List.not_mem_nil
theorem Dv.all_singles {ages prices : List Int} {l : List S45} : ∀ (m : Nat) (S : Nat → Bool), cn ages.length S = m → Dv ages prices l S (sumP prices ages.length S) m
  | 0, S, h => by
    have hz := cn_zero.1 h
    have : sumP prices ages.length S = 0 := (Dv.singles (.nil (prices := prices) S hz)).1.symm
    rw [this]
    exact .nil S hz
  | m + 1, S, h => by
    have hex : ∃ p, p < ages.length ∧ S p = true := Classical.byContradiction fun hn => by
      have hz : cn ages.length S = 0 := cn_zero.2 fun p hp => by
        by_cases e : S p = true
        · exact absurd ⟨p, hp, e⟩ hn
        · simpa using e
      omega
    obtain ⟨p, hp, hS⟩ := hex
    obtain ⟨e1, e2⟩ := sumP_take (prices := prices) (S := S) (T := without S (fun q => decide (q = p))) (p := p) (n := ages.length) (fun q hq => by
      show (S q && !decide (q = p)) = (S q && decide (q ≠ p))
      by_cases e : q = p
      · rw [decide_eq_true e, decide_eq_false (fun h => h e)]; rfl
      · rw [decide_eq_false e, decide_eq_true e]; rfl) (fun _ => hS)
    rw [if_pos hp] at e1 e2
    have ih := Dv.all_singles (ages := ages) (prices := prices) (l := l) m (without S (fun q => decide (q = p))) (by omega)
    rw [e1, Int.add_comm]
    exact .cons S ⟨0, fun q => decide (q = p)⟩ _ _ m (.one _ p rfl hp fun q _ => by simp) (fun q hq h => by have := of_decide_eq_true h; rw [this]; exact hS) ih
end Go.Proofs.Ytdklkjgcnibbgaa.Pure
