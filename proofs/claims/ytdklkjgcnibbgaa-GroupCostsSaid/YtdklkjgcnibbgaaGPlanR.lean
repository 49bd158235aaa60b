/- What the group's Right and the reference's Right compute: the same number. Condition: lists that a machine can hold. -/
import Derived.Test.YtdklkjgcnibbgaaAx4
import Derived.Test.YtdklkjgcnibbgaaAx19
namespace Go.Proofs.Ytdklkjgcnibbgaa.Pure
open Go.RowKit Go.Proofs.Ytdklkjgcnibbgaa.A Go.Proofs.YtdklkjgcnibbgaaW.PrintWords Go.Proofs.YtdklkjgcnibbgaaW.PrintLast Go.Proofs.YtdklkjgcnibbgaaW.PrintMore
set_option linter.unusedVariables false
set_option linter.unusedSimpArgs false
theorem wrap_id {x : Int} (h : -9223372036854775808 ≤ x ∧ x ≤ 9223372036854775807) : wrap64 x = x := by unfold wrap64; omega
theorem wS (j n : Nat) (h : n ≤ 9223372036854775807) (hj : j < n) : wrap64 ((j : Int) + 1) = ((j + 1 : Nat) : Int) := by rw [wrap_id (by omega)]; rfl
theorem Ev.yes {α : Type} {c : Prop} [Decidable c] {f g : Nat → Option α} {r : α} (h : c) (H : Ev f r) : Ev (fun k => if c then f k else g k) r := Ev.congr (fun _ => if_pos h) H
theorem Ev.no {α : Type} {c : Prop} [Decidable c] {f g : Nat → Option α} {r : α} (h : ¬ c) (H : Ev g r) : Ev (fun k => if c then f k else g k) r := Ev.congr (fun _ => if_neg h) H
theorem Ev.ite {α : Type} {c : Prop} [Decidable c] {f g : Nat → Option α} {r : α} (h : c → Ev f r) (H : ¬ c → Ev g r) : Ev (fun k => if c then f k else g k) r := by
  by_cases hc : c
  · exact Ev.yes hc (h hc)
  · exact Ev.no hc (H hc)
theorem Ev.val {α : Type} {r r' : α} (h : r = r') : Ev (fun _ => some r) r' := by subst h; exact Ev.now _
theorem Ev.is {α : Type} {o : Option α} {r : α} (h : o = some r) : Ev (fun _ => o) r := by subst h; exact Ev.now _
/-- What holds on the way of both branches. -/
theorem Ev.bindB {β : Type} {o : Option Bool} {b : Bool} {f : Nat → Bool → Option β} {r : β} (h : o = some b) (H : Ev (fun k => f k b) r) : Ev (fun k => o.bind (f k)) r := by subst h; exact H
def inB (n lo hi : Int) : Bool := decide (lo ≤ n ∧ n ≤ hi)
theorem in_f (n lo hi : Int) : group_in.f n lo hi = some (inB n lo hi) := by
  unfold group_in.f inB
  by_cases h : n ≥ lo
  · rw [if_pos h]; congr 1; rw [decide_eq_decide]; exact ⟨fun q => ⟨h, q⟩, fun q => q.2⟩
  · rw [if_neg h]; congr 1; exact (decide_eq_false fun q => h q.1).symm
theorem price_f (n : Int) : skiarearef24_price.f n = some (inB n 0 100000000) := by
  unfold skiarearef24_price.f inB
  by_cases h : n ≥ 0
  · rw [if_pos h]; congr 1; rw [decide_eq_decide]; exact ⟨fun q => ⟨h, q⟩, fun q => q.2⟩
  · rw [if_neg h]; congr 1; exact (decide_eq_false fun q => h q.1).symm
def badA (ages prices : List Int) (j : Nat) : Bool := !(inB (rd ages j) 0 120 && inB (rd prices j) 0 100000000)
def badO (o : S45) : Bool := !(inB o.f0 1 9999 && (inB o.f1 0 8 && (inB o.f2 0 8 && inB o.f3 0 100000000)))
def dupO (l : List S45) (j : Nat) : Bool := (l.take j).any (hasId (rd_T45 l j).f0)
def oLoop (l : List S45) : Nat → Nat → Int
  | 0, _ => 0
  | d + 1, j => if badO (rd_T45 l j) = true then 2 else if dupO l j = true then 7 else oLoop l d (j + 1)
def aLoop (ages prices : List Int) (l : List S45) : Nat → Nat → Int
  | 0, _ => oLoop l l.length 0
  | d + 1, j => if badA ages prices j = true then 2 else aLoop ages prices l d (j + 1)
/-- The first error. -/
def rightG (ages prices : List Int) (l : List S45) : Int := if (ages.length : Int) > 8 ∨ (l.length : Int) > 8 then 4 else if ages.length = prices.length then aLoop ages prices l ages.length 0 else 3
theorem offer_take (l : List S45) (j : Nat) : hasOffer (l.take j) (rd_T45 l j).f0 = dupO l j := by
  unfold hasOffer offerV dupO idAt
  by_cases h : ∃ x ∈ l.take j, hasId (rd_T45 l j).f0 x = true
  · rw [if_pos (List.findIdx_lt_length.2 h), List.any_eq_true.2 h, decide_eq_true (by omega)]
  · rw [if_neg (fun c => h (List.findIdx_lt_length.1 c)), decide_eq_false (by omega)]
    exact (Bool.eq_false_iff.2 fun c => h (List.any_eq_true.1 c)).symm
theorem g_l1 (l : List S45) (hl : l.length ≤ 9223372036854775807) : ∀ (d j : Nat), l.length - j = d → j ≤ l.length → Ev (fun k => group_Right.l1 k l l l.length j) (oLoop l d j)
  | 0, j, hd, hj => by
    obtain rfl : j = l.length := by omega
    rw [oLoop]
    exact Ev.step (fun k => by rw [group_Right.l1, if_neg (by omega)]) (Ev.now _)
  | d + 1, j, hd, hj => by
    have ih := g_l1 l hl d (j + 1) (by omega) (by omega)
    have hj3 : ∀ b, b = badO (rd_T45 l j) → Ev (fun k => group_Right.j3 k l j l l.length j ((rd_T45 l j).f0) b) (oLoop l (d + 1) j) := by
      intro b hb
      rw [oLoop, ← hb]
      have hn : wrap64 ((j : Int) + 1) = ((j + 1 : Nat) : Int) := wS j _ hl (by omega)
      refine Ev.step (fun k => by rw [group_Right.j3, hn, Int.toNat_natCast]) ?_
      by_cases h : b = true
      · rw [if_pos h]; exact Ev.yes h (Ev.now _)
      · rw [if_neg h]
        refine Ev.no h (Ev.yes (by omega) (Ev.yes (by omega) (Ev.bind (a := hasOffer (l.take j) (rd_T45 l j).f0) (Ev.now _) ?_)))
        rw [offer_take]
        by_cases h2 : dupO l j = true
        · rw [if_pos h2]; exact Ev.yes h2 (Ev.now _)
        · rw [if_neg h2]; exact Ev.no h2 ih
    refine Ev.step (fun k => by rw [group_Right.l1, if_pos (by omega), if_pos (by omega), if_pos (by omega)]) ?_
    refine Ev.bindB (in_f ..) (Ev.ite (fun h1 => Ev.bindB (in_f ..) (Ev.ite (fun h2 => Ev.bindB (in_f ..) (Ev.ite (fun h3 => Ev.bindB (in_f ..) (hj3 _ ?_)) fun h3 => hj3 _ ?_)) fun h2 => hj3 _ ?_)) fun h1 => hj3 _ ?_)
    · unfold badO; rw [h1, h2, h3]; simp
    · unfold badO; rw [h1, h2, Bool.eq_false_iff.2 h3]; simp
    · unfold badO; rw [h1, Bool.eq_false_iff.2 h2]; simp
    · unfold badO; rw [Bool.eq_false_iff.2 h1]; simp
theorem g_l0 (ages prices : List Int) (l : List S45) (ha : ages.length ≤ 9223372036854775807) (hl : l.length ≤ 9223372036854775807) (he : ages.length = prices.length) : ∀ (d j : Nat), ages.length - j = d → j ≤ ages.length → Ev (fun k => group_Right.l0 k ages prices l ages.length j) (aLoop ages prices l d j)
  | 0, j, hd, hj => by
    obtain rfl : j = ages.length := by omega
    rw [aLoop]
    exact Ev.step (fun k => by rw [group_Right.l0, if_neg (by omega)]; rfl) (g_l1 l hl l.length 0 (by omega) (by omega))
  | d + 1, j, hd, hj => by
    have ih := g_l0 ages prices l ha hl he d (j + 1) (by omega) (by omega)
    have hn : wrap64 ((j : Int) + 1) = ((j + 1 : Nat) : Int) := wS j _ ha (by omega)
    rw [aLoop]
    refine Ev.step (fun k => by rw [group_Right.l0, if_pos (by omega), if_pos (by omega), if_pos (by omega), hn]) ?_
    refine Ev.bindB (in_f ..) ?_
    by_cases h1 : inB (rd ages j) 0 120 = true
    · refine Ev.yes h1 (Ev.yes (by omega) (Ev.bindB (in_f ..) ?_))
      by_cases h2 : inB (rd prices j) 0 100000000 = true
      · rw [if_neg (by unfold badA; rw [h1, h2]; decide)]; exact Ev.yes h2 ih
      · rw [if_pos (by unfold badA; rw [h1, Bool.eq_false_iff.2 h2]; decide)]; exact Ev.no h2 (Ev.now _)
    · rw [if_pos (by unfold badA; rw [Bool.eq_false_iff.2 h1]; rfl)]; exact Ev.no h1 (Ev.now _)
theorem gright_ev (ages prices : List Int) (l : List S45) (ha : ages.length ≤ 9223372036854775807) (hl : l.length ≤ 9223372036854775807) : Ev (fun k => group_Right.f k ages prices l) (rightG ages prices l) := by
  have hj : ∀ b, (b = decide ((ages.length : Int) > 8 ∨ (l.length : Int) > 8)) → Ev (fun k => group_Right.j0 k ages prices l b) (rightG ages prices l) := by
    intro b hb
    refine Ev.step (fun k => by rw [group_Right.j0]) ?_
    unfold rightG
    by_cases h : (ages.length : Int) > 8 ∨ (l.length : Int) > 8
    · rw [if_pos h]; rw [decide_eq_true h] at hb; exact Ev.yes hb (Ev.now _)
    · rw [if_neg h]; rw [decide_eq_false h] at hb; subst hb
      refine Ev.no (by decide) ?_
      by_cases h2 : ages.length = prices.length
      · rw [if_pos h2]; exact Ev.yes (by omega) (g_l0 ages prices l ha hl h2 ages.length 0 (by omega) (by omega))
      · rw [if_neg h2]; exact Ev.no (by omega) (Ev.now _)
  refine Ev.ite (fun h => hj _ (decide_eq_true (.inl h)).symm) fun h => hj _ ?_
  rw [decide_eq_decide]
  exact ⟨.inr, fun c => c.resolve_left h⟩
theorem takeO_any {l : List S45} {x : Int} {k : Nat} (hk : k < l.length) : (l.take (k + 1)).any (hasId x) = ((l.take k).any (hasId x) || hasId x (rd_T45 l k)) := by
  rw [List.take_succ_eq_append_getElem hk, List.any_append, rd45_get hk]
  simp
theorem gr_l2 (l : List S45) (v : Int) (j : Nat) (hl : l.length ≤ 9223372036854775807) (hj : j < l.length) (a b c : Int) (hgo : Ev (fun k => skiarearef24_Right.l1 k l ((j + 1 : Nat) : Int)) v) : ∀ (d m : Nat), j - m = d → m ≤ j → (l.take m).any (hasId (rd_T45 l j).f0) = false → Ev (fun k => skiarearef24_Right.l2 k l j m (rd_T45 l j).f0 a b c) (if dupO l j = true then 7 else v)
  | 0, m, hd, hm, hf => by
    obtain rfl : m = j := by omega
    rw [if_neg (by unfold dupO; rw [hf]; decide)]
    have hn : wrap64 ((m : Int) + 1) = ((m + 1 : Nat) : Int) := wS m _ hl (by omega)
    exact Ev.step (fun k => by rw [skiarearef24_Right.l2, if_neg (by omega), hn]) hgo
  | d + 1, m, hd, hm, hf => by
    have hn : wrap64 ((m : Int) + 1) = ((m + 1 : Nat) : Int) := wS m _ hl (by omega)
    refine Ev.step (fun k => by rw [skiarearef24_Right.l2, if_pos (by omega), if_pos (by omega), if_pos (by omega), hn]) ?_
    have hmt : (l.take (m + 1)).any (hasId (rd_T45 l j).f0) = hasId (rd_T45 l j).f0 (rd_T45 l m) := by rw [takeO_any (by omega), hf]; rfl
    by_cases he : (rd_T45 l m).f0 = (rd_T45 l j).f0
    · have hd : dupO l j = true := by
        unfold dupO
        rw [List.any_eq_true]
        refine ⟨rd_T45 l m, ?_, by simp [hasId, he]⟩
        rw [rd45_get (show m < l.length by omega), List.mem_take_iff_getElem]
        exact ⟨m, by omega, rfl⟩
      rw [if_pos hd]
      exact Ev.yes he (Ev.now _)
    · exact Ev.no he (gr_l2 l v j hl hj a b c hgo d (m + 1) (by omega) (by omega) (by rw [hmt]; simpa [hasId] using he))
theorem gr_l1 (l : List S45) (hl : l.length ≤ 9223372036854775807) : ∀ (d j : Nat), l.length - j = d → j ≤ l.length → Ev (fun k => skiarearef24_Right.l1 k l j) (oLoop l d j)
  | 0, j, hd, hj => by
    obtain rfl : j = l.length := by omega
    rw [oLoop]
    exact Ev.step (fun k => by rw [skiarearef24_Right.l1, if_neg (by omega)]) (Ev.now _)
  | d + 1, j, hd, hj => by
    have ih := gr_l1 l hl d (j + 1) (by omega) (by omega)
    have hj4 : ∀ b, b = badO (rd_T45 l j) → Ev (fun k => skiarearef24_Right.j4 k l j b ((rd_T45 l j).f0) ((rd_T45 l j).f1) ((rd_T45 l j).f2) ((rd_T45 l j).f3)) (oLoop l (d + 1) j) := by
      intro b hb
      rw [oLoop, ← hb]
      refine Ev.step (fun k => by rw [skiarearef24_Right.j4]) ?_
      by_cases h : b = true
      · rw [if_pos h]; exact Ev.yes h (Ev.now _)
      · rw [if_neg h]; exact Ev.no h (gr_l2 l _ j hl (by omega) _ _ _ ih j 0 (by omega) (by omega) rfl)
    refine Ev.step (fun k => by rw [skiarearef24_Right.l1, if_pos (by omega), if_pos (by omega)]) ?_
    have hT : (¬ (1 ≤ (rd_T45 l j).f0 ∧ (rd_T45 l j).f0 ≤ 9999) ∨ ¬ (0 ≤ (rd_T45 l j).f1 ∧ (rd_T45 l j).f1 ≤ 8) ∨ ¬ (0 ≤ (rd_T45 l j).f2 ∧ (rd_T45 l j).f2 ≤ 8)) → true = badO (rd_T45 l j) := by
      intro h
      unfold badO inB
      rcases h with h | h | h
      · rw [decide_eq_false h]; rfl
      · rw [decide_eq_false h]; simp
      · rw [decide_eq_false h]; simp
    refine Ev.ite (fun h => hj4 _ (hT (by omega))) fun h1 => Ev.ite (fun h => hj4 _ (hT (by omega))) fun h2 => Ev.ite (fun h => hj4 _ (hT (by omega))) fun h3 => Ev.ite (fun h => hj4 _ (hT (by omega))) fun h4 => Ev.ite (fun h => hj4 _ (hT (by omega))) fun h5 => Ev.ite (fun h => hj4 _ (hT (by omega))) fun h6 => Ev.bindB (price_f _) (hj4 _ ?_)
    unfold badO
    rw [show inB (rd_T45 l j).f0 1 9999 = true from decide_eq_true (by omega), show inB (rd_T45 l j).f1 0 8 = true from decide_eq_true (by omega), show inB (rd_T45 l j).f2 0 8 = true from decide_eq_true (by omega)]
    simp
theorem gr_l0 (ages prices : List Int) (l : List S45) (ha : ages.length ≤ 9223372036854775807) (hl : l.length ≤ 9223372036854775807) (he : ages.length = prices.length) : ∀ (d j : Nat), ages.length - j = d → j ≤ ages.length → Ev (fun k => skiarearef24_Right.l0 k ages prices l j) (aLoop ages prices l d j)
  | 0, j, hd, hj => by
    obtain rfl : j = ages.length := by omega
    rw [aLoop]
    exact Ev.step (fun k => by rw [skiarearef24_Right.l0, if_neg (by omega)]; rfl) (gr_l1 l hl l.length 0 (by omega) (by omega))
  | d + 1, j, hd, hj => by
    have ih := gr_l0 ages prices l ha hl he d (j + 1) (by omega) (by omega)
    have hn : wrap64 ((j : Int) + 1) = ((j + 1 : Nat) : Int) := wS j _ ha (by omega)
    have hj2 : ∀ b, b = badA ages prices j → Ev (fun k => skiarearef24_Right.j2 k ages prices l j b) (aLoop ages prices l (d + 1) j) := by
      intro b hb
      rw [aLoop, ← hb]
      refine Ev.step (fun k => by rw [skiarearef24_Right.j2, hn]) ?_
      by_cases h : b = true
      · rw [if_pos h]; exact Ev.yes h (Ev.now _)
      · rw [if_neg h]; exact Ev.no h ih
    refine Ev.step (fun k => by rw [skiarearef24_Right.l0, if_pos (by omega), if_pos (by omega)]) ?_
    have hT : ¬ (0 ≤ rd ages j ∧ rd ages j ≤ 120) → true = badA ages prices j := fun h => by unfold badA inB; rw [decide_eq_false h]; rfl
    refine Ev.ite (fun h => hj2 _ (hT (by omega))) fun h1 => Ev.ite (fun h => hj2 _ (hT (by omega))) fun h2 => Ev.yes (by omega) (Ev.bindB (price_f _) (hj2 _ ?_))
    unfold badA
    rw [show inB (rd ages j) 0 120 = true from decide_eq_true (by omega)]
    simp
theorem grright_ev (ages prices : List Int) (l : List S45) (ha : ages.length ≤ 9223372036854775807) (hl : l.length ≤ 9223372036854775807) : Ev (fun k => skiarearef24_Right.f k ages prices l) (rightG ages prices l) := by
  have hj : ∀ b, (b = decide ((ages.length : Int) > 8 ∨ (l.length : Int) > 8)) → Ev (fun k => skiarearef24_Right.j0 k ages prices l b) (rightG ages prices l) := by
    intro b hb
    refine Ev.step (fun k => by rw [skiarearef24_Right.j0]) ?_
    unfold rightG
    by_cases h : (ages.length : Int) > 8 ∨ (l.length : Int) > 8
    · rw [if_pos h]; rw [decide_eq_true h] at hb; exact Ev.yes hb (Ev.now _)
    · rw [if_neg h]; rw [decide_eq_false h] at hb; subst hb
      refine Ev.no (by decide) ?_
      by_cases h2 : ages.length = prices.length
      · rw [if_pos h2]; exact Ev.yes (by omega) (gr_l0 ages prices l ha hl h2 ages.length 0 (by omega) (by omega))
      · rw [if_neg h2]; exact Ev.no (by omega) (Ev.now _)
  refine Ev.ite (fun h => hj _ (decide_eq_true (.inl h)).symm) fun h => hj _ ?_
  rw [decide_eq_decide]
  exact ⟨.inr, fun c => c.resolve_left h⟩
end Go.Proofs.Ytdklkjgcnibbgaa.Pure
