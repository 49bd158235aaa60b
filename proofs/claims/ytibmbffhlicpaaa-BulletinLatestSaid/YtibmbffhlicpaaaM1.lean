/- Plain laws of the bulletin chapter: what the program's and the reference's Right compute, on every input. No condition but the lengths named. -/
import Derived.Test.YtibmbffhlicpaaaAx2
import Derived.Test.YtibmbffhlicpaaaAx3
import Derived.Test.YtibmbffhlicpaaaAx4
import Derived.Test.YtibmbffhlicpaaaAx10
import Derived.Test.YtibmbffhlicpaaaAx13
import Derived.Test.YtibmbffhlicpaaaAx14
import Derived.Test.YtibmbffhlicpaaaAx15
import Derived.Test.YtibmbffhlicpaaaAx16
import Derived.Test.YtibmbffhlicpaaaAx18
import Derived.Test.YtibmbffhlicpaaaOpen
namespace Go.Proofs.Ytibmbffhlicpaaa.A
open Go.RowKit Go.Proofs.YtibmbffhlicpaaaW.PrintWords Go.Proofs.YtibmbffhlicpaaaW.PrintLast
set_option linter.unusedVariables false
set_option maxRecDepth 100000 in
theorem alive_ev : Ev (fun k => skiarealaw49_alive.f k) true := Ev.of skiarealaw49_alive.mono (k := 30) (by decide +kernel)
theorem Ev.yes {α : Type} {c : Prop} [Decidable c] {f g : Nat → Option α} {r : α} (h : c) (H : Ev f r) : Ev (fun k => if c then f k else g k) r := Ev.congr (fun _ => if_pos h) H
theorem Ev.no {α : Type} {c : Prop} [Decidable c] {f g : Nat → Option α} {r : α} (h : ¬ c) (H : Ev g r) : Ev (fun k => if c then f k else g k) r := Ev.congr (fun _ => if_neg h) H
theorem Ev.ite {α : Type} {c : Prop} [Decidable c] {f g : Nat → Option α} {r : α} (h : c → Ev f r) (H : ¬ c → Ev g r) : Ev (fun k => if c then f k else g k) r := by
  by_cases hc : c
  · exact Ev.yes hc (h hc)
  · exact Ev.no hc (H hc)
theorem Ev.val {α : Type} {r r' : α} (h : r = r') : Ev (fun _ => some r) r' := by subst h; exact Ev.now _
theorem wP (j n : Nat) (h : n ≤ 9223372036854775807) (hj : j < n) (h0 : 0 < j) : wrap64 ((j : Int) - 1) = ((j - 1 : Nat) : Int) := by rw [wrap_id (by omega)]; omega
theorem in_f (a b c : Int) : bulletin_in.f a b c = some (decide (b ≤ a ∧ a ≤ c)) := by
  unfold bulletin_in.f
  by_cases h : a ≥ b
  · rw [if_pos h]; congr 1; simp [h]
  · rw [if_neg h]; congr 1; symm; apply decide_eq_false; omega
def zonAt (l : List Int) (i : Nat) : Bool := decide (1 ≤ rd l i ∧ rd l i ≤ 32) && (decide (i = 0) || decide (rd l (i - 1 : Nat) < rd l i))
def zonB (l : List Int) : Bool := decide (0 < l.length) && (List.range l.length).all (zonAt l)
theorem zon_all {l : List Int} (h : ∀ i : Nat, i < l.length → zonAt l i = true) : zonB l = decide ((l.length : Int) > 0) := by
  have : (List.range l.length).all (zonAt l) = true := List.all_eq_true.2 (fun i hi => h i (List.mem_range.1 hi))
  rw [zonB, this, Bool.and_true]
  by_cases hl : 0 < l.length
  · rw [decide_eq_true hl, decide_eq_true (by omega)]
  · rw [decide_eq_false hl, decide_eq_false (by omega)]
theorem zon_not {l : List Int} {j : Nat} (hj : j < l.length) (h : zonAt l j = false) : zonB l = false := by
  cases hz : zonB l with
  | false => rfl
  | true =>
    rw [zonB, Bool.and_eq_true] at hz
    rw [List.all_eq_true.1 hz.2 j (List.mem_range.2 hj)] at h; cases h
theorem zon_l0 (l : List Int) (hl : l.length ≤ 9223372036854775807) (d : Nat) : ∀ j : Nat, l.length - j = d → j ≤ l.length → (∀ i : Nat, i < j → zonAt l i = true) →
    Ev (fun k => bulletin_zones.l0 k l l l.length j) (zonB l) := by
  induction d with
  | zero =>
    intro j hd hj ha
    obtain rfl : j = l.length := by omega
    exact Ev.step (fun k => by rw [bulletin_zones.l0, if_neg (by omega)]) (Ev.val (zon_all ha).symm)
  | succ d ih =>
    intro j hd hj ha
    have hn : ∀ b : Bool, b = !zonAt l j → Ev (fun k => bulletin_zones.j1 k l l l.length j b) (zonB l) := fun b hb => by
      cases hz : zonAt l j with
      | true =>
        rw [hz] at hb; subst hb
        refine Ev.step (fun k => by rw [bulletin_zones.j1, if_neg (by decide), wS j _ hl (by omega)]) (ih (j + 1) (by omega) (by omega) (fun i hi => ?_))
        rcases Nat.lt_succ_iff_lt_or_eq.1 hi with h | h
        · exact ha i h
        · rw [h]; exact hz
      | false =>
        rw [hz] at hb; subst hb
        exact Ev.step (fun k => by rw [bulletin_zones.j1, if_pos (by decide)]) (Ev.val (zon_not (by omega) hz).symm)
    refine Ev.step (fun k => by rw [bulletin_zones.l0, if_pos (by omega), if_pos (by omega), if_pos (by omega), in_f, Option.bind_some]) ?_
    refine Ev.ite (fun h => Ev.ite (fun h0 => ?_) (fun h0 => hn _ ?_)) (fun h => hn _ ?_)
    · rw [wP j _ hl (by omega) (by omega)]
      refine Ev.yes (by omega) (Ev.yes (by omega) (hn _ ?_))
      have h1 : j ≠ 0 := by omega
      simp only [decide_eq_true_iff] at h
      simp only [zonAt, h, h1, and_self, decide_true, decide_false, Bool.false_or, Bool.true_and]
      by_cases hc : rd l j ≤ rd l (j - 1 : Nat)
      · rw [decide_eq_true hc, decide_eq_false (by omega)]; rfl
      · rw [decide_eq_false hc, decide_eq_true (by omega)]; rfl
    · have h1 : j = 0 := by omega
      simp only [decide_eq_true_iff] at h
      simp [zonAt, h1]
      subst h1; simpa using h
    · simp only [decide_eq_true_iff] at h
      simp [zonAt, h]
theorem zon_ev (l : List Int) (hl : l.length ≤ 9223372036854775807) : Ev (fun k => bulletin_zones.f k l) (zonB l) := zon_l0 l hl l.length 0 (by omega) (by omega) (fun i hi => absurd hi (by omega))
theorem zonR_l0 (l : List Int) (hl : l.length ≤ 9223372036854775807) (d : Nat) : ∀ j : Nat, l.length - j = d → j ≤ l.length → (∀ i : Nat, i < j → zonAt l i = true) →
    Ev (fun k => skiarearef49_zones.l0 k l j) (zonB l) := by
  induction d with
  | zero =>
    intro j hd hj ha
    obtain rfl : j = l.length := by omega
    exact Ev.step (fun k => by rw [skiarearef49_zones.l0, if_neg (by omega)]) (Ev.val (zon_all ha).symm)
  | succ d ih =>
    intro j hd hj ha
    have hn : ∀ b : Bool, b = !zonAt l j → Ev (fun k => skiarearef49_zones.j1 k l j b) (zonB l) := fun b hb => by
      cases hz : zonAt l j with
      | true =>
        rw [hz] at hb; subst hb
        refine Ev.step (fun k => by rw [skiarearef49_zones.j1, if_neg (by decide), wS j _ hl (by omega)]) (ih (j + 1) (by omega) (by omega) (fun i hi => ?_))
        rcases Nat.lt_succ_iff_lt_or_eq.1 hi with h | h
        · exact ha i h
        · rw [h]; exact hz
      | false =>
        rw [hz] at hb; subst hb
        exact Ev.step (fun k => by rw [skiarearef49_zones.j1, if_pos (by decide)]) (Ev.val (zon_not (by omega) hz).symm)
    have hbad : ¬ (1 ≤ rd l j ∧ rd l j ≤ 32) → true = !zonAt l j := fun h => by simp [zonAt, h]
    refine Ev.step (fun k => by rw [skiarearef49_zones.l0, if_pos (by omega), if_pos (by omega)]) ?_
    refine Ev.ite (fun h => hn _ (hbad (by omega))) (fun h => Ev.ite (fun h2 => hn _ (hbad (by omega))) (fun h2 => Ev.ite (fun h0 => ?_) (fun h0 => hn _ ?_)))
    · rw [wP j _ hl (by omega) (by omega)]
      refine Ev.yes (by omega) (Ev.yes (by omega) (hn _ ?_))
      have h1 : j ≠ 0 := by omega
      have h3 : 1 ≤ rd l j ∧ rd l j ≤ 32 := by omega
      simp only [zonAt, h3, h1, and_self, decide_true, decide_false, Bool.false_or, Bool.true_and]
      by_cases hc : rd l j ≤ rd l (j - 1 : Nat)
      · rw [decide_eq_true hc, decide_eq_false (by omega)]; rfl
      · rw [decide_eq_false hc, decide_eq_true (by omega)]; rfl
    · have h1 : j = 0 := by omega
      have h3 : 1 ≤ rd l j ∧ rd l j ≤ 32 := by omega
      rw [zonAt, decide_eq_true h3, decide_eq_true h1]; rfl
theorem zonR_ev (l : List Int) (hl : l.length ≤ 9223372036854775807) : Ev (fun k => skiarearef49_zones.f k l) (zonB l) := zonR_l0 l hl l.length 0 (by omega) (by omega) (fun i hi => absurd hi (by omega))
/-- Its numbers are in their ranges. -/
def rngP (b : S31) : Prop := (1 ≤ b.f0 ∧ b.f0 ≤ 1000000) ∧ 0 ≤ b.f1.f0 ∧ b.f1.f0 < b.f1.f1 ∧ b.f1.f1 ≤ 20000000 ∧ 0 ≤ b.f2 ∧ b.f2 < b.f3 ∧ b.f3 ≤ 6000 ∧ 1 ≤ b.f5 ∧ b.f5 ≤ 5
instance (b : S31) : Decidable (rngP b) := by unfold rngP; infer_instance
def oneErr (l : List S31) (i : Nat) : Int := if ¬ rngP (rd_T31 l i) then 2 else if zonB (rd_T31 l i).f4 = false then 1 else if 0 < i ∧ (rd_T31 l i).f0 < (rd_T31 l (i - 1 : Nat)).f0 then 11 else 0
def rightFrom (l : List S31) : Nat → Nat → Int
  | 0, _ => 0
  | d + 1, j => if oneErr l j = 0 then rightFrom l d (j + 1) else oneErr l j
def rightV (l : List S31) : Int := if l.length > 64 then 4 else rightFrom l l.length 0
theorem right_l0 (l : List S31) (hl : l.length ≤ 64) (hz : ∀ j : Nat, j < l.length → (rd_T31 l j).f4.length ≤ 9223372036854775807) (d : Nat) : ∀ j : Nat, l.length - j = d → j ≤ l.length →
    Ev (fun k => bulletin_Right.l0 k l l l.length j) (rightFrom l d j) := by
  induction d with
  | zero =>
    intro j hd hj
    exact Ev.step (f := fun _ => some 0) (fun k => by rw [bulletin_Right.l0, if_neg (by omega)]) (Ev.now _)
  | succ d ih =>
    intro j hd hj
    obtain ⟨b, hb⟩ : ∃ b, b = rd_T31 l j := ⟨_, rfl⟩
    have hbad : ¬ rngP b → ∀ c, c = true → Ev (fun k => bulletin_Right.j1 k l j l l.length j c b.f0 b.f1.f0 b.f1.f1 b.f2 b.f3 b.f4 b.f5) (rightFrom l (d + 1) j) := fun h c hc => by
      subst hc
      have ho : oneErr l j = 2 := by rw [oneErr, ← hb, if_pos h]
      rw [rightFrom, ho, if_neg (by decide)]
      exact Ev.step (fun k => by rw [bulletin_Right.j1, if_pos rfl]) (Ev.now _)
    have hgood : rngP b → ∀ c, c = false → Ev (fun k => bulletin_Right.j1 k l j l l.length j c b.f0 b.f1.f0 b.f1.f1 b.f2 b.f3 b.f4 b.f5) (rightFrom l (d + 1) j) := fun h c hc => by
      subst hc
      refine Ev.step (fun k => by rw [bulletin_Right.j1, if_neg (by decide)]) ?_
      refine Ev.bind (zon_ev b.f4 (by rw [hb]; exact hz j (by omega))) (Ev.ite (fun h1 => ?_) (fun h1 => ?_))
      · have hn := ih (j + 1) (by omega) (by omega)
        refine Ev.ite (fun h0 => ?_) (fun h0 => ?_)
        · rw [wP j 64 (by omega) (by omega) (by omega)]
          refine Ev.yes (by omega) (Ev.yes (by omega) (Ev.ite (fun h2 => ?_) (fun h2 => ?_)))
          · have ho : oneErr l j = 11 := by rw [oneErr, ← hb, if_neg (not_not_intro h), if_neg (by rw [h1]; decide), if_pos ⟨by omega, h2⟩]
            rw [rightFrom, ho, if_neg (by decide)]; exact Ev.now _
          · have ho : oneErr l j = 0 := by rw [oneErr, ← hb, if_neg (not_not_intro h), if_neg (by rw [h1]; decide), if_neg (fun hh => h2 hh.2)]
            rw [rightFrom, ho, if_pos rfl, wS j 64 (by omega) (by omega)]; exact hn
        · have ho : oneErr l j = 0 := by rw [oneErr, ← hb, if_neg (not_not_intro h), if_neg (by rw [h1]; decide), if_neg (fun hh => by omega)]
          rw [rightFrom, ho, if_pos rfl, wS j 64 (by omega) (by omega)]; exact hn
      · have ho : oneErr l j = 1 := by rw [oneErr, ← hb, if_neg (not_not_intro h), if_pos (by simpa using h1)]
        rw [rightFrom, ho, if_neg (by decide)]; exact Ev.now _
    refine Ev.step (fun k => by rw [bulletin_Right.l0, if_pos (by omega), if_pos (by omega), if_pos (by omega), in_f, in_f, Option.bind_some, Option.bind_some, ← hb]) ?_
    have hN : ∀ {p : Prop}, (rngP b → ¬ p) → p → ¬ rngP b := fun h hp hr => h hr hp
    refine Ev.ite (fun h0 => Ev.ite (fun h1 => hbad ?_ _ rfl) (fun h1 => Ev.ite (fun h2 => hbad ?_ _ rfl) (fun h2 => Ev.ite (fun h3 => hbad ?_ _ rfl) (fun h3 => Ev.ite (fun h4 => hbad ?_ _ rfl) (fun h4 => Ev.ite (fun h5 => hbad ?_ _ rfl) (fun h5 => Ev.ite (fun h6 => hbad ?_ _ rfl) (fun h6 => ?_))))))) (fun h0 => hbad ?_ _ rfl)
    all_goals first | (intro hr; unfold rngP at hr; first | omega | (simp only [decide_eq_true_iff] at h0; omega)) | skip
    · simp only [decide_eq_true_iff] at h0
      by_cases h7 : 1 ≤ b.f5 ∧ b.f5 ≤ 5
      · exact hgood (by unfold rngP; omega) _ (by rw [decide_eq_true h7]; rfl)
      · exact hbad (by unfold rngP; omega) _ (by rw [decide_eq_false h7]; rfl)
theorem right_ev (l : List S31) (hz : ∀ j : Nat, j < l.length → (rd_T31 l j).f4.length ≤ 9223372036854775807) : Ev (fun k => bulletin_Right.f k l) (rightV l) := by
  unfold rightV
  by_cases h : l.length > 64
  · rw [if_pos h]
    exact Ev.congr (fun k => by rw [bulletin_Right.f, if_pos (by omega)]) (Ev.now _)
  · rw [if_neg h]
    exact Ev.congr (fun k => by rw [bulletin_Right.f, if_neg (by omega)]; rfl) (right_l0 l (by omega) hz l.length 0 (by omega) (by omega))
theorem rightR_l0 (l : List S31) (hl : l.length ≤ 64) (hz : ∀ j : Nat, j < l.length → (rd_T31 l j).f4.length ≤ 9223372036854775807) (d : Nat) : ∀ j : Nat, l.length - j = d → j ≤ l.length →
    Ev (fun k => skiarearef49_Right.l0 k l j) (rightFrom l d j) := by
  induction d with
  | zero =>
    intro j hd hj
    exact Ev.step (f := fun _ => some 0) (fun k => by rw [skiarearef49_Right.l0, if_neg (by omega)]) (Ev.now _)
  | succ d ih =>
    intro j hd hj
    obtain ⟨b, hb⟩ : ∃ b, b = rd_T31 l j := ⟨_, rfl⟩
    have hbad : ¬ rngP b → ∀ c, c = true → Ev (fun k => skiarearef49_Right.j1 k l j c b.f0 b.f1.f0 b.f1.f1 b.f2 b.f3 b.f4 b.f5) (rightFrom l (d + 1) j) := fun h c hc => by
      subst hc
      have ho : oneErr l j = 2 := by rw [oneErr, ← hb, if_pos h]
      rw [rightFrom, ho, if_neg (by decide)]
      exact Ev.step (fun k => by rw [skiarearef49_Right.j1, if_pos rfl]) (Ev.now _)
    have hgood : rngP b → ∀ c, c = false → Ev (fun k => skiarearef49_Right.j1 k l j c b.f0 b.f1.f0 b.f1.f1 b.f2 b.f3 b.f4 b.f5) (rightFrom l (d + 1) j) := fun h c hc => by
      subst hc
      refine Ev.step (fun k => by rw [skiarearef49_Right.j1, if_neg (by decide)]) ?_
      refine Ev.bind (zonR_ev b.f4 (by rw [hb]; exact hz j (by omega))) (Ev.ite (fun h1 => ?_) (fun h1 => ?_))
      · have hn := ih (j + 1) (by omega) (by omega)
        refine Ev.ite (fun h0 => ?_) (fun h0 => ?_)
        · rw [wP j 64 (by omega) (by omega) (by omega)]
          refine Ev.yes (by omega) (Ev.yes (by omega) (Ev.ite (fun h2 => ?_) (fun h2 => ?_)))
          · have ho : oneErr l j = 11 := by rw [oneErr, ← hb, if_neg (not_not_intro h), if_neg (by rw [h1]; decide), if_pos ⟨by omega, h2⟩]
            rw [rightFrom, ho, if_neg (by decide)]; exact Ev.now _
          · have ho : oneErr l j = 0 := by rw [oneErr, ← hb, if_neg (not_not_intro h), if_neg (by rw [h1]; decide), if_neg (fun hh => h2 hh.2)]
            rw [rightFrom, ho, if_pos rfl, wS j 64 (by omega) (by omega)]; exact hn
        · have ho : oneErr l j = 0 := by rw [oneErr, ← hb, if_neg (not_not_intro h), if_neg (by rw [h1]; decide), if_neg (fun hh => by omega)]
          rw [rightFrom, ho, if_pos rfl, wS j 64 (by omega) (by omega)]; exact hn
      · have ho : oneErr l j = 1 := by rw [oneErr, ← hb, if_neg (not_not_intro h), if_pos (by simpa using h1)]
        rw [rightFrom, ho, if_neg (by decide)]; exact Ev.now _
    refine Ev.step (fun k => by rw [skiarearef49_Right.l0, if_pos (by omega), if_pos (by omega), ← hb]) ?_
    refine Ev.ite (fun h0 => hbad ?_ _ rfl) (fun h0 => Ev.ite (fun h1 => hbad ?_ _ rfl) (fun h1 => Ev.ite (fun h2 => hbad ?_ _ rfl) (fun h2 => Ev.ite (fun h3 => hbad ?_ _ rfl) (fun h3 => Ev.ite (fun h4 => hbad ?_ _ rfl) (fun h4 => Ev.ite (fun h5 => hbad ?_ _ rfl) (fun h5 => Ev.ite (fun h6 => hbad ?_ _ rfl) (fun h6 => Ev.ite (fun h7 => hbad ?_ _ rfl) (fun h7 => Ev.ite (fun h8 => hbad ?_ _ rfl) (fun h8 => ?_)))))))))
    all_goals first | (intro hr; unfold rngP at hr; omega) | skip
    by_cases h9 : b.f5 > 5
    · exact hbad (by unfold rngP; omega) _ (decide_eq_true h9)
    · exact hgood (by unfold rngP; omega) _ (decide_eq_false h9)
theorem rightR_ev (l : List S31) (hz : ∀ j : Nat, j < l.length → (rd_T31 l j).f4.length ≤ 9223372036854775807) : Ev (fun k => skiarearef49_Right.f k l) (rightV l) := by
  unfold rightV
  by_cases h : l.length > 64
  · rw [if_pos h]
    exact Ev.congr (fun k => by rw [skiarearef49_Right.f, if_pos (by omega)]) (Ev.now _)
  · rw [if_neg h]
    exact Ev.congr (fun k => by rw [skiarearef49_Right.f, if_neg (by omega)]; rfl) (rightR_l0 l (by omega) hz l.length 0 (by omega) (by omega))
def fewP (l : List S31) : Prop := l.length ≤ 100 ∧ ∀ j : Nat, j < l.length → (rd_T31 l j).f4.length ≤ 100
theorem few_l0 (l : List S31) (hl : l.length ≤ 100) (d : Nat) : ∀ j : Nat, l.length - j = d → j ≤ l.length → (∀ i : Nat, i < j → (rd_T31 l i).f4.length ≤ 100) →
    ∃ b, Ev (fun k => skiarealaw49_few.l0 k l j) b ∧ (b = true ↔ fewP l) := by
  induction d with
  | zero =>
    intro j hd hj ha
    obtain rfl : j = l.length := by omega
    exact ⟨true, Ev.step (fun k => by rw [skiarealaw49_few.l0, if_neg (by omega)]) (Ev.now _), ⟨fun _ => ⟨hl, ha⟩, fun _ => rfl⟩⟩
  | succ d ih =>
    intro j hd hj ha
    by_cases h : ((rd_T31 l j).f4.length : Int) > 100
    · exact ⟨false, Ev.step (fun k => by rw [skiarealaw49_few.l0, if_pos (by omega), if_pos (by omega), if_pos h]) (Ev.now _), ⟨fun h => (by cases h), fun hf => by have := hf.2 j (by omega); omega⟩⟩
    · obtain ⟨b, hb, hb2⟩ := ih (j + 1) (by omega) (by omega) (fun i hi => by
        rcases Nat.lt_succ_iff_lt_or_eq.1 hi with h1 | h1
        · exact ha i h1
        · rw [h1]; omega)
      exact ⟨b, Ev.step (fun k => by rw [skiarealaw49_few.l0, if_pos (by omega), if_pos (by omega), if_neg h, wS j 100 (by omega) (by omega)]) hb, hb2⟩
theorem few_ev (l : List S31) : ∃ b, Ev (fun k => skiarealaw49_few.f k l) b ∧ (b = true ↔ fewP l) := by
  by_cases h : l.length > 100
  · exact ⟨false, Ev.congr (fun k => by rw [skiarealaw49_few.f, if_pos (by omega)]) (Ev.now _), ⟨fun h => (by cases h), fun hf => by have := hf.1; omega⟩⟩
  · obtain ⟨b, hb, hb2⟩ := few_l0 l (by omega) l.length 0 (by omega) (by omega) (fun i hi => absurd hi (by omega))
    exact ⟨b, Ev.congr (fun k => by rw [skiarealaw49_few.f, if_neg (by omega)]; rfl) hb, hb2⟩
theorem few_z {l : List S31} (h : fewP l) (j : Nat) (hj : j < l.length) : (rd_T31 l j).f4.length ≤ 9223372036854775807 := by have := h.2 j hj; omega
/-- What right says of a list. -/
def RightP (l : List S31) : Prop := fewP l ∧ l.length ≤ 64 ∧ ∀ j : Nat, j < l.length → rngP (rd_T31 l j) ∧ zonB (rd_T31 l j).f4 = true ∧ (0 < j → (rd_T31 l (j - 1 : Nat)).f0 ≤ (rd_T31 l j).f0)
theorem oneErr_zero {l : List S31} {i : Nat} : oneErr l i = 0 ↔ rngP (rd_T31 l i) ∧ zonB (rd_T31 l i).f4 = true ∧ (0 < i → (rd_T31 l (i - 1 : Nat)).f0 ≤ (rd_T31 l i).f0) := by
  unfold oneErr
  by_cases h1 : rngP (rd_T31 l i)
  · rw [if_neg (not_not_intro h1)]
    cases h2 : zonB (rd_T31 l i).f4 with
    | true =>
      rw [if_neg (by decide)]
      by_cases h3 : 0 < i ∧ (rd_T31 l i).f0 < (rd_T31 l (i - 1 : Nat)).f0
      · rw [if_pos h3]; exact ⟨fun h => (by cases h), fun h => by have := h.2.2 h3.1; omega⟩
      · rw [if_neg h3]; exact ⟨fun _ => ⟨h1, rfl, fun h0 => by omega⟩, fun _ => rfl⟩
    | false => rw [if_pos rfl]; exact ⟨fun h => (by cases h), fun h => by cases h.2.1⟩
  · rw [if_pos h1]; exact ⟨fun h => (by cases h), fun h => absurd h.1 h1⟩
theorem rightFrom_zero (l : List S31) : ∀ d j : Nat, rightFrom l d j = 0 ↔ ∀ i : Nat, j ≤ i → i < j + d → oneErr l i = 0
  | 0, j => by simp only [rightFrom, true_iff]; intro i h1 h2; omega
  | d + 1, j => by
    rw [rightFrom]
    by_cases h : oneErr l j = 0
    · rw [if_pos h, rightFrom_zero l d (j + 1)]
      refine ⟨fun H i h1 h2 => ?_, fun H i h1 h2 => H i (by omega) (by omega)⟩
      rcases Nat.lt_or_ge j i with h3 | h3
      · exact H i (by omega) (by omega)
      · rw [show i = j from by omega]; exact h
    · rw [if_neg h]
      exact ⟨fun H => absurd H h, fun H => absurd (H j (Nat.le_refl _) (by omega)) h⟩
theorem rightV_zero {l : List S31} : rightV l = 0 ↔ l.length ≤ 64 ∧ ∀ j : Nat, j < l.length → rngP (rd_T31 l j) ∧ zonB (rd_T31 l j).f4 = true ∧ (0 < j → (rd_T31 l (j - 1 : Nat)).f0 ≤ (rd_T31 l j).f0) := by
  unfold rightV
  by_cases h : l.length > 64
  · rw [if_pos h]; exact ⟨fun h => (by cases h), fun hh => by omega⟩
  · rw [if_neg h, rightFrom_zero]
    exact ⟨fun H => ⟨by omega, fun j hj => oneErr_zero.1 (H j (Nat.zero_le _) (by omega))⟩, fun H i _ h2 => oneErr_zero.2 (H.2 i (by omega))⟩
theorem rightL_ev (l : List S31) : ∃ b, Ev (fun k => skiarealaw49_right.f k l) b ∧ (b = true ↔ RightP l) := by
  obtain ⟨b, hb, hb2⟩ := few_ev l
  cases b with
  | false => exact ⟨false, Ev.bind hb (Ev.no (by decide) (Ev.now _)), ⟨fun h => (by cases h), fun h => by have := hb2.2 h.1; cases this⟩⟩
  | true =>
    have hf := hb2.1 rfl
    refine ⟨rightV l == 0, Ev.bind hb (Ev.yes rfl (Ev.bind (rightR_ev l (few_z hf)) (Ev.now _))), ?_⟩
    rw [beq_iff_eq, rightV_zero]
    exact ⟨fun h => ⟨hf, h⟩, fun h => h.2⟩
end Go.Proofs.Ytibmbffhlicpaaa.A
