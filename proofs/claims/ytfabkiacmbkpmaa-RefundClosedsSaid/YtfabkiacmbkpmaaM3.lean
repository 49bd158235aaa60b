/- Plain laws of the refund chapter: the reference's Right ends on every map, and at most 32 lifts pass it; what Closed computes. No condition but those named. -/
import Derived.Test.YtfabkiacmbkpmaaAx9
import Derived.Test.YtfabkiacmbkpmaaAx10
import Derived.Test.YtfabkiacmbkpmaaAx11
import Derived.Test.YtfabkiacmbkpmaaAx12
import Derived.Test.YtfabkiacmbkpmaaAx13
import Derived.Test.YtfabkiacmbkpmaaAx14
import Derived.Test.YtfabkiacmbkpmaaAx15
import Derived.Test.YtfabkiacmbkpmaaAx16
import Derived.Test.YtfabkiacmbkpmaaM2
namespace Go.Proofs.Ytfabkiacmbkpmaa.A
open Go.RowKit Go.Proofs.YtfabkiacmbkpmaaW.PrintWords Go.Proofs.YtfabkiacmbkpmaaW.PrintLast
set_option linter.unusedVariables false
/-- It ends, whatever with. -/
def Tot {α : Type} (g : Nat → Option α) : Prop := ∃ r, Ev g r
section
variable {α β : Type} {f g : Nat → Option α} {c : Prop} [Decidable c]
theorem Tot.now (r : α) : Tot (fun _ => some r) := ⟨r, Ev.now r⟩
theorem Tot.ite (h : c → Tot f) (h' : ¬ c → Tot g) : Tot (fun k => if c then f k else g k) := by
  by_cases hc : c
  · obtain ⟨r, hr⟩ := h hc; exact ⟨r, Ev.yes hc hr⟩
  · obtain ⟨r, hr⟩ := h' hc; exact ⟨r, Ev.no hc hr⟩
theorem Tot.bind {h : Nat → α → Option β} (hg : Tot g) (hh : ∀ a, Tot (fun k => h k a)) : Tot (fun k => (g k).bind (h k)) := by
  obtain ⟨a, ha⟩ := hg
  obtain ⟨r, hr⟩ := hh a
  exact ⟨r, Ev.bind ha hr⟩
theorem Tot.step (h : ∀ k, g (k + 1) = f k) (hf : Tot f) : Tot g := by
  obtain ⟨r, hr⟩ := hf; exact ⟨r, Ev.step h hr⟩
theorem Tot.congr (h : ∀ k, g k = f k) (hf : Tot f) : Tot g := by
  obtain ⟨r, hr⟩ := hf; exact ⟨r, Ev.congr h hr⟩
end
theorem inR_f (a b c : Int) : skiarearef10_in.f a b c = some (decide (b ≤ a ∧ a ≤ c)) := by
  unfold skiarearef10_in.f
  by_cases h : a ≥ b
  · rw [if_pos h]; congr 1; simp [h]
  · rw [if_neg h]; congr 1; symm; apply decide_eq_false; omega
theorem wS (j n : Nat) (h : n ≤ 9223372036854775807) (hj : j < n) : wrap64 ((j : Int) + 1) = ((j + 1 : Nat) : Int) := by rw [wrap_id (by omega)]; rfl
theorem nodes_tot (x0 : List S53) (hl : x0.length ≤ 9223372036854775807) (d : Nat) : ∀ j : Nat, x0.length - j = d → Tot (fun k => skiarearef10_nodes.l0 k x0 j) := by
  induction d with
  | zero => exact fun j hd => Tot.step (fun k => by rw [skiarearef10_nodes.l0, if_neg (by omega)]) (Tot.now _)
  | succ d ih =>
    intro j hd
    have hn := ih (j + 1) (by omega)
    have hj : ∀ b, Tot (fun k => skiarearef10_nodes.j1 k x0 j b) := fun b => by
      refine Tot.step (fun k => by rw [skiarearef10_nodes.j1, wS j _ hl (by omega)]) ?_
      refine Tot.ite (fun _ => Tot.now _) (fun _ => Tot.ite (fun h => ?_) (fun _ => hn))
      have hw : wrap64 ((j : Int) - 1) = j - 1 := wrap_id (by omega)
      rw [hw]
      exact Tot.congr (fun k => by rw [if_pos (by omega), if_pos (by omega), if_pos (by omega), if_pos (by omega)]) (Tot.ite (fun _ => Tot.now _) (fun _ => hn))
    refine Tot.step (fun k => by rw [skiarearef10_nodes.l0, if_pos (by omega), if_pos (by omega), inR_f, Option.bind_some]) ?_
    refine Tot.ite (fun _ => Tot.congr (fun k => by rw [inR_f, Option.bind_some]) (hj _)) (fun _ => hj _)
theorem Node_tot (x1 : Int) (xs : List S53) (b : List S50) (c : List S66) (e : List Int) (hl : xs.length ≤ 9223372036854775807) (d : Nat) : ∀ j : Nat, xs.length - j = d → Tot (fun k => skiarearef10_Node.l0 k x1 j xs b c e) := by
  induction d with
  | zero => exact fun j hd => Tot.step (fun k => by rw [skiarearef10_Node.l0, if_neg (by omega)]) (Tot.now _)
  | succ d ih =>
    intro j hd
    refine Tot.step (fun k => by rw [skiarearef10_Node.l0, if_pos (by omega), if_pos (by omega), wS j _ hl (by omega)]) ?_
    exact Tot.ite (fun _ => Tot.now _) (fun _ => ih (j + 1) (by omega))
theorem rises_tot (xs : List S53) (b : List S50) (c : List S66) (e : List Int) (u v : Int) (hl : xs.length ≤ 9223372036854775807) : Tot (fun k => skiarearef10_rises.f k xs b c e u v) := by
  have hj : ∀ t p q r s, Tot (fun k => skiarearef10_rises.j0 k t p q r s) := fun t p q r s => by
    refine Tot.step (fun k => by rw [skiarearef10_rises.j0]) ?_
    exact Tot.ite (fun _ => Tot.now _) (fun _ => Tot.ite (fun _ => Tot.now _) (fun _ => Tot.now _))
  refine Tot.congr (fun k => by rw [skiarearef10_rises.f]) ?_
  refine Tot.bind (Node_tot u xs b c e hl xs.length 0 (by omega)) fun n1 => Tot.bind (Node_tot v xs b c e hl xs.length 0 (by omega)) fun n2 => ?_
  exact Tot.ite (fun _ => hj _ _ _ _ _) (fun _ => hj _ _ _ _ _)
theorem lifts_tot (a : List S53) (xs : List S50) (c : List S66) (e : List Int) (ha : a.length ≤ 9223372036854775807) (hl : xs.length ≤ 9223372036854775807) (d : Nat) : ∀ j : Nat, xs.length - j = d → Tot (fun k => skiarearef10_lifts.l0 k j a xs c e) := by
  induction d with
  | zero => exact fun j hd => Tot.step (fun k => by rw [skiarearef10_lifts.l0, if_neg (by omega)]) (Tot.now _)
  | succ d ih =>
    intro j hd
    have hn := ih (j + 1) (by omega)
    have h2 : ∀ b y0 y1 y2 y3 y4 y5 y6 y7, y7 ≠ 0 → Tot (fun k => skiarearef10_lifts.j2 k j b a xs c e y0 y1 y2 y3 y4 y5 y6 y7) := fun b y0 y1 y2 y3 y4 y5 y6 y7 h7 => by
      refine Tot.step (fun k => by rw [skiarearef10_lifts.j2, wS j _ hl (by omega)]) ?_
      refine Tot.ite (fun _ => Tot.now _) (fun _ => Tot.bind (rises_tot a xs c e y2 y3 ha) fun r => Tot.ite (fun _ => ?_) (fun _ => Tot.now _))
      refine Tot.bind (Tot.congr (fun k => by rw [skiarearef10_carriers.f, if_neg h7]) (Tot.ite (fun _ => Tot.congr (fun k => by rw [inR_f, Option.bind_some]) (Tot.now _)) (fun _ => Tot.now _))) fun r => Tot.ite (fun _ => hn) (fun _ => Tot.now _)
    have h1 : ∀ b y0 y1 y2 y3 y4 y5 y6 y7, (b = false → y7 ≠ 0) → Tot (fun k => skiarearef10_lifts.j1 k j b a xs c e y0 y1 y2 y3 y4 y5 y6 y7) := fun b y0 y1 y2 y3 y4 y5 y6 y7 h7 => by
      refine Tot.step (fun k => by rw [skiarearef10_lifts.j1]) ?_
      refine Tot.ite (fun _ => Tot.now _) (fun hb => ?_)
      have hb7 := h7 (by simpa using hb)
      refine Tot.ite (fun h => ?_) (fun _ => h2 _ _ _ _ _ _ _ _ _ hb7)
      have hw : wrap64 ((j : Int) - 1) = j - 1 := wrap_id (by omega)
      rw [hw]
      exact Tot.congr (fun k => by rw [if_pos (by omega), if_pos (by omega)]) (h2 _ _ _ _ _ _ _ _ _ hb7)
    refine Tot.step (fun k => by rw [skiarearef10_lifts.l0, if_pos (by omega), if_pos (by omega)]) ?_
    simp only [inR_f, Option.bind_some]
    refine Tot.ite (fun _ => Tot.ite (fun _ => Tot.ite (fun _ => Tot.ite (fun _ => Tot.ite (fun _ => ?_) ?_) ?_) ?_) ?_) ?_
    all_goals first | exact fun _ => h1 _ _ _ _ _ _ _ _ _ (fun h => by cases h) | exact h1 _ _ _ _ _ _ _ _ _ (fun h => by simp at h; omega)
theorem runs_tot (a : List S53) (b' : List S50) (xs : List S66) (e : List Int) (ha : a.length ≤ 9223372036854775807) (hl : xs.length ≤ 9223372036854775807) (d : Nat) : ∀ j : Nat, xs.length - j = d → Tot (fun k => skiarearef10_runs.l0 k j a b' xs e) := by
  induction d with
  | zero => exact fun j hd => Tot.step (fun k => by rw [skiarearef10_runs.l0, if_neg (by omega)]) (Tot.now _)
  | succ d ih =>
    intro j hd
    have hn := ih (j + 1) (by omega)
    have h2 : ∀ b y0 y1 y2 y3 y4 y5 y6, Tot (fun k => skiarearef10_runs.j2 k j b a b' xs e y0 y1 y2 y3 y4 y5 y6) := fun b y0 y1 y2 y3 y4 y5 y6 => by
      refine Tot.step (fun k => by rw [skiarearef10_runs.j2, wS j _ hl (by omega)]) ?_
      exact Tot.ite (fun _ => Tot.now _) (fun _ => Tot.bind (rises_tot a b' xs e y3 y2 ha) fun r => Tot.ite (fun _ => hn) (fun _ => Tot.now _))
    have h1 : ∀ b y0 y1 y2 y3 y4 y5 y6, Tot (fun k => skiarearef10_runs.j1 k j b a b' xs e y0 y1 y2 y3 y4 y5 y6) := fun b y0 y1 y2 y3 y4 y5 y6 => by
      refine Tot.step (fun k => by rw [skiarearef10_runs.j1]) ?_
      refine Tot.ite (fun _ => Tot.now _) (fun hb => ?_)
      refine Tot.ite (fun h => ?_) (fun _ => h2 _ _ _ _ _ _ _ _)
      have hw : wrap64 ((j : Int) - 1) = j - 1 := wrap_id (by omega)
      rw [hw]
      exact Tot.congr (fun k => by rw [if_pos (by omega), if_pos (by omega)]) (h2 _ _ _ _ _ _ _ _)
    refine Tot.step (fun k => by rw [skiarearef10_runs.l0, if_pos (by omega), if_pos (by omega)]) ?_
    simp only [inR_f, Option.bind_some]
    refine Tot.ite (fun _ => Tot.ite (fun _ => Tot.ite (fun _ => Tot.ite (fun _ => ?_) ?_) ?_) ?_) ?_
    all_goals first | exact fun _ => h1 _ _ _ _ _ _ _ _ | exact h1 _ _ _ _ _ _ _ _
theorem bases_l1 (a : List S53) (b : List S50) (c : List S66) (xs : List Int) (hl : xs.length ≤ 9223372036854775807) (d : Nat) : ∀ j : Nat, 1 ≤ j → xs.length - j = d → Tot (fun k => skiarearef10_bases.l1 k j a b c xs) := by
  induction d with
  | zero => exact fun j h1 hd => Tot.step (fun k => by rw [skiarearef10_bases.l1, if_neg (by omega)]) (Tot.now _)
  | succ d ih =>
    intro j h1 hd
    have hw : wrap64 ((j : Int) - 1) = j - 1 := wrap_id (by omega)
    refine Tot.step (fun k => by rw [skiarearef10_bases.l1, if_pos (by omega), if_pos (by omega), hw, if_pos (by omega), if_pos (by omega), wS j _ hl (by omega)]) ?_
    exact Tot.ite (fun _ => Tot.now _) (fun _ => ih (j + 1) (by omega) (by omega))
theorem bases_tot (a : List S53) (b : List S50) (c : List S66) (xs : List Int) (ha : a.length ≤ 9223372036854775807) (hl : xs.length ≤ 9223372036854775807) : Tot (fun k => skiarearef10_bases.f k a b c xs) := by
  have h0 : ∀ d j : Nat, xs.length - j = d → Tot (fun k => skiarearef10_bases.l0 k j a b c xs) := by
    intro d
    induction d with
    | zero =>
      intro j hd
      refine Tot.step (fun k => by rw [skiarearef10_bases.l0, if_neg (by omega)]) ?_
      exact bases_l1 a b c xs hl _ 1 (by omega) rfl
    | succ d ih =>
      intro j hd
      refine Tot.step (fun k => by rw [skiarearef10_bases.l0, if_pos (by omega), if_pos (by omega), wS j _ hl (by omega)]) ?_
      exact Tot.bind (Node_tot _ a b c xs ha a.length 0 (by omega)) fun r => Tot.ite (fun _ => ih (j + 1) (by omega)) (fun _ => Tot.now _)
  refine Tot.congr (fun k => by rw [skiarearef10_bases.f]) ?_
  refine Tot.ite (fun _ => Tot.now _) (fun _ => ?_)
  exact h0 _ 0 rfl
theorem right10 (a : List S53) (b : List S50) (c : List S66) (e : List Int) (ha : a.length ≤ 9223372036854775807) (hb : b.length ≤ 9223372036854775807) (hc : c.length ≤ 9223372036854775807) (he : e.length ≤ 9223372036854775807) :
    ∃ r, Ev (fun k => skiarearef10_Right.f k a b c e) r ∧ (r = 0 → b.length ≤ 32) := by
  have h4 : Ev (fun k => skiarearef10_Right.j0 k true a b c e) 4 := Ev.step (fun k => by rw [skiarearef10_Right.j0, if_pos rfl]) (Ev.now _)
  simp only [skiarearef10_Right.f]
  by_cases h0 : (a.length : Int) > 64
  · exact ⟨4, Ev.yes h0 h4, fun h => by omega⟩
  by_cases h1 : (b.length : Int) > 32
  · exact ⟨4, Ev.no h0 (Ev.yes h1 h4), fun h => by omega⟩
  by_cases h2 : (c.length : Int) > 64
  · exact ⟨4, Ev.no h0 (Ev.no h1 (Ev.yes h2 h4)), fun h => by omega⟩
  have : ∀ t, Tot (fun k => skiarearef10_Right.j0 k t a b c e) := fun t => by
    refine Tot.step (fun k => by rw [skiarearef10_Right.j0]) ?_
    refine Tot.ite (fun _ => Tot.now _) (fun _ => Tot.bind (nodes_tot a ha _ 0 rfl) fun r => Tot.ite (fun _ => ?_) (fun _ => Tot.now _))
    refine Tot.bind (lifts_tot a b c e ha hb _ 0 rfl) fun r => Tot.ite (fun _ => ?_) (fun _ => Tot.now _)
    refine Tot.bind (runs_tot a b c e ha hc _ 0 rfl) fun r => Tot.ite (fun _ => ?_) (fun _ => Tot.now _)
    exact Tot.bind (bases_tot a b c e ha he) fun r => Tot.now _
  obtain ⟨r, hr⟩ := this (decide ((e.length : Int) > 64))
  exact ⟨r, Ev.no h0 (Ev.no h1 (Ev.no h2 hr)), fun _ => by omega⟩
end Go.Proofs.Ytfabkiacmbkpmaa.A
