/- Plain laws of the bulletin chapter: what Issue computes, and what Same says. -/
import Derived.Test.YtibmbffhlicpaaaAx4
import Derived.Test.YtibmbffhlicpaaaAx5
import Derived.Test.YtibmbffhlicpaaaAx6
import Derived.Test.YtibmbffhlicpaaaAx12
import Derived.Test.YtibmbffhlicpaaaAx13
import Derived.Test.YtibmbffhlicpaaaAx14
import Derived.Test.YtibmbffhlicpaaaM2
namespace Go.Proofs.Ytibmbffhlicpaaa.A
open Go.RowKit Go.Proofs.YtibmbffhlicpaaaW.PrintWords Go.Proofs.YtibmbffhlicpaaaW.PrintLast
set_option linter.unusedVariables false
theorem rd_get {l : List S31} {j : Nat} (h : j < l.length) : rd_T31 l j = l[j] := by simp [rd_T31, List.getD, h]
theorem rd_append_lt {l m : List S31} {j : Nat} (h : j < l.length) : rd_T31 (l ++ m) j = rd_T31 l j := by
  rw [rd_get (by simp; omega), rd_get h, List.getElem_append_left h]
theorem rd_append_at (l : List S31) (b : S31) : rd_T31 (l ++ [b]) l.length = b := by
  rw [rd_get (by simp)]; simp
theorem rd_set_self {l : List S31} {j : Nat} (h : j < l.length) : l.set j (rd_T31 l j) = l := by
  rw [rd_get h]; simp
theorem len_append {l : List S31} {b : S31} (hl : fewP l) (hb : b.f4.length ≤ 100) (j : Nat) (h : j < (l ++ [b]).length) : (rd_T31 (l ++ [b]) j).f4.length ≤ 100 := by
  rcases Nat.lt_or_ge j l.length with h1 | h1
  · rw [rd_append_lt h1]; exact hl.2 j h1
  · obtain rfl : j = l.length := by simp at h; omega
    rw [rd_append_at]; exact hb
theorem issue_l0 (x : List S31) (hl : x.length ≤ 9223372036854775807) (hz : ∀ j : Nat, j < x.length → (rd_T31 x j).f4.length ≤ 100) (d : Nat) : ∀ j : Nat, x.length - j = d → j ≤ x.length → Ev (fun k => bulletin_Issue.l0 k x x.length j) (x, 0) := by
  induction d with
  | zero => exact fun j hd hj => Ev.step (fun k => by rw [bulletin_Issue.l0, if_neg (by omega)]) (Ev.now _)
  | succ d ih =>
    intro j hd hj
    have h1 := hz j (by omega)
    refine Ev.step (fun k => by rw [bulletin_Issue.l0, if_pos (by omega), if_pos (by omega), if_pos (by omega), slices_Clone_int_int.f, if_pos (by omega), Option.bind_some, wS j _ hl (by omega)]) ?_
    have h2 : x.set ((j : Int).toNat) (⟨(rd_T31 x j).f0, (⟨(rd_T31 x j).f1.f0, (rd_T31 x j).f1.f1⟩ : S28), (rd_T31 x j).f2, (rd_T31 x j).f3, (rd_T31 x j).f4, (rd_T31 x j).f5⟩ : S31) = x := rd_set_self (show j < x.length by omega)
    rw [h2]
    exact ih (j + 1) (by omega) (by omega)
/-- What Issue returns. -/
def issueV (l : List S31) (b : S31) : List S31 × Int := if rightV (l ++ [b]) = 0 then (l ++ [b], 0) else ([], rightV (l ++ [b]))
theorem issue_ev (l : List S31) (b : S31) (hl : fewP l) (hb : b.f4.length ≤ 100) : Ev (fun k => bulletin_Issue.f k l b.f0 b.f1.f0 b.f1.f1 b.f2 b.f3 b.f4 b.f5) (issueV l b) := by
  have hz := len_append hl hb
  have h1 := hl.1
  refine Ev.congr (fun k => by rw [bulletin_Issue.f, api_Bulletin.f, if_pos (by omega), Option.bind_some, Option.bind_some, if_pos (by simp; omega), Option.bind_some]) ?_
  refine Ev.bind (right_ev (l ++ [b]) (fun j hj => by have := hz j hj; omega)) ?_
  unfold issueV
  by_cases h : rightV (l ++ [b]) = 0
  · rw [if_pos h]
    exact Ev.yes h (issue_l0 (l ++ [b]) (by simp; omega) hz (l ++ [b]).length 0 (by omega) (by omega))
  · rw [if_neg h]
    exact Ev.no h (Ev.now _)
theorem issueR_ev (l : List S31) (b : S31) (hl : fewP l) (hb : b.f4.length ≤ 100) : Ev (fun k => skiarearef49_Issue.f k l b.f0 b.f1.f0 b.f1.f1 b.f2 b.f3 b.f4 b.f5) (issueV l b) := by
  have hz := len_append hl hb
  have h1 := hl.1
  refine Ev.congr (fun k => by rw [skiarearef49_Issue.f, if_pos (by simp; omega), Option.bind_some, List.nil_append, if_pos (by omega), Option.bind_some]) ?_
  refine Ev.bind (rightR_ev (l ++ [b]) (fun j hj => by have := hz j hj; omega)) ?_
  by_cases h : rightV (l ++ [b]) = 0
  · have e : issueV l b = (l ++ [b], 0) := if_pos h
    rw [e]; exact Ev.yes h (Ev.now _)
  · have e : issueV l b = ([], rightV (l ++ [b])) := if_neg h
    rw [e]; exact Ev.no h (Ev.now _)
theorem one_l0 (l : List Int) (hl : l.length ≤ 9223372036854775807) (a0 a1 a2 a3 a4 a6 b0 b1 b2 b3 b4 b6 : Int) (d : Nat) : ∀ j : Nat, l.length - j = d → j ≤ l.length → Ev (fun k => skiarearef49_one.l0 k j a0 a1 a2 a3 a4 l a6 b0 b1 b2 b3 b4 l b6) true := by
  induction d with
  | zero => exact fun j hd hj => Ev.step (fun k => by rw [skiarearef49_one.l0, if_neg (by omega)]) (Ev.now _)
  | succ d ih =>
    intro j hd hj
    exact Ev.step (fun k => by rw [skiarearef49_one.l0, if_pos (by omega), if_pos (by omega), if_pos (by omega), if_pos rfl, wS j _ hl (by omega)]) (ih (j + 1) (by omega) (by omega))
theorem one_ev (b : S31) (hl : b.f4.length ≤ 9223372036854775807) : Ev (fun k => skiarearef49_one.f k b.f0 b.f1.f0 b.f1.f1 b.f2 b.f3 b.f4 b.f5 b.f0 b.f1.f0 b.f1.f1 b.f2 b.f3 b.f4 b.f5) true := by
  refine Ev.congr (fun k => by rw [skiarearef49_one.f, if_pos rfl, if_neg (by simp), if_pos rfl, if_pos rfl, if_pos rfl]) ?_
  refine Ev.step (fun k => by rw [skiarearef49_one.j0, if_neg (by simp)]) ?_
  exact one_l0 b.f4 hl _ _ _ _ _ _ _ _ _ _ _ _ b.f4.length 0 (by omega) (by omega)
theorem same_l0 (x : List S31) (hl : x.length ≤ 9223372036854775807) (hz : ∀ j : Nat, j < x.length → (rd_T31 x j).f4.length ≤ 100) (d : Nat) : ∀ j : Nat, x.length - j = d → j ≤ x.length → Ev (fun k => skiarearef49_Same.l0 k x x j) true := by
  induction d with
  | zero => exact fun j hd hj => Ev.step (fun k => by rw [skiarearef49_Same.l0, if_neg (by omega)]) (Ev.now _)
  | succ d ih =>
    intro j hd hj
    have h1 := hz j (by omega)
    refine Ev.step (fun k => by rw [skiarearef49_Same.l0, if_pos (by omega), if_pos (by omega), if_pos (by omega), wS j _ hl (by omega)]) ?_
    exact Ev.bind (one_ev (rd_T31 x j) (by omega)) (Ev.yes rfl (ih (j + 1) (by omega) (by omega)))
theorem same_ev (x : List S31) (hl : x.length ≤ 9223372036854775807) (hz : ∀ j : Nat, j < x.length → (rd_T31 x j).f4.length ≤ 100) : Ev (fun k => skiarearef49_Same.f k x x) true :=
  Ev.congr (fun k => by rw [skiarearef49_Same.f, if_pos rfl]; rfl) (same_l0 x hl hz x.length 0 (by omega) (by omega))
theorem issue_same (l : List S31) (b : S31) (hl : fewP l) (hb : b.f4.length ≤ 100) : Ev (fun k => skiarearef49_Same.f k (issueV l b).1 (issueV l b).1) true := by
  have h1 := hl.1
  unfold issueV
  by_cases h : rightV (l ++ [b]) = 0
  · rw [if_pos h]; exact same_ev _ (by simp; omega) (len_append hl hb)
  · rw [if_neg h]; exact same_ev _ (by simp) (fun j hj => absurd hj (by simp))
end Go.Proofs.Ytibmbffhlicpaaa.A
