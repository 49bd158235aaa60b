/- Plain laws of the bulletin chapter: what Issue computes. -/
import Derived.Test.YtibmbffhlicpaaaAx5
import Derived.Test.YtibmbffhlicpaaaAx6
import Derived.Test.YtibmbffhlicpaaaAx7
import Derived.Test.YtibmbffhlicpaaaAx10
import Derived.Test.YtibmbffhlicpaaaM2
namespace Go.Proofs.Ytibmbffhlicpaaa.A
open Go.RowKit Go.Proofs.YtibmbffhlicpaaaW.PrintWords Go.Proofs.YtibmbffhlicpaaaW.PrintLast
set_option linter.unusedVariables false
theorem rd_get {l : List S31} {j : Nat} (h : j < l.length) : rd_T31 l j = l[j] := by simp [rd_T31, List.getD, h]
theorem rd_append_lt {l m : List S31} {j : Nat} (h : j < l.length) : rd_T31 (l ++ m) j = rd_T31 l j := by
  rw [rd_get (by simp; omega), rd_get h, List.getElem_append_left h]
theorem rd_append_at (l : List S31) (b : S31) : rd_T31 (l ++ [b]) l.length = b := by
  rw [rd_get (by simp)]; simp
theorem rd_set_self {l : List S31} {j : Nat} (h : j < l.length) : l.set j (rd_T31 l j) = l := by
  rw [rd_get h]; simp
theorem len_append {l : List S31} {b : S31} (hl : fewP l) (hb : b.f4.length ≤ 100) (j : Nat) (h : j < (l ++ [b]).length) : (rd_T31 (l ++ [b]) j).f4.length ≤ 100 := by
  rcases Nat.lt_or_ge j l.length with h1 | h1
  · rw [rd_append_lt h1]; exact hl.2 j h1
  · obtain rfl : j = l.length := by simp at h; omega
    rw [rd_append_at]; exact hb
theorem issue_l0 (x : List S31) (hl : x.length ≤ 9223372036854775807) (hz : ∀ j : Nat, j < x.length → (rd_T31 x j).f4.length ≤ 100) (d : Nat) : ∀ j : Nat, x.length - j = d → j ≤ x.length → Ev (fun k => bulletin_Issue.l0 k x x.length j) (x, 0) := by
  induction d with
  | zero => exact fun j hd hj => Ev.step (fun k => by rw [bulletin_Issue.l0, if_neg (by omega)]) (Ev.now _)
  | succ d ih =>
    intro j hd hj
    have h1 := hz j (by omega)
    refine Ev.step (fun k => by rw [bulletin_Issue.l0, if_pos (by omega), if_pos (by omega), if_pos (by omega), slices_Clone_int_int.f, if_pos (by omega), Option.bind_some, wS j _ hl (by omega)]) ?_
    have h2 : x.set ((j : Int).toNat) (⟨(rd_T31 x j).f0, (⟨(rd_T31 x j).f1.f0, (rd_T31 x j).f1.f1⟩ : S28), (rd_T31 x j).f2, (rd_T31 x j).f3, (rd_T31 x j).f4, (rd_T31 x j).f5⟩ : S31) = x := rd_set_self (show j < x.length by omega)
    rw [h2]
    exact ih (j + 1) (by omega) (by omega)
/-- What Issue returns. -/
def issueV (l : List S31) (b : S31) : List S31 × Int := if rightV (l ++ [b]) = 0 then (l ++ [b], 0) else ([], rightV (l ++ [b]))
theorem issue_ev (l : List S31) (b : S31) (hl : fewP l) (hb : b.f4.length ≤ 100) : Ev (fun k => bulletin_Issue.f k l b.f0 b.f1.f0 b.f1.f1 b.f2 b.f3 b.f4 b.f5) (issueV l b) := by
  have hz := len_append hl hb
  have h1 := hl.1
  refine Ev.congr (fun k => by rw [bulletin_Issue.f, api_Bulletin.f, if_pos (by omega), Option.bind_some, Option.bind_some, if_pos (by simp; omega), Option.bind_some]) ?_
  refine Ev.bind (right_ev (l ++ [b]) (fun j hj => by have := hz j hj; omega)) ?_
  unfold issueV
  by_cases h : rightV (l ++ [b]) = 0
  · rw [if_pos h]
    exact Ev.yes h (issue_l0 (l ++ [b]) (by simp; omega) hz (l ++ [b]).length 0 (by omega) (by omega))
  · rw [if_neg h]
    exact Ev.no h (Ev.now _)
end Go.Proofs.Ytibmbffhlicpaaa.A
