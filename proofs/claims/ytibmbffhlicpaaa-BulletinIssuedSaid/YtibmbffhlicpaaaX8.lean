/- The walk of BulletinIssued: it returns true, whatever comes in: printed by x8.py (regions' steps) around a hand walk. -/
import Derived.Test.YtibmbffhlicpaaaAx7
import Derived.Test.YtibmbffhlicpaaaAx10
import Derived.Test.YtibmbffhlicpaaaAx11
import Derived.Test.YtibmbffhlicpaaaAx25
import Derived.Test.YtibmbffhlicpaaaX8b
import Derived.Test.YtibmbffhlicpaaaX8c
import Derived.Test.YtibmbffhlicpaaaX8d
import Derived.WalkSpells
import Derived.Deep.QuietTactic
import Derived.BigQuiet
namespace Go.Proofs.Ytibmbffhlicpaaa.A
open Go.RowKit Go.Proofs.YtibmbffhlicpaaaW.PrintWords Go.Proofs.YtibmbffhlicpaaaW.PrintLast Go.Proofs.YtibmbffhlicpaaaW.PrintMore
attribute [local go_sem] max2_int min2_int max_two min_two max_three min_three max_four min_four
set_option linter.unusedVariables false
set_option linter.unusedSimpArgs false
theorem ownIssued.all (A0 : Option Addr) (c0 : Nat) (l0 : List S31) (a1_0 a1_1 a1_2 a1_3 a1_4 : Int) (A1_5 : Option Addr) (c1_5 : Nat) (l1_5 : List Int) (a1_6 a2_0 a2_1 a2_2 a2_3 : Int) (w : World) (hr0 : Kd.C k31 w A0 l0.length l0) (hc0 : l0.length ≤ c0) (hr1_5 : Kd.C (Kd.int .i64) w A1_5 l1_5.length l1_5) (hc1_5 : l1_5.length ≤ c1_5) : Calls Try.prog 8 #[.slice A0 l0.length c0, .agg #[.int .i64 a1_0, .int .i64 a1_1, .int .i64 a1_2, .int .i64 a1_3, .int .i64 a1_4, .slice A1_5 l1_5.length c1_5, .int .i64 a1_6], .agg #[.int .i64 a2_0, .int .i64 a2_1, .int .i64 a2_2, .int .i64 a2_3]] w fun e w' => e = .returned (.bool true) ∧ Below w.heap.size w w' := by
  obtain ⟨b, hbE, hb2⟩ := rightL_ev l0
  obtain ⟨kR, hR⟩ := hbE.rounds
  cases b with
  | false => exact issued_no A0 c0 l0 a1_0 a1_1 a1_2 a1_3 a1_4 A1_5 c1_5 l1_5 a1_6 a2_0 a2_1 a2_2 a2_3 w hr0 hc0 hr1_5 hc1_5 kR hR
  | true =>
    have hr := hb2.1 rfl
    by_cases h5 : 100 < l1_5.length
    · exact issued_long A0 c0 l0 a1_0 a1_1 a1_2 a1_3 a1_4 A1_5 c1_5 l1_5 a1_6 a2_0 a2_1 a2_2 a2_3 w hr0 hc0 hr1_5 hc1_5 kR hR h5
    · by_cases hold : 0 < l0.length ∧ a1_0 ≤ (rd_T31 l0 (l0.length - 1 : Nat)).f0
      · exact issued_old A0 c0 l0 a1_0 a1_1 a1_2 a1_3 a1_4 A1_5 c1_5 l1_5 a1_6 a2_0 a2_1 a2_2 a2_3 w hr0 hc0 hr1_5 hc1_5 kR hR (by omega) hold.1 hold.2
      · have h5' : l1_5.length ≤ 100 := by omega
        obtain ⟨kI, hI⟩ := (issue_ev l0 ⟨a1_0, ⟨a1_1, a1_2⟩, a1_3, a1_4, l1_5, a1_6⟩ hr.1 h5').rounds
        by_cases he : rightV (l0 ++ [⟨a1_0, ⟨a1_1, a1_2⟩, a1_3, a1_4, l1_5, a1_6⟩]) = 0
        · have hx : bulletin_Issue.f kI l0 a1_0 a1_1 a1_2 a1_3 a1_4 l1_5 a1_6 = some (l0 ++ [⟨a1_0, ⟨a1_1, a1_2⟩, a1_3, a1_4, l1_5, a1_6⟩], 0) := by rw [issueV, if_pos he] at hI; exact hI
          have hXl : (l0 ++ [(⟨a1_0, ⟨a1_1, a1_2⟩, a1_3, a1_4, l1_5, a1_6⟩ : S31)]).length = l0.length + 1 := len1 _ _
          have hX64 := (rightV_zero.1 he).1
          obtain ⟨kX, hX⟩ := (right_ev (l0 ++ [⟨a1_0, ⟨a1_1, a1_2⟩, a1_3, a1_4, l1_5, a1_6⟩]) (fun j hj => by have := len_append hr.1 h5' j hj; omega)).rounds
          rw [he] at hX
          have hl9 : l0.length ≤ 9223372036854775807 := by omega
          have hX9 : (l0 ++ [(⟨a1_0, ⟨a1_1, a1_2⟩, a1_3, a1_4, l1_5, a1_6⟩ : S31)]).length ≤ 9223372036854775807 := by omega
          obtain ⟨kC, hC⟩ := (cur_ev (l0 ++ [⟨a1_0, ⟨a1_1, a1_2⟩, a1_3, a1_4, l1_5, a1_6⟩]) a2_3 hX9).rounds
          obtain ⟨kD, hD⟩ := (cur_ev l0 a2_3 hl9).rounds
          have hn := newer (b := ⟨a1_0, ⟨a1_1, a1_2⟩, a1_3, a1_4, l1_5, a1_6⟩) hr (by by_cases h : l0.length = 0; exact .inl h; exact .inr (Int.not_le.1 (fun h1 => hold ⟨by omega, h1⟩)))
          have hcons : 0 < l0.length → ¬ a1_0 ≤ (rd_T31 l0 (l0.length - 1 : Nat)).f0 := fun h h1 => hold ⟨h, h1⟩
          have hout : covB (⟨a1_0, ⟨a1_1, a1_2⟩, a1_3, a1_4, l1_5, a1_6⟩ : S31) a2_3 = false → Calls Try.prog 8 #[.slice A0 l0.length c0, .agg #[.int .i64 a1_0, .int .i64 a1_1, .int .i64 a1_2, .int .i64 a1_3, .int .i64 a1_4, .slice A1_5 l1_5.length c1_5, .int .i64 a1_6], .agg #[.int .i64 a2_0, .int .i64 a2_1, .int .i64 a2_2, .int .i64 a2_3]] w fun e w' => e = .returned (.bool true) ∧ Below w.heap.size w w' := fun hc => by
            rw [not_cur hc] at hC
            have hL : skiarealaw49_level.f (l0 ++ [(⟨a1_0, ⟨a1_1, a1_2⟩, a1_3, a1_4, l1_5, a1_6⟩ : S31)]) a2_0 a2_1 a2_2 a2_3 = some (grV (lvlB a2_0 a2_1 a2_2) l0 a2_3) := by rw [level_f, not_gr _ hc]
            have hW : bulletin_Worst.f (l0 ++ [(⟨a1_0, ⟨a1_1, a1_2⟩, a1_3, a1_4, l1_5, a1_6⟩ : S31)]) a2_3 = some (grV allB l0 a2_3) := by rw [bulletin_Worst.f, not_gr _ hc]
            rcases Nat.eq_zero_or_pos l0.length with h0 | h0
            · by_cases h1 : a1_1 ≤ a2_3
              · exact issued_out1_nil A0 c0 l0 a1_0 a1_1 a1_2 a1_3 a1_4 A1_5 c1_5 l1_5 a1_6 a2_0 a2_1 a2_2 a2_3 w hr0 hc0 hr1_5 hc1_5 kR hR h5' h0 kI _ hx hXl hX64 kX hX h1 (fun h2 => by simp [covB, h1, h2] at hc) kC kD _ _ _ hC hD hL (level_f _ _ _ _ _) hW rfl
              · exact issued_out0_nil A0 c0 l0 a1_0 a1_1 a1_2 a1_3 a1_4 A1_5 c1_5 l1_5 a1_6 a2_0 a2_1 a2_2 a2_3 w hr0 hc0 hr1_5 hc1_5 kR hR h5' h0 kI _ hx hXl hX64 kX hX h1 kC kD _ _ _ hC hD hL (level_f _ _ _ _ _) hW rfl
            · by_cases h1 : a1_1 ≤ a2_3
              · exact issued_out1_cons A0 c0 l0 a1_0 a1_1 a1_2 a1_3 a1_4 A1_5 c1_5 l1_5 a1_6 a2_0 a2_1 a2_2 a2_3 w hr0 hc0 hr1_5 hc1_5 kR hR h5' h0 (hcons h0) kI _ hx hXl hX64 kX hX h1 (fun h2 => by simp [covB, h1, h2] at hc) kC kD _ _ _ hC hD hL (level_f _ _ _ _ _) hW rfl
              · exact issued_out0_cons A0 c0 l0 a1_0 a1_1 a1_2 a1_3 a1_4 A1_5 c1_5 l1_5 a1_6 a2_0 a2_1 a2_2 a2_3 w hr0 hc0 hr1_5 hc1_5 kR hR h5' h0 (hcons h0) kI _ hx hXl hX64 kX hX h1 kC kD _ _ _ hC hD hL (level_f _ _ _ _ _) hW rfl
          by_cases hc : covB (⟨a1_0, ⟨a1_1, a1_2⟩, a1_3, a1_4, l1_5, a1_6⟩ : S31) a2_3 = true
          · rw [cov_cur he hn hc] at hC
            have hW : bulletin_Worst.f (l0 ++ [(⟨a1_0, ⟨a1_1, a1_2⟩, a1_3, a1_4, l1_5, a1_6⟩ : S31)]) a2_3 = some a1_6 := by rw [bulletin_Worst.f, cov_gr allB he hn hc]; exact congrArg some (if_pos rfl)
            have hL : skiarealaw49_level.f (l0 ++ [(⟨a1_0, ⟨a1_1, a1_2⟩, a1_3, a1_4, l1_5, a1_6⟩ : S31)]) a2_0 a2_1 a2_2 a2_3 = some (if a2_0 ∈ l1_5 ∧ a1_3 < a2_2 ∧ a2_1 < a1_4 then a1_6 else 0) := by
              rw [level_f, cov_gr _ he hn hc]
              congr 1
              by_cases hm : a2_0 ∈ l1_5 ∧ a1_3 < a2_2 ∧ a2_1 < a1_4
              · rw [if_pos hm, if_pos (by simp [lvlB, hm])]
              · rw [if_neg hm, if_neg (fun h => hm (by simp only [lvlB, Bool.and_eq_true, decide_eq_true_iff] at h; exact ⟨h.2.2, h.1, h.2.1⟩))]
            simp only [covB, decide_eq_true_iff] at hc
            rcases Nat.eq_zero_or_pos l0.length with h0 | h0
            · exact issued_in_nil A0 c0 l0 a1_0 a1_1 a1_2 a1_3 a1_4 A1_5 c1_5 l1_5 a1_6 a2_0 a2_1 a2_2 a2_3 w hr0 hc0 hr1_5 hc1_5 kR hR h5' h0 kI _ hx hXl hX64 kX hX hc.1 hc.2 kC hC hW hL
            · exact issued_in_cons A0 c0 l0 a1_0 a1_1 a1_2 a1_3 a1_4 A1_5 c1_5 l1_5 a1_6 a2_0 a2_1 a2_2 a2_3 w hr0 hc0 hr1_5 hc1_5 kR hR h5' h0 (hcons h0) kI _ hx hXl hX64 kX hX hc.1 hc.2 kC hC hW hL
          · exact hout (by simpa using hc)
        · have hx : bulletin_Issue.f kI l0 a1_0 a1_1 a1_2 a1_3 a1_4 l1_5 a1_6 = some ([], rightV (l0 ++ [⟨a1_0, ⟨a1_1, a1_2⟩, a1_3, a1_4, l1_5, a1_6⟩])) := by rw [issueV, if_neg he] at hI; exact hI
          rcases Nat.eq_zero_or_pos l0.length with h0 | h0
          · exact issued_err_nil A0 c0 l0 a1_0 a1_1 a1_2 a1_3 a1_4 A1_5 c1_5 l1_5 a1_6 a2_0 a2_1 a2_2 a2_3 w hr0 hc0 hr1_5 hc1_5 kR hR h5' h0 kI _ _ hx he rfl
          · exact issued_err_cons A0 c0 l0 a1_0 a1_1 a1_2 a1_3 a1_4 A1_5 c1_5 l1_5 a1_6 a2_0 a2_1 a2_2 a2_3 w hr0 hc0 hr1_5 hc1_5 kR hR h5' h0 (fun h1 => hold ⟨h0, h1⟩) kI _ _ hx he rfl
def ownIssued.f (l0 : List S31) (a1_0 a1_1 a1_2 a1_3 a1_4 : Int) (l1_5 : List Int) (a1_6 a2_0 a2_1 a2_2 a2_3 : Int) : Option Bool := some true
theorem ownIssued.calls (A0 : Option Addr) (c0 : Nat) (l0 : List S31) (a1_0 a1_1 a1_2 a1_3 a1_4 : Int) (A1_5 : Option Addr) (c1_5 : Nat) (l1_5 : List Int) (a1_6 a2_0 a2_1 a2_2 a2_3 : Int) (r : Bool) (w : World) (hr0 : Kd.C k31 w A0 l0.length l0) (hc0 : l0.length ≤ c0) (hr1_5 : Kd.C (Kd.int .i64) w A1_5 l1_5.length l1_5) (hc1_5 : l1_5.length ≤ c1_5) (h : ownIssued.f l0 a1_0 a1_1 a1_2 a1_3 a1_4 l1_5 a1_6 a2_0 a2_1 a2_2 a2_3 = some r) :
    Calls Try.prog 8 #[.slice A0 l0.length c0, .agg #[.int .i64 a1_0, .int .i64 a1_1, .int .i64 a1_2, .int .i64 a1_3, .int .i64 a1_4, .slice A1_5 l1_5.length c1_5, .int .i64 a1_6], .agg #[.int .i64 a2_0, .int .i64 a2_1, .int .i64 a2_2, .int .i64 a2_3]] w fun e w' => e = .returned (.bool r) ∧ Below w.heap.size w w' := by
  obtain rfl := Option.some.inj h
  exact ownIssued.all A0 c0 l0 a1_0 a1_1 a1_2 a1_3 a1_4 A1_5 c1_5 l1_5 a1_6 a2_0 a2_1 a2_2 a2_3 w hr0 hc0 hr1_5 hc1_5
end Go.Proofs.Ytibmbffhlicpaaa.A
