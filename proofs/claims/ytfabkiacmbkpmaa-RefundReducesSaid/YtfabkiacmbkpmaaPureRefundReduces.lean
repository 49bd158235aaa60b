/- For every sale and amount Reduce of the program and of the reference answer alike. Condition: none. -/
import Derived.Test.YtfabkiacmbkpmaaAx20
import Derived.Test.YtfabkiacmbkpmaaM2
import Derived.Test.YtfabkiacmbkpmaaOpen
namespace Go.Proofs.Ytfabkiacmbkpmaa.Pure
open Go.RowKit Go.Proofs.Ytfabkiacmbkpmaa.A Go.Proofs.YtfabkiacmbkpmaaW.PrintWords Go.Proofs.YtfabkiacmbkpmaaW.PrintLast
set_option linter.unusedVariables false
theorem RefundReduces : ∀ (a0_0 : Int) (a0_1 : Int) (a0_2 : Int) (a0_3 : Int) (a0_4 : Int) (a0_5 : Int) (a1 : Int), InI64 a0_0 → InI64 a0_1 → InI64 a0_2 → InI64 a0_3 → InI64 a0_4 → InI64 a0_5 → InI64 a1 → ∃ k, skiarealaw36_RefundReduces.f k a0_0 a0_1 a0_2 a0_3 a0_4 a0_5 a1 = some true := by
  intro a0_0 a0_1 a0_2 a0_3 a0_4 a0_5 a1 _ _ _ _ _ _ _
  apply Ev.rounds
  simp only [skiarealaw36_RefundReduces.f]
  have h : skiarearef36_Reduce.f a0_0 a0_1 a0_2 a0_3 a0_4 a0_5 a1 = refund_Reduce.f a0_0 a0_1 a0_2 a0_3 a0_4 a0_5 a1 := by
    unfold skiarearef36_Reduce.f refund_Reduce.f
    by_cases h0 : a1 < 0
    · rw [if_pos h0, if_neg (by omega)]
    · rw [if_neg h0]
      by_cases h1 : a1 > a0_4
      · rw [if_pos h1, if_neg (by omega)]
      · rw [if_neg h1, if_pos (by omega)]
  obtain ⟨r, hr⟩ : ∃ r, refund_Reduce.f a0_0 a0_1 a0_2 a0_3 a0_4 a0_5 a1 = some r := by
    unfold refund_Reduce.f; split <;> exact ⟨_, rfl⟩
  simp only [h, hr, Option.bind_some]
  exact Ev.bind alive_ev (Ev.yes rfl (Ev.yes (by simp) (Ev.val (by simp))))
end Go.Proofs.Ytfabkiacmbkpmaa.Pure
