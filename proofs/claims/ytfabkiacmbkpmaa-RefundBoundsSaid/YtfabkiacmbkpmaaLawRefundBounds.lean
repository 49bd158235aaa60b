/- The row of the law skiarealaw36_RefundBounds: for every input it returns true, and the input reads as it did. Condition: none but the row's own (what it reaches is not followed). -/
import Derived.Test.YtfabkiacmbkpmaaRows
import Derived.Test.YtfabkiacmbkpmaaAx21
import Derived.Test.YtfabkiacmbkpmaaOpen
import Derived.Test.YtfabkiacmbkpmaaPureRefundBounds
import Derived.WalkKit
import Derived.ProofKit
import Derived.OpenShut
import Derived.ShutString
import Derived.ChangeOld
import Derived.Below
import Derived.SizedLaws
namespace Go.Proofs.Ytfabkiacmbkpmaa.refundBounds
open Go.ChangeShapes Go.WideShapes Go.ChangeAt Go.RowKit Go.Proofs.Ytfabkiacmbkpmaa.A Go.Proofs.YtfabkiacmbkpmaaW.PrintWords Go.Proofs.YtfabkiacmbkpmaaW.PrintLast
set_option linter.unusedVariables false
set_option linter.unusedSimpArgs false
/- For every input the law returns true. -/
theorem own : ownKnob Try.prog.godebug = none := by kernel_rfl
theorem laidOut : laidOutB Try.prog = true := by kernel_rfl
set_option maxRecDepth 100000 in
theorem lifted (os : Os) (started : os.Started) (H : Type) (enc : TypeId × Value → H) :
    ReturnsInHanded {} Try.checked os 7 .any (Rows.refundBoundsSpec.pre6 enc Try.prog Try.f7 Rows.refundBoundsRow.domain false) (Rows.refundBoundsSpec.post enc Try.prog Try.f7 false true false false) := by
  refine returnsInHanded_of_change_sized (C := Try.checked) own started (by kernel_rfl) Try.func7
    (ChangeSpec.witness6 (enc := enc) (C := Try.checked) false ⟨#[], #[.agg #[.int .i64 0, .int .i64 0], .int .i64 0, .agg #[.slice none 0 0, .slice none 0 0]], []⟩ 8 (by kernel_rfl) (by kernel_rfl) (by kernel_rfl) (by kernel_rfl)) ?_
  intro W base args ds gs before hval0 hW hcnd hsz0 _
  have hval : ∀ (j : Nat) t v, Try.f7.params[j]? = some t → args[j]? = some v → Value.okWide Try.prog W .any base t v := hval0
  have hW' := hW
  obtain ⟨p, q, hA0, hV, rfl, hfz, hnd⟩ := hW
  have hA : DataW.TrodAll enc Try.prog W 0 (fun _ => true) true Try.f7.params.toList args.toList ds p := hA0
  rw [Try.params7] at hA hval
  obtain ⟨v0, vs0, d0, ds0, p0, q0, hargs, rfl, rfl, h0, r0⟩ := trodAll_cons hA
  obtain ⟨v1, vs1, d1, ds1, p1, q1, rfl, rfl, rfl, h1, r1⟩ := trodAll_cons r0
  obtain ⟨v2, vs2, d2, ds2, p2, q2, rfl, rfl, rfl, h2, r2⟩ := trodAll_cons r1
  obtain ⟨rfl, rfl, rfl⟩ := trodAll_nil r2
  obtain rfl : args = #[v0, v1, v2] := by cases args; simp_all
  obtain ⟨rfl, rfl⟩ := trodVars_none hV
  have hv0 := (hval 0 23 v0 rfl rfl)
  simp only [Value.okWide, Try.underlying23] at hv0
  obtain ⟨cs0, rfl, hsz0, _⟩ := hv0
  have k0 := h0
  have lt0 : ∀ x ∈ p0, x.block < W.heap.size := by obtain ⟨m, hm⟩ := k0; exact DataW.trod_lt m _ _ _ hm
  obtain ⟨fuel0, hf0⟩ := h0
  obtain ⟨x0, hK0, g0⟩ := opens23 _ _ _ _ _ _ _ _ _ hf0
  have hcs0 := k23_open hK0
  obtain rfl : cs0 = #[.int .i64 x0.f0, .int .i64 x0.f1] := by
    cases cs0
    simp [Value.cells] at hcs0
    simp [hcs0]
  obtain ⟨a1, rfl, rfl, rfl, w1⟩ := open_int Try.underlying3 (hval 1 3 v1 rfl rfl) h1
  have hv2 := (hval 2 45 v2 rfl rfl)
  simp only [Value.okWide, Try.underlying45] at hv2
  obtain ⟨cs2, rfl, hsz2, _⟩ := hv2
  have k2 := h2
  have lt2 : ∀ x ∈ p2, x.block < W.heap.size := by obtain ⟨m, hm⟩ := k2; exact DataW.trod_lt m _ _ _ hm
  obtain ⟨fuel2, hf2⟩ := h2
  obtain ⟨x2, hK2, g2⟩ := opens45 _ _ _ _ _ _ _ _ _ hf2
  obtain ⟨x2_0, x2_1⟩ := x2
  obtain ⟨_, _, hcs2, ⟨A2_0, c2_0, rfl, hl2_0, hC2_0⟩, ⟨A2_1, c2_1, rfl, hl2_1, hC2_1⟩⟩ := hK2
  obtain rfl : cs2 = #[.slice A2_0 x2_0.length c2_0, .slice A2_1 x2_1.length c2_1] := by
    cases cs2
    simp [Value.cells] at hcs2
    simp [hcs2]
  obtain ⟨k, hk⟩ := Pure.RefundBounds x0.f0 x0.f1 a1 x2_0 x2_1 (g0.1) (g0.2) (ini64_wf w1) (g2.1) (g2.2)
  clear hA0 hval0 hsz0
  refine (skiarealaw36_RefundBounds.calls k x0.f0 x0.f1 a1 _ _ x2_0 _ _ x2_1 true W hC2_0 hl2_0 hC2_1 hl2_1 hk).mono fun e W' ⟨he, bel0⟩ => ?_
  have bel : Below W.heap.size W W' := bel0
  subst he
  exact ⟨_, rfl, _, _, _, [], _, [], hW', trodAll_mk1 (shut_bool Try.underlying4 _), (trodAll_cons_mk (Below.trod laidOut (by kernel_rfl) (of_decide_eq_true (by kernel_rfl)) k0 bel lt0) (trodAll_cons_mk (shut_int Try.underlying3 w1) (trodAll_cons_mk (Below.trod laidOut (by kernel_rfl) (of_decide_eq_true (by kernel_rfl)) k2 bel lt2) trodAll_mk0))), rfl, bel.frame _, fun h => by cases h⟩
theorem over : Rows.refundBoundsRow.holds Try.pinned (OpenSpec.ofChange Rows.refundBoundsSpec) :=
  OpenClaim.holds_of_wide 7 Try.f7 rfl rfl rfl rfl rfl rfl rfl ⟨rfl, rfl, rfl, rfl, rfl⟩ rfl rfl rfl rfl rfl (by kernel_rfl) Try.func7 (by kernel_rfl)
    (of_decide_eq_true (by kernel_rfl)) (by unfold Func.isWrapper; first | (rw [if_pos (by decide +kernel)]; kernel_rfl) | (rw [if_neg (by decide +kernel)]; exact ⟨rfl, rfl⟩))
    (fun os started H enc _ => lifted os started H enc)
theorem proved : Rows.RefundBoundsSaid := over
#print axioms proved
end Go.Proofs.Ytfabkiacmbkpmaa.refundBounds
namespace Go.Proofs.Ytfabkiacmbkpmaa
/-- The row, under a short name, for the claim. -/
theorem refundBounds_holds : Rows.RefundBoundsSaid := refundBounds.proved
end Go.Proofs.Ytfabkiacmbkpmaa
