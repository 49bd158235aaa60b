/- The row of the law skiarealaw24_GroupOrder: for every input it returns true, and the input reads as it did. Condition: none but the row's own (what it reaches is not followed). -/
import Derived.Test.YtdklkjgcnibbgaaRows
import Derived.Test.YtdklkjgcnibbgaaAx35
import Derived.Test.YtdklkjgcnibbgaaOpen
import Derived.Test.YtdklkjgcnibbgaaPureGroupOrder
import Derived.WalkKit
import Derived.ProofKit
import Derived.OpenShut
import Derived.ShutString
import Derived.ChangeOld
import Derived.Below
import Derived.SizedLaws
namespace Go.Proofs.Ytdklkjgcnibbgaa.groupOrder
open Go.ChangeShapes Go.WideShapes Go.ChangeAt Go.RowKit Go.Proofs.Ytdklkjgcnibbgaa.A Go.Proofs.YtdklkjgcnibbgaaW.PrintWords Go.Proofs.YtdklkjgcnibbgaaW.PrintLast
set_option linter.unusedVariables false
set_option linter.unusedSimpArgs false
/- For every input the law returns true. -/
theorem own : ownKnob Try.prog.godebug = none := by kernel_rfl
theorem laidOut : laidOutB Try.prog = true := by kernel_rfl
set_option maxRecDepth 100000 in
theorem lifted (os : Os) (started : os.Started) (H : Type) (enc : TypeId × Value → H) :
    ReturnsInHanded {} Try.checked os 9 .any (Rows.groupOrderSpec.pre6 enc Try.prog Try.f9 Rows.groupOrderRow.domain false) (Rows.groupOrderSpec.post enc Try.prog Try.f9 false true false false) := by
  refine returnsInHanded_of_change_sized (C := Try.checked) own started (by kernel_rfl) Try.func9
    (ChangeSpec.witness6 (enc := enc) (C := Try.checked) false ⟨#[], #[.agg #[.slice none 0 0, .slice none 0 0, .slice none 0 0]], []⟩ 8 (by kernel_rfl) (by kernel_rfl) (by kernel_rfl) (by kernel_rfl)) ?_
  intro W base args ds gs before hval0 hW hcnd hsz0 _
  have hval : ∀ (j : Nat) t v, Try.f9.params[j]? = some t → args[j]? = some v → Value.okWide Try.prog W .any base t v := hval0
  have hW' := hW
  obtain ⟨p, q, hA0, hV, rfl, hfz, hnd⟩ := hW
  have hA : DataW.TrodAll enc Try.prog W 0 (fun _ => true) true Try.f9.params.toList args.toList ds p := hA0
  rw [Try.params9] at hA hval
  obtain ⟨v0, vs0, d0, ds0, p0, q0, hargs, rfl, rfl, h0, r0⟩ := trodAll_cons hA
  obtain ⟨rfl, rfl, rfl⟩ := trodAll_nil r0
  obtain rfl : args = #[v0] := by cases args; simp_all
  obtain ⟨rfl, rfl⟩ := trodVars_none hV
  have hv0 := (hval 0 25 v0 rfl rfl)
  simp only [Value.okWide, Try.underlying25] at hv0
  obtain ⟨cs0, rfl, hsz0, _⟩ := hv0
  have k0 := h0
  have lt0 : ∀ x ∈ p0, x.block < W.heap.size := by obtain ⟨m, hm⟩ := k0; exact DataW.trod_lt m _ _ _ hm
  obtain ⟨fuel0, hf0⟩ := h0
  obtain ⟨x0, hK0, g0⟩ := opens25 _ _ _ _ _ _ _ _ _ hf0
  obtain ⟨x0_0, x0_1, x0_2⟩ := x0
  obtain ⟨_, _, hcs0, ⟨A0_0, c0_0, rfl, hl0_0, hC0_0⟩, ⟨_, _, rfl, ⟨A0_1, c0_1, rfl, hl0_1, hC0_1⟩, ⟨A0_2, c0_2, rfl, hl0_2, hC0_2⟩⟩⟩ := hK0
  obtain rfl : cs0 = #[.slice A0_0 x0_0.length c0_0, .slice A0_1 x0_1.length c0_1, .slice A0_2 x0_2.length c0_2] := by
    cases cs0
    simp [Value.cells] at hcs0
    simp [hcs0]
  obtain ⟨k, hk⟩ := Pure.GroupOrder x0_0 x0_1 x0_2 (g0.1) (g0.2.1) (g0.2.2)
  clear hA0 hval0 hsz0
  refine (skiarealaw24_GroupOrder.calls k _ _ x0_0 _ _ x0_1 _ _ x0_2 true W hC0_0 hl0_0 hC0_1 hl0_1 hC0_2 hl0_2 hk).mono fun e W' ⟨he, bel0⟩ => ?_
  have bel : Below W.heap.size W W' := bel0
  subst he
  exact ⟨_, rfl, _, _, _, [], _, [], hW', trodAll_mk1 (shut_bool Try.underlying4 _), (trodAll_cons_mk (Below.trod laidOut (by kernel_rfl) (of_decide_eq_true (by kernel_rfl)) k0 bel lt0) trodAll_mk0), rfl, bel.frame _, fun h => by cases h⟩
theorem over : Rows.groupOrderRow.holds Try.pinned (OpenSpec.ofChange Rows.groupOrderSpec) :=
  OpenClaim.holds_of_wide 9 Try.f9 rfl rfl rfl rfl rfl rfl rfl ⟨rfl, rfl, rfl, rfl, rfl⟩ rfl rfl rfl rfl rfl (by kernel_rfl) Try.func9 (by kernel_rfl)
    (of_decide_eq_true (by kernel_rfl)) (by unfold Func.isWrapper; first | (rw [if_pos (by decide +kernel)]; kernel_rfl) | (rw [if_neg (by decide +kernel)]; exact ⟨rfl, rfl⟩))
    (fun os started H enc _ => lifted os started H enc)
theorem proved : Rows.GroupOrderSaid := over
#print axioms proved
end Go.Proofs.Ytdklkjgcnibbgaa.groupOrder
namespace Go.Proofs.Ytdklkjgcnibbgaa
/-- The row, under a short name, for the claim. -/
theorem groupOrder_holds : Rows.GroupOrderSaid := groupOrder.proved
end Go.Proofs.Ytdklkjgcnibbgaa
