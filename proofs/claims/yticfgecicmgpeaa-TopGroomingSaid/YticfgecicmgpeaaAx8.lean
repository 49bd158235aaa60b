-- PRINTED by print.py (a twelfth state) out of the translation. Not trusted: Lean checks it.
import Derived.Test.YticfgecicmgpeaaAx0
namespace Go.Proofs.Yticfgecicmgpeaa.A
open Go.RowKit Go.Proofs.YticfgecicmgpeaaW.PrintWords Go.Proofs.YticfgecicmgpeaaW.PrintLast Go.Proofs.YticfgecicmgpeaaW.PrintMore
attribute [local go_sem] max2_int min2_int max_two min_two max_three min_three max_four min_four   -- for this text's walks alone
set_option linter.unusedVariables false
set_option linter.unusedSimpArgs false

/-! ### route_End: function 16 -/
def endTo (plan : List S37) : Nat → Int
 | 0 => 0
 | k + 1 => if k = 0 then (rd_T37 plan (0 : Nat)).f3 else mx (endTo plan k) (rd_T37 plan k).f3
def endV (plan : List S37) : Int := endTo plan plan.length
set_option maxHeartbeats 4000000 in
set_option maxRecDepth 100000 in
theorem end_walk (A : Option Addr) (c : Nat) (plan : List S37) (w : World) (hr : Kd.C k37 w A plan.length plan) (hc : plan.length ≤ c) :
  Calls Try.prog 16 #[.slice A plan.length c] w fun e w' => e = .returned (.int .i64 (endV plan)) ∧ Below w.heap.size w w' := by
 have hu37 := Try.underlying37
 have hm : plan.length ≤ 9223372036854775807 := hr.2.1
 have HR := Aside0.mk hr
 have HC := Aside0.mk hc
 clear hr hc
 go_enter Try.func16, Try.ntmps16
 go_wp2_with fail
 go_loopw [3, 8] (fun v3 v8 wr => ∃ k : Nat, k ≤ plan.length ∧ v8 = .int .i64 k ∧ v3 = .int .i64 (endTo plan k) ∧ Below w.heap.size w wr) (fun _ v8 _ => plan.length - (intOf v8).toNat)
 case atStart => exact ⟨0, Nat.zero_le _, rfl, rfl, Below.refl _ _⟩
 case round =>
  obtain ⟨k, hk, rfl, rfl, hb⟩ := hrel
  have HB := Aside0.mk hb
  clear hb
  by_cases hlt : k < plan.length
  ·obtain ⟨ad, eA, x0, x1, x2, x3⟩ := at_T37 HR.out (k : Int) (by omega) (by omega)
   subst eA
   rw [Int.toNat_natCast] at x0 x1 x2 x3
   replace x0 := (HB.out.cell (World.block_lt_of_cell? w _ x0)).trans x0
   replace x1 := (HB.out.cell (World.block_lt_of_cell? w _ x1)).trans x1
   replace x2 := (HB.out.cell (World.block_lt_of_cell? w _ x2)).trans x2
   replace x3 := (HB.out.cell (World.block_lt_of_cell? w _ x3)).trans x3
   have HB1 := Aside0.mk (below_alloc HB.out (.cells #[.int .i64 (rd_T37 plan k).f0, .int .i64 (rd_T37 plan k).f1, .int .i64 (rd_T37 plan k).f2, .int .i64 (rd_T37 plan k).f3] 37 (0, 0)))
   by_cases h0 : k = 0
   ·have HE := Aside0.mk (show endTo plan (k + 1) = (rd_T37 plan k).f3 from by subst h0; exact if_pos rfl)
    have q0 : ((k : Int) == 0) = true := beq_iff_eq.mpr (by omega)
    clear h0
    go_wp2
    all_goals exact ⟨⟨k + 1, hlt, rfl, by first | (rw [HE.out]; done) | (rw [HE.out]; rfl) | (rw [HE.out]; simp; done), HB1.out⟩, by simp [intOf]; omega⟩
   ·have HE := Aside0.mk (show endTo plan (k + 1) = mx (endTo plan k) (rd_T37 plan k).f3 from if_neg h0)
    have q0 : ((k : Int) == 0) = false := beq_eq_false_iff_ne.mpr (by omega)
    obtain ⟨M, hM⟩ : ∃ M : Int, M = if endTo plan k < (rd_T37 plan k).f3 then (rd_T37 plan k).f3 else endTo plan k := ⟨_, rfl⟩
    have HM := Aside0.mk (show mx (endTo plan k) (rd_T37 plan k).f3 = M from hM.symm)
    replace hM := hM.symm
    go_wp2
    all_goals exact ⟨⟨k + 1, hlt, rfl, by rw [HE.out, HM.out], HB1.out⟩, by simp [intOf]; omega⟩
  ·obtain rfl : k = plan.length := by omega
   go_wp2
   go_ret
   exact ⟨by first | rfl | (simp; done), HB.out⟩
def route_End.f (l0 : List S37) : Option Int := some (endV l0)
theorem route_End.calls (A0 : Option Addr) (c0 : Nat) (l0 : List (S37)) (r : Int) (w : World) (hr0 : Kd.C k37 w A0 l0.length l0) (hc0 : l0.length ≤ c0) (h : route_End.f l0 = some r) :
  Calls Try.prog 16 #[.slice A0 l0.length c0] w fun e w' => e = .returned (.int .i64 r) ∧ Below w.heap.size w w' := by
 obtain rfl := Option.some.inj h
 exact end_walk A0 c0 l0 w hr0 hc0

end Go.Proofs.Yticfgecicmgpeaa.A
