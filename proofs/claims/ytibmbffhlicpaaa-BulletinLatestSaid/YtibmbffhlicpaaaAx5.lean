-- PRINTED by print.py (a twelfth state) out of the translation. Not trusted: Lean checks it.
import Derived.Test.YtibmbffhlicpaaaAx0
namespace Go.Proofs.Ytibmbffhlicpaaa.A
open Go.RowKit Go.Proofs.YtibmbffhlicpaaaW.PrintWords Go.Proofs.YtibmbffhlicpaaaW.PrintLast Go.Proofs.YtibmbffhlicpaaaW.PrintMore
attribute [local go_sem] max2_int min2_int max_two min_two max_three min_three max_four min_four   -- for this text's walks alone
set_option linter.unusedVariables false
set_option linter.unusedSimpArgs false

/-! ### api_Bulletin: function 28 -/
def api_Bulletin.f (l0 : List S31) : Option (List S31) := if l0.length < 1954687338268 then some l0 else none
set_option maxHeartbeats 1000000 in
theorem api_Bulletin.calls (P0_ : Nat → Prop) (A0 : Option Addr) (c0 : Nat) (l0 : List (S31)) (r : List (S31)) (w : World) (hs0 : Kd.V k31 31 w w.heap.size (fun k_ => P0_ k_) (.slice A0 l0.length c0) l0) (h : api_Bulletin.f l0 = some r) :
  Calls Try.prog 28 #[.slice A0 l0.length c0] w fun e w' => ∃ v0_ : Value, e = .returned (v0_) ∧ Kd.N k31 31 w' w.heap.size (fun k_ => (P0_ k_ ∨ w.heap.size ≤ k_)) v0_ r ∧ Below w.heap.size w w' := by
 unfold api_Bulletin.f at h
 by_cases hl : l0.length < 1954687338268
 ·rw [if_pos hl] at h
  obtain rfl := Option.some.inj h
  have hf := Kd.F_bound (Kd.V_F hs0)
  have HF := Aside0.mk hf
  have HB := Aside0.mk (Below.refl w.heap.size w)
  have hne : l0 ≠ [] → ∃ ad, A0 = some ad := fun h => ((Kd.F_now hf).2.2 (List.length_pos_iff.2 h)).imp fun ad h => h.1
  clear hs0 h hf
  cases A0 with
  | none =>
   have h0 : l0 = [] := Classical.byContradiction fun h => by
    obtain ⟨ad, h⟩ := hne h
    cases h
   subst h0
   clear hne
   have hq : ∀ W : World, (binOp .eql 22 (.slice none 0 c0) (.slice none 0 0)).run Try.prog W = .ok (.bool true) W := fun W => Lib.run_eql_slice_nil W 22 31 none 0 c0 0 0 Try.underlying22
   go_enter Try.func28, Try.ntmps28
   go_wp2
   go_ret
   exact ⟨_, by first | rfl | (simp; done), Kd.N_nil _ _ _ _ _, HB.out⟩
  | some ad =>
   clear hne
   have hq : ∀ W : World, (binOp .eql 22 (.slice (some ad) l0.length c0) (.slice none 0 0)).run Try.prog W = .ok (.bool false) W := fun W => Lib.run_eql_slice_nil W 22 31 (some ad) l0.length c0 0 0 Try.underlying22
   go_enter Try.func28, Try.ntmps28
   go_wp2_with (first | ((with_reducible refine gate_dst (N := 5) rfl ?_); refine Kd.N_lit k31 (w0 := w) w.heap.size 31 rfl (N' := 5) rfl (xs := []) (inner := []) (ok := fun k_ => (P0_ k_ ∨ w.heap.size ≤ k_)) (okp := fun _ => False) ?aR (Reps.none _ _) (fun _ h => h.elim) (.inr (Nat.le_refl _)) HB.out (Nat.le_refl _) (by simp) ?_; (case aR => first | (go_simp; done) | (go_simp; rfl)); intro v1 w1 ho hb hg hat; have HO := Aside0.mk ho; have HB1 := Aside0.mk hb; have HF1 := Aside0.mk (Kd.F_below HF.out hb); have HT := Aside0.mk hat; clear ho hb hg hat HB HF) | ((with_reducible refine gate_dst (N := 7) rfl ?_); refine Kd.N_append_rows k31 (w0 := w) w.heap.size rfl (.tmp 5) (.tmp 6) 22 31 (.agg #[(.int .i64 0), (.int .i64 0), (.int .i64 0), (.int .i64 0), (.int .i64 0), (.slice none 0 0), (.int .i64 0)]) 72 rfl Try.underlying22 info31 rfl (by decide) (by omega) v1 ([] : List S31) l0 _ _ _ (fun k_ => (P0_ k_ ∨ w.heap.size ≤ k_)) (fun k => P0_ k ∧ k < w.heap.size) rfl rfl ?aO ?aR ?aK ?aF ?aB ?aS ?aL ?_; (case aO => exact HO.out); (case aR => exact HF1.out); (case aK => exact (fun k hk => ⟨.inl hk.1, fun he => by obtain ⟨b, hb, hle⟩ := HT.out; rw [hb] at he; injection he with he; have := hk.2; omega⟩)); (case aF => exact (fun k hk => .inr (Nat.le_trans HB1.out.size hk))); (case aB => exact HB1.out); (case aS => exact HB1.out.size); (case aL => simp; omega); intro v2 w2 ho hb hg hat; have HO2 := Aside0.mk ho; have HB2 := Aside0.mk hb; clear ho hb hg hat HB1 HO HF1))
   go_ret
   exact ⟨_, by first | rfl | (simp; done), HO2.out, HB2.out⟩
 ·rw [if_neg hl] at h
  cases h

end Go.Proofs.Ytibmbffhlicpaaa.A
