-- PRINTED by print.py (a twelfth state) out of the translation. Not trusted: Lean checks it.
import Derived.Test.YticfgecicmgpeaaAx0
namespace Go.Proofs.Yticfgecicmgpeaa.A
open Go.RowKit Go.Proofs.YticfgecicmgpeaaW.PrintWords Go.Proofs.YticfgecicmgpeaaW.PrintLast Go.Proofs.YticfgecicmgpeaaW.PrintMore
attribute [local go_sem] max2_int min2_int max_two min_two max_three min_three max_four min_four   -- for this text's walks alone
set_option linter.unusedVariables false
set_option linter.unusedSimpArgs false

/-! ### api_Shift: function 39 -/
def api_Shift.f (l0 : List S37) : Option (List S37) := if l0.length < 1000 then some l0 else none
theorem k37_heap : Kd.Heap k37 := Kd.heap_iso _ (Kd.heap_pair (Kd.heap_int .i64) (Kd.heap_pair (Kd.heap_int .i64) (Kd.heap_pair (Kd.heap_int .i64) (Kd.heap_int .i64))))
theorem k34_heap : Kd.Heap k34 := Kd.heap_iso _ (Kd.heap_pair (Kd.heap_int .i64) (Kd.heap_pair (Kd.heap_int .i64) (Kd.heap_pair Kd.heap_bool (Kd.heap_slice 3 (Kd.heap_int .i64)))))
set_option maxHeartbeats 1000000 in
/-- slices.Clone: a row of its own; it is nil where the row that came in is. -/
theorem clone39 (ad : Addr) (c0 : Nat) (l0 : List S37) (w : World) (hr0 : Kd.C k37 w (some ad) l0.length l0) (hl : l0.length < 1000) :
  Calls Try.prog 39 #[.slice (some ad) l0.length c0] w fun e w' => ∃ v0_ : Value, e = .returned (v0_) ∧ Kd.N k37 37 w' w.heap.size (fun _ => True) v0_ l0 ∧ Below w.heap.size w w' := by
 have HF := Aside0.mk (Kd.C_F k37_heap hr0)
 have HB := Aside0.mk (Below.refl w.heap.size w)
 clear hr0
 have hq : ∀ W : World, (binOp .eql 24 (.slice (some ad) l0.length c0) (.slice none 0 0)).run Try.prog W = .ok (.bool false) W := fun W => Lib.run_eql_slice_nil W 24 37 (some ad) l0.length c0 0 0 Try.underlying24
 go_enter Try.func39, Try.ntmps39
 go_wp2_with (first | ((with_reducible refine gate_dst (N := 5) rfl ?_); refine Kd.N_lit k37 (w0 := w) w.heap.size 37 rfl (N' := 5) rfl (xs := []) (inner := []) (ok := fun _ => True) (okp := fun _ => False) ?aR (Reps.none _ _) (fun _ h => h.elim) trivial HB.out (Nat.le_refl _) (by simp) ?_; (case aR => first | (go_simp; done) | (go_simp; rfl)); intro v1 w1 ho hb hg hat; have HO := Aside0.mk ho; have HB1 := Aside0.mk hb; have HF1 := Aside0.mk (Kd.F_below HF.out hb); have HT := Aside0.mk hat; clear ho hb hg hat HB HF) | ((with_reducible refine gate_dst (N := 7) rfl ?_); refine Kd.N_append_rows k37 (w0 := w) w.heap.size rfl (.tmp 5) (.tmp 6) 24 37 (.agg #[(.int .i64 0), (.int .i64 0), (.int .i64 0), (.int .i64 0)]) 32 rfl Try.underlying24 info37 rfl (by decide) (by omega) v1 ([] : List S37) l0 _ _ _ (fun _ => True) (fun k => k < w.heap.size) rfl rfl ?aO ?aR ?aK ?aF ?aB ?aS ?aL ?_; (case aO => exact HO.out); (case aR => exact HF1.out); (case aK => exact (fun k hk => ⟨trivial, fun he => by obtain ⟨b, hb, hle⟩ := HT.out; rw [hb] at he; injection he with he; have hk2 : k < w.heap.size := hk; omega⟩)); (case aF => exact (fun _ _ => trivial)); (case aB => exact HB1.out); (case aS => exact HB1.out.size); (case aL => simp; omega); intro v2 w2 ho hb hg hat; have HO2 := Aside0.mk ho; have HB2 := Aside0.mk hb; clear ho hb hg hat HB1 HO HF1))
 go_ret
 exact ⟨_, by first | rfl | (simp; done), HO2.out, HB2.out⟩
set_option maxHeartbeats 1000000 in
theorem api_Shift.calls (A0 : Option Addr) (c0 : Nat) (l0 : List (S37)) (r : List (S37)) (w : World) (hr0 : Kd.C k37 w A0 l0.length l0) (hc0 : l0.length ≤ c0) (h : api_Shift.f l0 = some r) :
  Calls Try.prog 39 #[.slice A0 l0.length c0] w fun e w' => ∃ v0_ : Value, e = .returned (v0_) ∧ Kd.N k37 37 w' w.heap.size (fun _ => True) v0_ r ∧ Below w.heap.size w w' := by
 unfold api_Shift.f at h
 by_cases hl : l0.length < 1000
 ·rw [if_pos hl] at h
  obtain rfl := Option.some.inj h
  cases A0 with
  | some ad => exact clone39 ad c0 l0 w hr0 hl
  | none =>
   have h0 : l0 = [] := Classical.byContradiction fun hn => by
    obtain ⟨ad, h, _⟩ := hr0.2.2 (List.length_pos_iff.2 hn)
    cases h
   subst h0
   have HB := Aside0.mk (Below.refl w.heap.size w)
   clear hr0
   have hq : ∀ W : World, (binOp .eql 24 (.slice none 0 c0) (.slice none 0 0)).run Try.prog W = .ok (.bool true) W := fun W => Lib.run_eql_slice_nil W 24 37 none 0 c0 0 0 Try.underlying24
   go_enter Try.func39, Try.ntmps39
   go_wp2
   go_ret
   exact ⟨_, by first | rfl | (simp; done), Kd.N_nil _ _ _ _ _, HB.out⟩
 ·rw [if_neg hl] at h
  cases h

end Go.Proofs.Yticfgecicmgpeaa.A
