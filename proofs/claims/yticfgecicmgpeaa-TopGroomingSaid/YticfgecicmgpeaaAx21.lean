-- PRINTED by print.py (a twelfth state) out of the translation. Not trusted: Lean checks it.
import Derived.Test.YticfgecicmgpeaaAx0
import Derived.Test.YticfgecicmgpeaaAx20
namespace Go.Proofs.Yticfgecicmgpeaa.A
open Go.RowKit Go.Proofs.YticfgecicmgpeaaW.PrintWords Go.Proofs.YticfgecicmgpeaaW.PrintLast Go.Proofs.YticfgecicmgpeaaW.PrintMore
attribute [local go_sem] max2_int min2_int max_two min_two max_three min_three max_four min_four   -- for this text's walks alone
set_option linter.unusedVariables false
set_option linter.unusedSimpArgs false

/-! ### assign_rest: function 38 -/
mutual
def assign_rest.l0 : Nat → List (List Int) → List Int → Int → Option (List Int)
 | 0, _, _, _ => none
 | k + 1, x0, x3, x4 => if x4 ≥ 0 then ((bits_OnesCount.f (IntKind.u64.wrap (x4))).bind fun t124 => (if t124 ≥ (x0.length : Int) then (assign_rest.l0 k x0 x3 (wrap64 (x4 - 1))) else (if 0 ≤ t124 then (if t124 < (x0.length : Int) then (assign_rest.l1 k x0 x3 x4 (-1) (rd_L4 x0 t124) ((rd_L4 x0 t124).length : Int) 0) else (none)) else (none)))) else (some x3)
def assign_rest.l1 : Nat → List (List Int) → List Int → Int → Int → List Int → Int → Int → Option (List Int)
 | 0, _, _, _, _, _, _, _ => none
 | k + 1, x0, x3, x4, x6, x36, x37, x38 => if x38 < x37 then (if 0 ≤ x38 then (if x38 < (x36.length : Int) then (if (Go.bits .and .i64 (shr .i64 x4 x38) 1) = 0 then (if x6 < 0 then (assign_rest.j2 k x0 x3 x4 x6 x38 (rd x36 x38) x36 x37 x38 true) else (if 0 ≤ (Go.bits .or .i64 x4 (shl .i64 1 x38)) then (if (Go.bits .or .i64 x4 (shl .i64 1 x38)) < (x3.length : Int) then (assign_rest.j2 k x0 x3 x4 x6 x38 (rd x36 x38) x36 x37 x38 (decide ((wrap64 ((rd x36 x38) + (rd x3 (Go.bits .or .i64 x4 (shl .i64 1 x38))))) < x6))) else (none)) else (none))) else (assign_rest.j2 k x0 x3 x4 x6 x38 (rd x36 x38) x36 x37 x38 false)) else (none)) else (none)) else (if 0 ≤ x4 then (if x4 < (x3.length : Int) then (assign_rest.l0 k x0 (x3.set (x4 : Int).toNat x6) (wrap64 (x4 - 1))) else (none)) else (none))
def assign_rest.j2 : Nat → List (List Int) → List Int → Int → Int → Int → Int → List Int → Int → Int → Bool → Option (List Int)
 | 0, _, _, _, _, _, _, _, _, _, _ => none
 | k + 1, x0, x3, x4, x6, x7, x8, x36, x37, x38, x64 => if x64 = true then (if 0 ≤ x7 then (if 0 ≤ (Go.bits .or .i64 x4 (shl .i64 1 x7)) then (if (Go.bits .or .i64 x4 (shl .i64 1 x7)) < (x3.length : Int) then (assign_rest.l1 k x0 x3 x4 (wrap64 (x8 + (rd x3 (Go.bits .or .i64 x4 (shl .i64 1 x7))))) x36 x37 (wrap64 (x38 + 1))) else (none)) else (none)) else (none)) else (assign_rest.l1 k x0 x3 x4 x6 x36 x37 (wrap64 (x38 + 1)))
end
def assign_rest.f (k : Nat) (l0 : List (List Int)) : Option (List Int) := if (l0.length : Int) = 0 then (some (([0] : List Int))) else (if 0 < (l0.length : Int) then (if 0 ≤ (shl .i64 1 ((rd_L4 l0 0).length : Int)) then (if (shl .i64 1 ((rd_L4 l0 0).length : Int) : Int).toNat ≤ 35184372088832 then ((some (List.replicate (shl .i64 1 ((rd_L4 l0 0).length : Int) : Int).toNat 0 : List Int)).bind fun y121 => (assign_rest.l0 k l0 y121 (wrap64 ((y121.length : Int) - 1)))) else (none)) else (none)) else (none))
theorem assign_rest.mono_l : ∀ k, (∀ y0 y1 y2, LeO (assign_rest.l0 k y0 y1 y2) (assign_rest.l0 (k + 1) y0 y1 y2)) ∧ (∀ y0 y1 y2 y3 y4 y5 y6, LeO (assign_rest.l1 k y0 y1 y2 y3 y4 y5 y6) (assign_rest.l1 (k + 1) y0 y1 y2 y3 y4 y5 y6)) ∧ (∀ y0 y1 y2 y3 y4 y5 y6 y7 y8 y9, LeO (assign_rest.j2 k y0 y1 y2 y3 y4 y5 y6 y7 y8 y9) (assign_rest.j2 (k + 1) y0 y1 y2 y3 y4 y5 y6 y7 y8 y9))
 | 0 => ⟨fun _ _ _ r h => by simp [assign_rest.l0] at h, fun _ _ _ _ _ _ _ r h => by simp [assign_rest.l1] at h, fun _ _ _ _ _ _ _ _ _ _ r h => by simp [assign_rest.j2] at h⟩
 | k + 1 => by
  obtain ⟨ih0, ih1, ih2⟩ := assign_rest.mono_l k
  refine ⟨?_, ?_, ?_⟩
  ·intro y0 y1 y2
   unfold assign_rest.l0
   repeat' first
   | (with_reducible exact ih0 _ _ _)
   | (with_reducible exact ih1 _ _ _ _ _ _ _)
   | (with_reducible exact ih2 _ _ _ _ _ _ _ _ _ _)
   | (with_reducible exact LeO.refl _)
   | (with_reducible exact LeO.none _)
   | (with_reducible refine LeO.ite ?_ ?_)
   | (with_reducible refine LeO.bind ?_ (fun _ => ?_))
   | exact ih0 _ _ _
   | exact ih1 _ _ _ _ _ _ _
   | exact ih2 _ _ _ _ _ _ _ _ _ _
   | exact LeO.none _
   | refine LeO.ite ?_ ?_
   | refine LeO.bind ?_ (fun _ => ?_)
  ·intro y0 y1 y2 y3 y4 y5 y6
   unfold assign_rest.l1
   repeat' first
   | (with_reducible exact ih0 _ _ _)
   | (with_reducible exact ih1 _ _ _ _ _ _ _)
   | (with_reducible exact ih2 _ _ _ _ _ _ _ _ _ _)
   | (with_reducible exact LeO.refl _)
   | (with_reducible exact LeO.none _)
   | (with_reducible refine LeO.ite ?_ ?_)
   | (with_reducible refine LeO.bind ?_ (fun _ => ?_))
   | exact ih0 _ _ _
   | exact ih1 _ _ _ _ _ _ _
   | exact ih2 _ _ _ _ _ _ _ _ _ _
   | exact LeO.none _
   | refine LeO.ite ?_ ?_
   | refine LeO.bind ?_ (fun _ => ?_)
  ·intro y0 y1 y2 y3 y4 y5 y6 y7 y8 y9
   unfold assign_rest.j2
   repeat' first
   | (with_reducible exact ih0 _ _ _)
   | (with_reducible exact ih1 _ _ _ _ _ _ _)
   | (with_reducible exact ih2 _ _ _ _ _ _ _ _ _ _)
   | (with_reducible exact LeO.refl _)
   | (with_reducible exact LeO.none _)
   | (with_reducible refine LeO.ite ?_ ?_)
   | (with_reducible refine LeO.bind ?_ (fun _ => ?_))
   | exact ih0 _ _ _
   | exact ih1 _ _ _ _ _ _ _
   | exact ih2 _ _ _ _ _ _ _ _ _ _
   | exact LeO.none _
   | refine LeO.ite ?_ ?_
   | refine LeO.bind ?_ (fun _ => ?_)
theorem assign_rest.mono : ∀ a0 k, LeO (assign_rest.f k a0) (assign_rest.f (k + 1) a0) := by
 intro a0 k
 obtain ⟨ih0, ih1, ih2⟩ := assign_rest.mono_l k
 unfold assign_rest.f
 repeat' first
   | (with_reducible exact ih0 _ _ _)
   | (with_reducible exact ih1 _ _ _ _ _ _ _)
   | (with_reducible exact ih2 _ _ _ _ _ _ _ _ _ _)
   | (with_reducible exact LeO.refl _)
   | (with_reducible exact LeO.none _)
   | (with_reducible refine LeO.ite ?_ ?_)
   | (with_reducible refine LeO.bind ?_ (fun _ => ?_))
   | exact ih0 _ _ _
   | exact ih1 _ _ _ _ _ _ _
   | exact ih2 _ _ _ _ _ _ _ _ _ _
   | exact LeO.none _
   | refine LeO.ite ?_ ?_
   | refine LeO.bind ?_ (fun _ => ?_)
set_option maxHeartbeats 8000000 in
set_option maxRecDepth 100000 in
theorem assign_rest.calls (k : Nat) (A0 : Option Addr) (c0 : Nat) (l0 : List (List Int)) (r : List Int) (w : World) (hr0 : Kd.C (Kd.slice 3 (Kd.int .i64)) w A0 l0.length l0) (hc0 : l0.length ≤ c0) (h : assign_rest.f k l0 = some r) :
  Calls Try.prog 38 #[.slice A0 l0.length c0] w fun e w' => ∃ v0_ : Value, e = .returned (v0_) ∧ Kd.R (Kd.int .i64) 3 w' w.heap.size (fun _ => True) v0_ r ∧ Below w.heap.size w w' := by
 have HR0 := Aside0.mk hr0
 have HC0 := Aside0.mk hc0
 clear hr0 hc0
 have HB := Aside0.mk (Below.refl w.heap.size w)
 have H : (if (l0.length : Int) = 0 then (some (([0] : List Int))) else (if 0 < (l0.length : Int) then (if 0 ≤ (shl .i64 1 ((rd_L4 l0 0).length : Int)) then (if (shl .i64 1 ((rd_L4 l0 0).length : Int) : Int).toNat ≤ 35184372088832 then ((some (List.replicate (shl .i64 1 ((rd_L4 l0 0).length : Int) : Int).toNat 0 : List Int)).bind fun y121 => (assign_rest.l0 k l0 y121 (wrap64 ((y121.length : Int) - 1)))) else (none)) else (none)) else (none))) = some r := h
 clear h
 by_cases c2 : (l0.length : Int) = 0
 ·rw [if_pos c2] at H
  have c2b0 : ((l0.length : Int) == 0) = true := beq_iff_eq.mpr c2
  have c2b1 : ((l0.length : Int) != 0) = false := bne_eq_false_iff_eq.mpr c2
  clear c2
  obtain ⟨y117, hy117⟩ : ∃ y_ : List Int, y_ = (([0] : List Int)) := ⟨_, rfl⟩
  replace H : (some y117) = some r := by first | (rw [hy117]; with_reducible exact H) | (have H2_ := (Option.bind_some _ _).symm.trans H; rw [hy117]; with_reducible exact H2_) | (have H2_ := (Option.bind_some _ _).symm.trans H; with_reducible exact H2_) | with_reducible exact H | (rw [hy117]; exact H) | exact H
  have Ny117 := Aside0.mk hy117
  clear hy117
  obtain rfl := Option.some.inj H
  go_enter Try.func38, Try.ntmps38
  go_wp2_with (first | ((with_reducible refine gate_dst (N := 12) rfl ?_); refine Kd.R_lit (Kd.int .i64) _ 3 ?hg (N := 12) ?hd (xs := ([0] : List Int)) (inner := [.int .i64 0]) (ok := fun _ => True) (okp := fun _ => True) ?hr ?hp (fun _ hk => hk) trivial (Below.refl _ _) (Nat.le_refl _) (by simp) ?_; (case hd => rfl); (case hg => rfl); (case hr => first | (go_simp; done) | (go_simp; rfl)); (case hp => exact (Reps.one (show Kd.M (Kd.int .i64) _ _ _ 0 [.int .i64 0] from rfl) (Reps.none _ _))); intro v118 w3 ho4 hb hg_ hnew_; clear hg_ hnew_; (first | rw [← Ny117.out] at ho4 | (simp only [Int.reduceToNat] at ho4; rw [← Ny117.out] at ho4)); have n0_ := Aside0.mk (Kd.R_lower ho4 (below_size (by repeat (first | (with_reducible first | exact HB.out | apply below_alloc | apply pw_below_drewN | apply below_drew1) | exact HB.out)))); have n1_ := Aside0.mk (below_step (by repeat (first | (with_reducible first | exact HB.out | apply below_alloc | apply pw_below_drewN | apply below_drew1) | exact HB.out)) hb); clear HB; have HO119 := n0_; have HB := n1_; clear n0_ n1_; clear hb ho4))
  go_ret
  exact ⟨_, by first | rfl | (simp [errW_none, errW_some] <;> rfl) | (simp [*, errW_none, errW_some] <;> rfl), by (with_reducible repeat (first | apply Kd.R_alloc | apply Kd.R_drewN | apply Kd.R_drew)); exact HO119.out, by repeat (first | (with_reducible first | exact HB.out | apply below_alloc | apply pw_below_drewN | apply below_drew1) | exact HB.out)⟩
 ·rw [if_neg c2] at H
  have c2b0 : ((l0.length : Int) == 0) = false := beq_eq_false_iff_ne.mpr c2
  have c2b1 : ((l0.length : Int) != 0) = true := bne_iff_ne.mpr c2
  have c2b2 : ¬ (l0 = []) := fun h_ => c2 (by rw [h_]; rfl)
  by_cases c5 : 0 < (l0.length : Int)
  ·rw [if_pos c5] at H
   have c5b0 : decide (0 < (l0.length : Int)) = true := decide_eq_true c5
   have c5b1 : decide (0 < l0.length) = true := decide_eq_true (by omega)
   clear c5
   obtain ⟨ji6, hji6⟩ : ∃ j_ : Int, (shl .i64 1 ((rd_L4 l0 0).length : Int)) = j_ := ⟨_, rfl⟩
   replace H : (if 0 ≤ (ji6) then (if (ji6 : Int).toNat ≤ 35184372088832 then ((some (List.replicate (ji6 : Int).toNat 0 : List Int)).bind fun y121 => (assign_rest.l0 k l0 y121 (wrap64 ((y121.length : Int) - 1)))) else (none)) else (none)) = some r := by first | (rw [hji6] at H; exact H) | (simp only [hji6] at H ⊢; exact H)
   have hji6_ : (IntKind.i64.wrap (1 * 2 ^ min ((rd_L4 l0 0).length : Int).toNat 64)) = ji6 := hji6
   have hji6z : ((rd_L4 l0 0).length : Int) ≤ 64 → (IntKind.i64.wrap (1 * 2 ^ ((rd_L4 l0 0).length : Int).toNat)) = ji6 := shl_small hji6
   have hji6p : (IntKind.i64.wrap (1 * 2 ^ min (rd_L4 l0 0).length 64)) = ji6 := hji6_
   have hji6q : ((rd_L4 l0 0).length : Int) ≤ 64 → (IntKind.i64.wrap (1 * 2 ^ (rd_L4 l0 0).length)) = ji6 := hji6z
   have hji6r : (IntKind.i64.wrap (2 ^ min (rd_L4 l0 0).length 64)) = ji6 := by have h_ := hji6p; rw [Int.one_mul] at h_; exact h_
   have hji6s : ((rd_L4 l0 0).length : Int) ≤ 64 → (IntKind.i64.wrap (2 ^ (rd_L4 l0 0).length)) = ji6 := fun hle_ => by have h_ := hji6q hle_; rw [Int.one_mul] at h_; exact h_
   have hji6u : (IntKind.i64.wrap (2 ^ min ((rd_L4 l0 0).length : Int).toNat 64)) = ji6 := by have h_ := hji6_; rw [Int.one_mul] at h_; exact h_
   have hji6v : ((rd_L4 l0 0).length : Int) ≤ 64 → (IntKind.i64.wrap (2 ^ ((rd_L4 l0 0).length : Int).toNat)) = ji6 := fun hle_ => by have h_ := hji6z hle_; rw [Int.one_mul] at h_; exact h_
   have hji6y : (wrap64 (1 * 2 ^ min ((rd_L4 l0 0).length : Int).toNat 64)) = ji6 := (i64_w _).symm.trans hji6_
   have hji6x : ((rd_L4 l0 0).length : Int) ≤ 64 → (wrap64 (1 * 2 ^ ((rd_L4 l0 0).length : Int).toNat)) = ji6 := fun h_ => (i64_w _).symm.trans (hji6z h_)
   by_cases c7 : 0 ≤ (ji6)
   ·rw [if_pos c7] at H
    have c7b0 := eq_true c7
    have c7b1 : decide (0 ≤ (ji6)) = true := decide_eq_true c7
    clear c7
    by_cases c8 : (ji6 : Int).toNat ≤ 35184372088832
    ·rw [if_pos c8] at H
     have c8b0 := eq_true c8
     have c8b1 : decide ((ji6 : Int).toNat ≤ 35184372088832) = true := decide_eq_true c8
     clear c8
     obtain ⟨y121, hy121⟩ : ∃ y_ : List Int, y_ = (List.replicate (ji6 : Int).toNat 0) := ⟨_, rfl⟩
     replace H : (assign_rest.l0 k l0 y121 (wrap64 ((y121.length : Int) - 1))) = some r := by first | (rw [hy121]; with_reducible exact H) | (have H2_ := (Option.bind_some _ _).symm.trans H; rw [hy121]; with_reducible exact H2_) | (have H2_ := (Option.bind_some _ _).symm.trans H; with_reducible exact H2_) | with_reducible exact H | (rw [hy121]; exact H) | exact H
     have Ny121 := Aside0.mk hy121
     clear hy121
     have H' := Aside0.mk H
     clear H
     have p120 : 0 ≤ (0 : Int) := (by omega)
     have q120 : 0 < (l0.length : Int) := of_decide_eq_true (by first | (with_reducible assumption) | assumption)
     obtain ⟨ad120, A120_0, c120_0, e120, hx120_0, hl120_0, hi120_0⟩ := at_L4 HR0.out 0 p120 q120
     cases e120
     have qi120 : (0 < l0.length) = True := eq_true (by omega)
     (try rw [show ((0 : Int)).toNat = 0 from rfl] at hx120_0)
     (try rw [Addr.add_zero'] at hx120_0)
     have HR120_0 := Aside0.mk hi120_0
     have HC120_0 := Aside0.mk hl120_0
     clear hi120_0 hl120_0
     replace p120 := eq_true p120
     replace q120 := eq_true q120
     go_enter Try.func38, Try.ntmps38
     go_wp2_with (first | ((with_reducible refine gate_dst (N := 18) rfl ?_); refine Kd.R_make (Kd.int .i64) _ 3 rfl (N := 18) rfl 32 _ _ rfl ji6 rfl rfl Try.underlying32 (.int .i64 0) 8 info3 rfl (by decide) (by omega) 0 (ok := fun _ => True) (okp := fun _ => True) rfl (fun _ hk => hk) trivial (of_decide_eq_true (by first | (with_reducible assumption) | assumption)) (Nat.le_trans (Nat.mul_le_mul_right _ (of_decide_eq_true (by first | (with_reducible assumption) | assumption) : ji6.toNat ≤ 35184372088832)) (by omega)) (Below.refl _ _) (Nat.le_refl _) ?_; intro v122 w9 ho10 hb hg_ hnew_; clear hg_ hnew_; (first | rw [← Ny121.out] at ho10 | (simp only [Int.reduceToNat] at ho10; rw [← Ny121.out] at ho10)); have n0_ := Aside0.mk (Kd.R_lower ho10 (below_size (by repeat (first | (with_reducible first | exact HB.out | apply below_alloc | apply pw_below_drewN | apply below_drew1) | exact HB.out)))); have n1_ := Aside0.mk (below_step (by repeat (first | (with_reducible first | exact HB.out | apply below_alloc | apply pw_below_drewN | apply below_drew1) | exact HB.out)) hb); clear HB; have HO123 := n0_; have HB := n1_; clear n0_ n1_; clear hb ho10; obtain ⟨Ao11, co11, eo11⟩ := Kd.R_slice HO123.out; subst eo11))
     go_loopg [4] k (fun kq v4 w' => ∃ (x3_1 : List Int) (x4_1 : Int), v4 = .int .i64 x4_1 ∧ Aside0 (assign_rest.l0 kq l0 x3_1 x4_1 = some r) ∧ Aside0 (kq ≤ k) ∧ Aside0 (Kd.R (Kd.int .i64) 3 w' w.heap.size (fun _ => True) (.slice Ao11 y121.length co11) x3_1) ∧ Aside0 (Below w.heap.size w w'))
     case atStart => exact ⟨(y121), (wrap64 ((y121.length : Int) - 1)), (by first | rfl | (simp; done) | (simp [*]; done)), H', ⟨Nat.le_refl _⟩, ⟨by (with_reducible repeat (first | apply Kd.R_alloc | apply Kd.R_drewN | apply Kd.R_drew)); exact HO123.out⟩, ⟨by repeat (first | (with_reducible first | exact HB.out | apply below_alloc | apply pw_below_drewN | apply below_drew1) | exact HB.out)⟩⟩
     case round =>
      clear H'
      try clear c1
      try clear p1
      try clear q1
      try clear hx1
      try clear qi1
      try clear c2
      try clear c2b0
      try clear c2b1
      try clear c2b2
      try clear p2
      try clear c3
      try clear c5
      try clear c5b0
      try clear c5b1
      try clear p6
      try clear c7
      try clear c7b0
      try clear c7b1
      try clear c8
      try clear c8b0
      try clear c8b1
      try clear hx120_0
      try clear p120
      try clear q120
      obtain ⟨x3_1, x4_1, rfl, HA, HK1, HO_3, HB⟩ := hrel
      have hl3_1 := (Kd.R_reads' HO_3.out).1
      rw [hl3_1] at HO_3
      (try simp only [hl3_1])
      cases gk with
      | zero => exact absurd HA.out (by simp [assign_rest.l0])
      | succ k1 =>
       have H := HA.out
       clear HA
       simp only [assign_rest.l0] at H
       by_cases c12 : x4_1 ≥ 0
       ·rw [if_pos c12] at H
        have c12b0 : decide (0 ≤ x4_1) = true := decide_eq_true c12
        clear c12
        replace H := Option.bind_eq_some_iff.mp H
        obtain ⟨t124, A130, H⟩ := H
        replace H : (if t124 ≥ (l0.length : Int) then (assign_rest.l0 k1 l0 x3_1 (wrap64 (x4_1 - 1))) else (if 0 ≤ t124 then (if t124 < (l0.length : Int) then (assign_rest.l1 k1 l0 x3_1 x4_1 (-1) (rd_L4 l0 t124) ((rd_L4 l0 t124).length : Int) 0) else (none)) else (none))) = some r := H
        have A13 := Aside0.mk A130
        clear A130
        by_cases c14 : t124 ≥ (l0.length : Int)
        ·rw [if_pos c14] at H
         have c14b0 : decide ((l0.length : Int) ≤ t124) = true := decide_eq_true c14
         clear c14
         have H' := Aside0.mk H
         clear H
         go_wp2_with (first | ((with_reducible refine gate_callee (f := 51) rfl ?_); refine goesL_ (some 28) rfl rfl Try.func51 (by kernel_rfl) rfl #[.int .u64 (IntKind.u64.wrap (x4_1))] rfl (by (try simp only [List.map_toArray, List.map_cons, List.map_nil]); first | done | rfl | (simp only [List.length_drop, List.length_take]; rfl)) ?_; (with_reducible refine (bits_OnesCount.calls (IntKind.u64.wrap (x4_1)) t124 _ A13.out).mono ?_); rintro e w' ⟨rfl, ⟨nd, rfl⟩⟩; refine ⟨_, rfl, ?_⟩))
         (try simp only [← hl3_1])
         go_roundg k1
         case measure => have := HK1.out; omega
         case rel => exact ⟨(x3_1), (wrap64 (x4_1 - 1)), (by first | rfl | (simp; done) | (simp [*]; done)), H', ⟨by have := HK1.out; omega⟩, ⟨by (try simp only [hl3_1]); (with_reducible repeat (first | apply Kd.R_alloc | apply Kd.R_drewN | apply Kd.R_drew)); exact HO_3.out⟩, ⟨by repeat (first | (with_reducible first | exact HB.out | apply below_alloc | apply pw_below_drewN | apply below_drew1) | exact HB.out)⟩⟩
        ·rw [if_neg c14] at H
         have c14b0 : decide ((l0.length : Int) ≤ t124) = false := decide_eq_false c14
         clear c14
         by_cases c15 : 0 ≤ t124
         ·rw [if_pos c15] at H
          have c15b0 : decide (0 ≤ t124) = true := decide_eq_true c15
          clear c15
          by_cases c16 : t124 < (l0.length : Int)
          ·rw [if_pos c16] at H
           have c16b0 : decide (t124 < (l0.length : Int)) = true := decide_eq_true c16
           clear c16
           have H' := Aside0.mk H
           clear H
           go_wp2_with (first | ((with_reducible refine gate_callee (f := 51) rfl ?_); refine goesL_ (some 28) rfl rfl Try.func51 (by kernel_rfl) rfl #[.int .u64 (IntKind.u64.wrap (x4_1))] rfl (by (try simp only [List.map_toArray, List.map_cons, List.map_nil]); first | done | rfl | (simp only [List.length_drop, List.length_take]; rfl)) ?_; (with_reducible refine (bits_OnesCount.calls (IntKind.u64.wrap (x4_1)) t124 _ A13.out).mono ?_); rintro e w' ⟨rfl, ⟨nd, rfl⟩⟩; refine ⟨_, rfl, ?_⟩; have p125 : 0 ≤ (t124 : Int) := of_decide_eq_true (by first | (with_reducible assumption) | assumption); have q125 : t124 < (l0.length : Int) := of_decide_eq_true (by first | (with_reducible assumption) | assumption); obtain ⟨ad125, A125_0, c125_0, e125, hx125_0, hl125_0, hi125_0⟩ := at_L4 HR0.out t124 p125 q125; obtain rfl : ad120 = ad125 := (by injection e125); replace hx125_0 := (HB.out.cell (World.block_lt_of_cell? w _ hx125_0)).trans hx125_0; have HR125_0 := Aside0.mk hi125_0; have HC125_0 := Aside0.mk hl125_0; clear hi125_0 hl125_0; replace p125 := eq_true p125; replace q125 := eq_true q125))
           go_loopg [6, 38] k1 (fun kq v6 v38 w' => ∃ (x6_2 : Int) (x38_2 : Int), v6 = .int .i64 x6_2 ∧ v38 = .int .i64 x38_2 ∧ Aside0 (assign_rest.l1 kq l0 x3_1 x4_1 x6_2 (rd_L4 l0 t124) ((rd_L4 l0 t124).length : Int) x38_2 = some r) ∧ Aside0 (kq ≤ k1) ∧ Aside0 (Kd.R (Kd.int .i64) 3 w' w.heap.size (fun _ => True) (.slice Ao11 x3_1.length co11) x3_1) ∧ Aside0 (Below w.heap.size w w'))
           case atStart => exact ⟨((-1)), (0), (by first | rfl | (simp; done) | (simp [*]; done)), (by first | rfl | (simp; done) | (simp [*]; done)), H', ⟨Nat.le_refl _⟩, ⟨by (try simp only [hl3_1]); (with_reducible repeat (first | apply Kd.R_alloc | apply Kd.R_drewN | apply Kd.R_drew)); exact HO_3.out⟩, ⟨by repeat (first | (with_reducible first | exact HB.out | apply below_alloc | apply pw_below_drewN | apply below_drew1) | exact HB.out)⟩⟩
           case round =>
            clear H'
            try clear c1
            try clear p1
            try clear q1
            try clear hx1
            try clear qi1
            try clear c2
            try clear c2b0
            try clear c2b1
            try clear c2b2
            try clear p2
            try clear c3
            try clear c5
            try clear c5b0
            try clear c5b1
            try clear p6
            try clear c7
            try clear c7b0
            try clear c7b1
            try clear c8
            try clear c8b0
            try clear c8b1
            try clear c12
            try clear c12b0
            try clear p12
            try clear q12
            try clear hx12
            try clear qi12
            try clear c14
            try clear c14b0
            try clear c15
            try clear c15b0
            try clear c16
            try clear c16b0
            try clear hx120_0
            try clear hx125_0
            try clear p1
            try clear p120
            try clear p125
            try clear p2
            try clear p6
            try clear q1
            try clear q120
            try clear q125
            obtain ⟨x6_2, x38_2, rfl, rfl, HA, HK2, HO_3, HB⟩ := hrel
            cases gk with
            | zero => exact absurd HA.out (by simp [assign_rest.l1])
            | succ k2 =>
             have H := HA.out
             clear HA
             simp only [assign_rest.l1] at H
             by_cases c17 : x38_2 < ((rd_L4 l0 t124).length : Int)
             ·rw [if_pos c17] at H
              have c17b0 : decide (x38_2 < ((rd_L4 l0 t124).length : Int)) = true := decide_eq_true c17
              clear c17
              by_cases c18 : 0 ≤ x38_2
              ·rw [if_pos c18] at H
               have c18b0 : decide (0 ≤ x38_2) = true := decide_eq_true c18
               clear c18
               by_cases c19 : x38_2 < ((rd_L4 l0 t124).length : Int)
               ·rw [if_pos c19] at H
                have c19b0 : decide (x38_2 < ((rd_L4 l0 t124).length : Int)) = true := decide_eq_true c19
                clear c19
                have HC20 := Aside0.mk H
                clear H
                have p127 : 0 ≤ (x38_2 : Int) := of_decide_eq_true (by first | (with_reducible assumption) | assumption)
                have q127 : x38_2 < ((rd_L4 l0 t124).length : Int) := of_decide_eq_true (by first | (with_reducible assumption) | assumption)
                obtain ⟨ad127, e127, hx127_0⟩ := Kd.at_int HR125_0.out x38_2 p127 q127
                cases e127
                replace hx127_0 := (HB.out.cell (World.block_lt_of_cell? w _ hx127_0)).trans hx127_0
                replace p127 := eq_true p127
                replace q127 := eq_true q127
                go_upto_region 13 with (fail)
                go_cut [64] (fun v64 wc => ∃ (kq : Nat) (x64_19 : Bool), v64 = .bool x64_19 ∧ Aside0 (assign_rest.j2 kq l0 x3_1 x4_1 x6_2 x38_2 (rd (rd_L4 l0 t124) x38_2) (rd_L4 l0 t124) ((rd_L4 l0 t124).length : Int) x38_2 x64_19 = some r) ∧ Aside0 (kq ≤ k2) ∧ Aside0 (Kd.R (Kd.int .i64) 3 wc w.heap.size (fun _ => True) (.slice Ao11 x3_1.length co11) x3_1) ∧ Aside0 (Below w.heap.size w wc))
                case first =>
                 have H := HC20.out
                 clear HC20
                 have c21b0 := eq_true (of_decide_eq_true (by first | (with_reducible assumption) | assumption) : 0 ≤ x38_2)
                 obtain ⟨ji22, hji22⟩ : ∃ j_ : Int, (shr .i64 x4_1 x38_2) = j_ := ⟨_, rfl⟩
                 replace H : (if (Go.bits .and .i64 (ji22) 1) = 0 then (if x6_2 < 0 then (assign_rest.j2 k2 l0 x3_1 x4_1 x6_2 x38_2 (rd (rd_L4 l0 t124) x38_2) (rd_L4 l0 t124) ((rd_L4 l0 t124).length : Int) x38_2 true) else (if 0 ≤ (Go.bits .or .i64 x4_1 (shl .i64 1 x38_2)) then (if (Go.bits .or .i64 x4_1 (shl .i64 1 x38_2)) < (x3_1.length : Int) then (assign_rest.j2 k2 l0 x3_1 x4_1 x6_2 x38_2 (rd (rd_L4 l0 t124) x38_2) (rd_L4 l0 t124) ((rd_L4 l0 t124).length : Int) x38_2 (decide ((wrap64 ((rd (rd_L4 l0 t124) x38_2) + (rd x3_1 (Go.bits .or .i64 x4_1 (shl .i64 1 x38_2))))) < x6_2))) else (none)) else (none))) else (assign_rest.j2 k2 l0 x3_1 x4_1 x6_2 x38_2 (rd (rd_L4 l0 t124) x38_2) (rd_L4 l0 t124) ((rd_L4 l0 t124).length : Int) x38_2 false)) = some r := by first | (rw [hji22] at H; exact H) | (simp only [hji22] at H ⊢; exact H)
                 have hji22_ : (x4_1 / 2 ^ min x38_2.toNat 64) = ji22 := hji22
                 have hji22z : x38_2 ≤ 64 → (x4_1 / 2 ^ x38_2.toNat) = ji22 := shr_small hji22
                 by_cases c23 : (Go.bits .and .i64 (ji22) 1) = 0
                 ·rw [if_pos c23] at H
                  have c23b0 : ((Go.bits .and .i64 (ji22) 1) == 0) = true := beq_iff_eq.mpr c23
                  have c23b1 : ((Go.bits .and .i64 (ji22) 1) != 0) = false := bne_eq_false_iff_eq.mpr c23
                  clear c23
                  (first | rw [c23b0] | (simp only [i64_w, i32_w]; rw [c23b0]) | skip)
                  by_cases c24 : x6_2 < 0
                  ·rw [if_pos c24] at H
                   have c24b0 : decide (x6_2 < 0) = true := decide_eq_true c24
                   clear c24
                   have H' := Aside0.mk H
                   clear H
                   go_wp2
                   go_meet
                   case rel => exact ⟨_, (true), (by first | rfl | (simp; done) | (simp [*]; done)), H', ⟨by have := HK1.out; have := HK2.out; first | omega | exact Nat.le_refl _⟩, ⟨by (try simp only [hl3_1]); (with_reducible repeat (first | apply Kd.R_alloc | apply Kd.R_drewN | apply Kd.R_drew)); exact HO_3.out⟩, ⟨by repeat (first | (with_reducible first | exact HB.out | apply below_alloc | apply pw_below_drewN | apply below_drew1) | exact HB.out)⟩⟩
                  ·rw [if_neg c24] at H
                   have c24b0 : decide (x6_2 < 0) = false := decide_eq_false c24
                   clear c24
                   have c25b0 := eq_true (of_decide_eq_true (by first | (with_reducible assumption) | assumption) : 0 ≤ x38_2)
                   obtain ⟨ji26, hji26⟩ : ∃ j_ : Int, (shl .i64 1 x38_2) = j_ := ⟨_, rfl⟩
                   replace H : (if 0 ≤ (Go.bits .or .i64 x4_1 (ji26)) then (if (Go.bits .or .i64 x4_1 (ji26)) < (x3_1.length : Int) then (assign_rest.j2 k2 l0 x3_1 x4_1 x6_2 x38_2 (rd (rd_L4 l0 t124) x38_2) (rd_L4 l0 t124) ((rd_L4 l0 t124).length : Int) x38_2 (decide ((wrap64 ((rd (rd_L4 l0 t124) x38_2) + (rd x3_1 (Go.bits .or .i64 x4_1 (ji26))))) < x6_2))) else (none)) else (none)) = some r := by first | (rw [hji26] at H; exact H) | (simp only [hji26] at H ⊢; exact H)
                   have hji26_ : (IntKind.i64.wrap (1 * 2 ^ min x38_2.toNat 64)) = ji26 := hji26
                   have hji26z : x38_2 ≤ 64 → (IntKind.i64.wrap (1 * 2 ^ x38_2.toNat)) = ji26 := shl_small hji26
                   have hji26u : (IntKind.i64.wrap (2 ^ min x38_2.toNat 64)) = ji26 := by have h_ := hji26_; rw [Int.one_mul] at h_; exact h_
                   have hji26v : x38_2 ≤ 64 → (IntKind.i64.wrap (2 ^ x38_2.toNat)) = ji26 := fun hle_ => by have h_ := hji26z hle_; rw [Int.one_mul] at h_; exact h_
                   have hji26y : (wrap64 (1 * 2 ^ min x38_2.toNat 64)) = ji26 := (i64_w _).symm.trans hji26_
                   have hji26x : x38_2 ≤ 64 → (wrap64 (1 * 2 ^ x38_2.toNat)) = ji26 := fun h_ => (i64_w _).symm.trans (hji26z h_)
                   by_cases c27 : 0 ≤ (Go.bits .or .i64 x4_1 (ji26))
                   ·rw [if_pos c27] at H
                    have c27b0 : decide (0 ≤ (Go.bits .or .i64 x4_1 (ji26))) = true := decide_eq_true c27
                    clear c27
                    by_cases c28 : (Go.bits .or .i64 x4_1 (ji26)) < (x3_1.length : Int)
                    ·rw [if_pos c28] at H
                     have c28b0 : decide ((Go.bits .or .i64 x4_1 (ji26)) < (x3_1.length : Int)) = true := decide_eq_true c28
                     clear c28
                     have H' := Aside0.mk H
                     clear H
                     have p128 : 0 ≤ ((Go.bits .or .i64 x4_1 (ji26)) : Int) := of_decide_eq_true (by first | (with_reducible assumption) | assumption)
                     have q128 : (Go.bits .or .i64 x4_1 (ji26)) < (x3_1.length : Int) := of_decide_eq_true (by first | (with_reducible assumption) | assumption)
                     obtain ⟨ad128, e128, hx128_0⟩ := Kd.at_int (Kd.R_reads' HO_3.out).2.2 (Go.bits .or .i64 x4_1 (ji26)) p128 q128
                     cases e128
                     replace p128 := eq_true p128
                     replace q128 := eq_true q128
                     go_wp2
                     go_meet
                     case rel => exact ⟨_, (decide ((wrap64 ((rd (rd_L4 l0 t124) x38_2) + (rd x3_1 (Go.bits .or .i64 x4_1 (ji26))))) < x6_2)), (by first | rfl | (simp; done) | (simp only [← hji26] <;> (first | rfl | simp)) | (simp [*]; done)), H', ⟨by have := HK1.out; have := HK2.out; first | omega | exact Nat.le_refl _⟩, ⟨by (try simp only [hl3_1]); (with_reducible repeat (first | apply Kd.R_alloc | apply Kd.R_drewN | apply Kd.R_drew)); exact HO_3.out⟩, ⟨by repeat (first | (with_reducible first | exact HB.out | apply below_alloc | apply pw_below_drewN | apply below_drew1) | exact HB.out)⟩⟩
                    ·rw [if_neg c28] at H
                     exact absurd H (by simp)
                   ·rw [if_neg c27] at H
                    exact absurd H (by simp)
                 ·rw [if_neg c23] at H
                  have c23b0 : ((Go.bits .and .i64 (ji22) 1) == 0) = false := beq_eq_false_iff_ne.mpr c23
                  have c23b1 : ((Go.bits .and .i64 (ji22) 1) != 0) = true := bne_iff_ne.mpr c23
                  (first | rw [c23b0] | (simp only [i64_w, i32_w]; rw [c23b0]) | skip)
                  have H' := Aside0.mk H
                  clear H
                  go_wp2
                  go_meet
                  case rel => exact ⟨_, (false), (by first | rfl | (simp; done) | (simp [*]; done)), H', ⟨by have := HK1.out; have := HK2.out; first | omega | exact Nat.le_refl _⟩, ⟨by (try simp only [hl3_1]); (with_reducible repeat (first | apply Kd.R_alloc | apply Kd.R_drewN | apply Kd.R_drew)); exact HO_3.out⟩, ⟨by repeat (first | (with_reducible first | exact HB.out | apply below_alloc | apply pw_below_drewN | apply below_drew1) | exact HB.out)⟩⟩
                case rest =>
                 clear HC20
                 try clear c1
                 try clear p1
                 try clear q1
                 try clear hx1
                 try clear qi1
                 try clear c2
                 try clear c2b0
                 try clear c2b1
                 try clear c2b2
                 try clear p2
                 try clear c3
                 try clear c5
                 try clear c5b0
                 try clear c5b1
                 try clear p6
                 try clear c7
                 try clear c7b0
                 try clear c7b1
                 try clear c8
                 try clear c8b0
                 try clear c8b1
                 try clear c12
                 try clear c12b0
                 try clear p12
                 try clear q12
                 try clear hx12
                 try clear qi12
                 try clear c14
                 try clear c14b0
                 try clear c15
                 try clear c15b0
                 try clear c16
                 try clear c16b0
                 try clear c17
                 try clear c17b0
                 try clear c18
                 try clear c18b0
                 try clear c19
                 try clear c19b0
                 try clear c21
                 try clear c21b0
                 try clear c23
                 try clear c23b0
                 try clear c23b1
                 try clear c24
                 try clear c24b0
                 try clear c25
                 try clear c25b0
                 try clear c27
                 try clear c27b0
                 try clear c28
                 try clear c28b0
                 try clear hx120_0
                 try clear hx125_0
                 try clear hx127_0
                 try clear hx128_0
                 try clear p1
                 try clear p12
                 try clear p120
                 try clear p125
                 try clear p127
                 try clear p128
                 try clear p2
                 try clear p6
                 try clear q1
                 try clear q12
                 try clear q120
                 try clear q125
                 try clear q127
                 try clear q128
                 obtain ⟨kq, x64_19, rfl, HA, HJ19, HO_3, HB⟩ := hcut
                 cases kq with
                 | zero => exact absurd HA.out (by simp [assign_rest.j2])
                 | succ kj19 =>
                  have H := HA.out
                  clear HA
                  simp only [assign_rest.j2] at H
                  by_cases c29 : x64_19 = true
                  ·subst c29
                   have H1 : (if 0 ≤ x38_2 then (if 0 ≤ (Go.bits .or .i64 x4_1 (shl .i64 1 x38_2)) then (if (Go.bits .or .i64 x4_1 (shl .i64 1 x38_2)) < (x3_1.length : Int) then (assign_rest.l1 kj19 l0 x3_1 x4_1 (wrap64 ((rd (rd_L4 l0 t124) x38_2) + (rd x3_1 (Go.bits .or .i64 x4_1 (shl .i64 1 x38_2))))) (rd_L4 l0 t124) ((rd_L4 l0 t124).length : Int) (wrap64 (x38_2 + 1))) else (none)) else (none)) else (none)) = some r := by rw [if_pos rfl] at H; exact H
                   clear H
                   have H := H1
                   clear H1
                   by_cases c30 : 0 ≤ x38_2
                   ·rw [if_pos c30] at H
                    have c30b0 := eq_true c30
                    have c30b1 : decide (0 ≤ x38_2) = true := decide_eq_true c30
                    clear c30
                    obtain ⟨ji31, hji31⟩ : ∃ j_ : Int, (shl .i64 1 x38_2) = j_ := ⟨_, rfl⟩
                    replace H : (if 0 ≤ (Go.bits .or .i64 x4_1 (ji31)) then (if (Go.bits .or .i64 x4_1 (ji31)) < (x3_1.length : Int) then (assign_rest.l1 kj19 l0 x3_1 x4_1 (wrap64 ((rd (rd_L4 l0 t124) x38_2) + (rd x3_1 (Go.bits .or .i64 x4_1 (ji31))))) (rd_L4 l0 t124) ((rd_L4 l0 t124).length : Int) (wrap64 (x38_2 + 1))) else (none)) else (none)) = some r := by first | (rw [hji31] at H; exact H) | (simp only [hji31] at H ⊢; exact H)
                    have hji31_ : (IntKind.i64.wrap (1 * 2 ^ min x38_2.toNat 64)) = ji31 := hji31
                    have hji31z : x38_2 ≤ 64 → (IntKind.i64.wrap (1 * 2 ^ x38_2.toNat)) = ji31 := shl_small hji31
                    have hji31u : (IntKind.i64.wrap (2 ^ min x38_2.toNat 64)) = ji31 := by have h_ := hji31_; rw [Int.one_mul] at h_; exact h_
                    have hji31v : x38_2 ≤ 64 → (IntKind.i64.wrap (2 ^ x38_2.toNat)) = ji31 := fun hle_ => by have h_ := hji31z hle_; rw [Int.one_mul] at h_; exact h_
                    have hji31y : (wrap64 (1 * 2 ^ min x38_2.toNat 64)) = ji31 := (i64_w _).symm.trans hji31_
                    have hji31x : x38_2 ≤ 64 → (wrap64 (1 * 2 ^ x38_2.toNat)) = ji31 := fun h_ => (i64_w _).symm.trans (hji31z h_)
                    by_cases c32 : 0 ≤ (Go.bits .or .i64 x4_1 (ji31))
                    ·rw [if_pos c32] at H
                     have c32b0 : decide (0 ≤ (Go.bits .or .i64 x4_1 (ji31))) = true := decide_eq_true c32
                     clear c32
                     by_cases c33 : (Go.bits .or .i64 x4_1 (ji31)) < (x3_1.length : Int)
                     ·rw [if_pos c33] at H
                      have c33b0 : decide ((Go.bits .or .i64 x4_1 (ji31)) < (x3_1.length : Int)) = true := decide_eq_true c33
                      clear c33
                      have H' := Aside0.mk H
                      clear H
                      have p129 : 0 ≤ ((Go.bits .or .i64 x4_1 (ji31)) : Int) := of_decide_eq_true (by first | (with_reducible assumption) | assumption)
                      have q129 : (Go.bits .or .i64 x4_1 (ji31)) < (x3_1.length : Int) := of_decide_eq_true (by first | (with_reducible assumption) | assumption)
                      obtain ⟨ad129, e129, hx129_0⟩ := Kd.at_int (Kd.R_reads' HO_3.out).2.2 (Go.bits .or .i64 x4_1 (ji31)) p129 q129
                      cases e129
                      replace p129 := eq_true p129
                      replace q129 := eq_true q129
                      go_wp2
                      go_roundg kj19
                      case measure => have := HK1.out; have := HK2.out; have := HJ19.out; omega
                      case rel => exact ⟨(wrap64 ((rd (rd_L4 l0 t124) x38_2) + (rd x3_1 (Go.bits .or .i64 x4_1 (ji31))))), (wrap64 (x38_2 + 1)), (by first | rfl | (simp; done) | (simp only [← hji31] <;> (first | rfl | simp)) | (simp [*]; done)), (by first | rfl | (simp; done) | (simp [*]; done)), H', ⟨by have := HK1.out; have := HK2.out; have := HJ19.out; omega⟩, ⟨by (try simp only [hl3_1]); (with_reducible repeat (first | apply Kd.R_alloc | apply Kd.R_drewN | apply Kd.R_drew)); exact HO_3.out⟩, ⟨by repeat (first | (with_reducible first | exact HB.out | apply below_alloc | apply pw_below_drewN | apply below_drew1) | exact HB.out)⟩⟩
                     ·rw [if_neg c33] at H
                      exact absurd H (by simp)
                    ·rw [if_neg c32] at H
                     exact absurd H (by simp)
                   ·rw [if_neg c30] at H
                    exact absurd H (by simp)
                  ·replace c29 := Bool.eq_false_iff.mpr c29
                   subst c29
                   have H1 : (assign_rest.l1 kj19 l0 x3_1 x4_1 x6_2 (rd_L4 l0 t124) ((rd_L4 l0 t124).length : Int) (wrap64 (x38_2 + 1))) = some r := by rw [if_neg (show ¬ (false = true) by decide)] at H; exact H
                   clear H
                   have H := H1
                   clear H1
                   have H' := Aside0.mk H
                   clear H
                   go_wp2
                   go_roundg kj19
                   case measure => have := HK1.out; have := HK2.out; have := HJ19.out; omega
                   case rel => exact ⟨(x6_2), (wrap64 (x38_2 + 1)), (by first | rfl | (simp; done) | (simp [*]; done)), (by first | rfl | (simp; done) | (simp [*]; done)), H', ⟨by have := HK1.out; have := HK2.out; have := HJ19.out; omega⟩, ⟨by (try simp only [hl3_1]); (with_reducible repeat (first | apply Kd.R_alloc | apply Kd.R_drewN | apply Kd.R_drew)); exact HO_3.out⟩, ⟨by repeat (first | (with_reducible first | exact HB.out | apply below_alloc | apply pw_below_drewN | apply below_drew1) | exact HB.out)⟩⟩
               ·rw [if_neg c19] at H
                exact absurd H (by simp)
              ·rw [if_neg c18] at H
               exact absurd H (by simp)
             ·rw [if_neg c17] at H
              have c17b0 : decide (x38_2 < ((rd_L4 l0 t124).length : Int)) = false := decide_eq_false c17
              clear c17
              by_cases c34 : 0 ≤ x4_1
              ·rw [if_pos c34] at H
               have c34b0 : decide (0 ≤ x4_1) = true := decide_eq_true c34
               clear c34
               by_cases c35 : x4_1 < (x3_1.length : Int)
               ·rw [if_pos c35] at H
                have c35b0 : decide (x4_1 < (x3_1.length : Int)) = true := decide_eq_true c35
                clear c35
                obtain ⟨y126, hy126⟩ : ∃ y_ : List Int, y_ = (x3_1.set (x4_1 : Int).toNat x6_2) := ⟨_, rfl⟩
                replace H : (assign_rest.l0 k2 l0 y126 (wrap64 (x4_1 - 1))) = some r := by first | (rw [hy126]; with_reducible exact H) | (have H2_ := (Option.bind_some _ _).symm.trans H; rw [hy126]; with_reducible exact H2_) | (have H2_ := (Option.bind_some _ _).symm.trans H; with_reducible exact H2_) | with_reducible exact H | (rw [hy126]; exact H) | exact H
                have Ny126 := Aside0.mk hy126
                clear hy126
                have H' := Aside0.mk H
                clear H
                have p36 : 0 ≤ (x4_1 : Int) := of_decide_eq_true (by first | (with_reducible assumption) | assumption)
                have q36 : (x4_1 : Int) < ((x3_1.length : Int) : Int) := of_decide_eq_true (by first | (with_reducible assumption) | assumption)
                obtain ⟨go36, co36, eo36, gb36, gl36, cl36, HG36⟩ := Kd.R_form HO_3.out (by omega)
                (first | cases eo36 | (injection eo36 with ea_ en_ ec_; (first | subst ea_ | (injection ea_ with ea_; subst ea_)); subst ec_; clear en_))
                have GB36 := Aside0.mk gb36
                have GG36 := Aside0.mk HG36
                clear gb36 gl36 HG36
                obtain ⟨hx36_0, hf36_0⟩ := Kd.R_celln 0 HO_3.out (x4_1 : Int) p36 q36
                replace p36 := eq_true p36
                replace q36 := eq_true q36
                have HP37 := Kd.R_putg HO_3.out (x4_1 : Int) x6_2
                go_wp2_with (first | ((with_reducible refine gate_store (t := 3) (p := 78) rfl ?_); refine store_event (t := 3) (p := 78) (v := ?vo_w38) (w1 := (wr.setCell ⟨go36, (x4_1 : Int).toNat, none⟩ (.int .i64 x6_2))) ?hg ?ho ?hn ?hr ?_; (case ho => rfl); (case hg => rfl); (case hn => rfl); (case hr => first | (go_simp; done) | (go_simp; rfl)); intro w38 hw; have hg : wr.grownBy w38 (some go36) := (by rw [hw]; exact HP37.2); have hp_ : Kd.R (Kd.int .i64) 3 w38 w.heap.size (fun _ => True) (.slice (some ⟨go36, 0, none⟩) x3_1.length co11) y126 := (by rw [hw, Ny126.out]; exact HP37.1); clear HP37; have n0_ := Aside0.mk (hp_); have n1_ := Aside0.mk ((by rw [hw]; exact below_set (HB.out) GB36.out : Below w.heap.size w w38)); clear HO_3; clear HB; have HO_3 := n0_; have HB := n1_; clear n0_ n1_; clear hg hw hp_))
                (try simp only [← hl3_1])
                go_roundg k2
                case measure => have := HK1.out; have := HK2.out; omega
                case rel => exact ⟨(y126), (wrap64 (x4_1 - 1)), (by first | rfl | (simp; done) | (simp [*]; done)), H', ⟨by have := HK1.out; have := HK2.out; omega⟩, ⟨by (try simp only [hl3_1]); (with_reducible repeat (first | apply Kd.R_alloc | apply Kd.R_drewN | apply Kd.R_drew)); exact HO_3.out⟩, ⟨by repeat (first | (with_reducible first | exact HB.out | apply below_alloc | apply pw_below_drewN | apply below_drew1) | exact HB.out)⟩⟩
               ·rw [if_neg c35] at H
                exact absurd H (by simp)
              ·rw [if_neg c34] at H
               exact absurd H (by simp)
          ·rw [if_neg c16] at H
           exact absurd H (by simp)
         ·rw [if_neg c15] at H
          exact absurd H (by simp)
       ·rw [if_neg c12] at H
        have c12b0 : decide (0 ≤ x4_1) = false := decide_eq_false c12
        clear c12
        obtain rfl := Option.some.inj H
        go_wp2
        go_ret
        exact ⟨_, by first | rfl | (simp [errW_none, errW_some] <;> rfl) | (simp only [← hji6]; first | rfl | (simp [errW_none, errW_some] <;> rfl)) | (simp [*, errW_none, errW_some] <;> rfl), by (with_reducible repeat (first | apply Kd.R_alloc | apply Kd.R_drewN | apply Kd.R_drew)); exact HO_3.out, by repeat (first | (with_reducible first | exact HB.out | apply below_alloc | apply pw_below_drewN | apply below_drew1) | exact HB.out)⟩
    ·rw [if_neg c8] at H
     exact absurd H (by simp)
   ·rw [if_neg c7] at H
    exact absurd H (by simp)
  ·rw [if_neg c5] at H
   exact absurd H (by simp)

end Go.Proofs.Yticfgecicmgpeaa.A
