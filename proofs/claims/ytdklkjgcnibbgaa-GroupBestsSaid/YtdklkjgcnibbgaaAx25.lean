-- PRINTED by print.py (a twelfth state) out of the translation. Not trusted: Lean checks it.
import Derived.Test.YtdklkjgcnibbgaaAx0
import Derived.Test.YtdklkjgcnibbgaaAx24
namespace Go.Proofs.Ytdklkjgcnibbgaa.A
open Go.RowKit Go.Proofs.YtdklkjgcnibbgaaW.PrintWords Go.Proofs.YtdklkjgcnibbgaaW.PrintLast Go.Proofs.YtdklkjgcnibbgaaW.PrintMore
attribute [local go_sem] max2_int min2_int max_two min_two max_three min_three max_four min_four   -- for this text's walks alone
set_option linter.unusedVariables false
set_option linter.unusedSimpArgs false

/-! ### skiarearef24_Cost: function 17 -/
mutual
def skiarearef24_Cost.l0 : Nat → List Int → List Int → List (S45) → List (S43) → Int → List Bool → Int → Int → Option (Int × Bool)
 | 0, _, _, _, _, _, _, _, _ => none
 | k + 1, x0, x1, x2, x3, x10, x11, x12, x13 => if x13 < (x3.length : Int) then (if 0 ≤ x13 then ((skiarearef24_one.f k x0 x1 x2 ((rd_T43 x3 x13).f0) ((rd_T43 x3 x13).f1)).bind fun bt238 => (if bt238.2 = true then (skiarearef24_Cost.l1 k x0 x1 x2 x3 (wrap64 (x10 + bt238.1)) x11 x12 x13 0) else (some (0, false)))) else (none)) else (if x12 = (x0.length : Int) then (some (x10, true)) else (some (0, false)))
def skiarearef24_Cost.l1 : Nat → List Int → List Int → List (S45) → List (S43) → Int → List Bool → Int → Int → Int → Option (Int × Bool)
 | 0, _, _, _, _, _, _, _, _, _ => none
 | k + 1, x0, x1, x2, x3, x10, x11, x12, x13, x16 => if 0 ≤ x13 then (if x13 < (x3.length : Int) then (if x16 < (((rd_T43 x3 x13).f1).length : Int) then (if 0 ≤ x16 then (if 0 ≤ (rd ((rd_T43 x3 x13).f1) x16) then (if (rd ((rd_T43 x3 x13).f1) x16) < (x11.length : Int) then (if rdOf false x11 (rd ((rd_T43 x3 x13).f1) x16) = true then (some (0, false)) else (skiarearef24_Cost.l1 k x0 x1 x2 x3 x10 (x11.set ((rd ((rd_T43 x3 x13).f1) x16) : Int).toNat true) (wrap64 (x12 + 1)) x13 (wrap64 (x16 + 1)))) else (none)) else (none)) else (none)) else (skiarearef24_Cost.l0 k x0 x1 x2 x3 x10 x11 x12 (wrap64 (x13 + 1)))) else (none)) else (none)
end
def skiarearef24_Cost.f (k : Nat) (l0 : List Int) (l1 : List Int) (l2 : List (S45)) (l3 : List (S43)) : Option (Int × Bool) := if 0 ≤ (l0.length : Int) then (if ((l0.length : Int) : Int).toNat ≤ 281474976710656 then (skiarearef24_Cost.l0 k l0 l1 l2 l3 0 (List.replicate ((l0.length : Int) : Int).toNat false) 0 0) else (none)) else (none)
theorem skiarearef24_Cost.mono_l : ∀ k, (∀ y0 y1 y2 y3 y4 y5 y6 y7, LeO (skiarearef24_Cost.l0 k y0 y1 y2 y3 y4 y5 y6 y7) (skiarearef24_Cost.l0 (k + 1) y0 y1 y2 y3 y4 y5 y6 y7)) ∧ (∀ y0 y1 y2 y3 y4 y5 y6 y7 y8, LeO (skiarearef24_Cost.l1 k y0 y1 y2 y3 y4 y5 y6 y7 y8) (skiarearef24_Cost.l1 (k + 1) y0 y1 y2 y3 y4 y5 y6 y7 y8))
 | 0 => ⟨fun _ _ _ _ _ _ _ _ r h => by simp [skiarearef24_Cost.l0] at h, fun _ _ _ _ _ _ _ _ _ r h => by simp [skiarearef24_Cost.l1] at h⟩
 | k + 1 => by
  obtain ⟨ih0, ih1⟩ := skiarearef24_Cost.mono_l k
  refine ⟨?_, ?_⟩
  ·intro y0 y1 y2 y3 y4 y5 y6 y7
   unfold skiarearef24_Cost.l0
   repeat' first
   | (with_reducible exact ih0 _ _ _ _ _ _ _ _)
   | (with_reducible exact ih1 _ _ _ _ _ _ _ _ _)
   | (with_reducible exact skiarearef24_one.mono _ _ _ _ _ _)
   | (with_reducible exact LeO.refl _)
   | (with_reducible exact LeO.none _)
   | (with_reducible refine LeO.ite ?_ ?_)
   | (with_reducible refine LeO.bind ?_ (fun _ => ?_))
   | exact ih0 _ _ _ _ _ _ _ _
   | exact ih1 _ _ _ _ _ _ _ _ _
   | exact skiarearef24_one.mono _ _ _ _ _ _
   | exact LeO.none _
   | refine LeO.ite ?_ ?_
   | refine LeO.bind ?_ (fun _ => ?_)
  ·intro y0 y1 y2 y3 y4 y5 y6 y7 y8
   unfold skiarearef24_Cost.l1
   repeat' first
   | (with_reducible exact ih0 _ _ _ _ _ _ _ _)
   | (with_reducible exact ih1 _ _ _ _ _ _ _ _ _)
   | (with_reducible exact skiarearef24_one.mono _ _ _ _ _ _)
   | (with_reducible exact LeO.refl _)
   | (with_reducible exact LeO.none _)
   | (with_reducible refine LeO.ite ?_ ?_)
   | (with_reducible refine LeO.bind ?_ (fun _ => ?_))
   | exact ih0 _ _ _ _ _ _ _ _
   | exact ih1 _ _ _ _ _ _ _ _ _
   | exact skiarearef24_one.mono _ _ _ _ _ _
   | exact LeO.none _
   | refine LeO.ite ?_ ?_
   | refine LeO.bind ?_ (fun _ => ?_)
theorem skiarearef24_Cost.mono : ∀ a0 a1 a2 a3 k, LeO (skiarearef24_Cost.f k a0 a1 a2 a3) (skiarearef24_Cost.f (k + 1) a0 a1 a2 a3) := by
 intro a0 a1 a2 a3 k
 obtain ⟨ih0, ih1⟩ := skiarearef24_Cost.mono_l k
 unfold skiarearef24_Cost.f
 repeat' first
   | (with_reducible exact ih0 _ _ _ _ _ _ _ _)
   | (with_reducible exact ih1 _ _ _ _ _ _ _ _ _)
   | (with_reducible exact skiarearef24_one.mono _ _ _ _ _ _)
   | (with_reducible exact LeO.refl _)
   | (with_reducible exact LeO.none _)
   | (with_reducible refine LeO.ite ?_ ?_)
   | (with_reducible refine LeO.bind ?_ (fun _ => ?_))
   | exact ih0 _ _ _ _ _ _ _ _
   | exact ih1 _ _ _ _ _ _ _ _ _
   | exact skiarearef24_one.mono _ _ _ _ _ _
   | exact LeO.none _
   | refine LeO.ite ?_ ?_
   | refine LeO.bind ?_ (fun _ => ?_)
set_option maxHeartbeats 8000000 in
set_option maxRecDepth 100000 in
theorem skiarearef24_Cost.calls (k : Nat) (A0 : Option Addr) (c0 : Nat) (l0 : List Int) (A1 : Option Addr) (c1 : Nat) (l1 : List Int) (A2 : Option Addr) (c2 : Nat) (l2 : List (S45)) (A3 : Option Addr) (c3 : Nat) (l3 : List (S43)) (r1 : Int) (r2 : Bool) (w : World) (hr0 : Kd.C (Kd.int .i64) w A0 l0.length l0) (hc0 : l0.length ≤ c0) (hr1 : Kd.C (Kd.int .i64) w A1 l1.length l1) (hc1 : l1.length ≤ c1) (hr2 : Kd.C k45 w A2 l2.length l2) (hc2 : l2.length ≤ c2) (hr3 : Kd.C k43 w A3 l3.length l3) (hc3 : l3.length ≤ c3) (h : skiarearef24_Cost.f k l0 l1 l2 l3 = some (r1, r2)) :
  Calls Try.prog 17 #[.slice A0 l0.length c0, .slice A1 l1.length c1, .slice A2 l2.length c2, .slice A3 l3.length c3] w fun e w' => e = .returned (.tuple #[.int .i64 r1, .bool r2]) ∧ Below w.heap.size w w' := by
 have hu43 := Try.underlying43
 have HR0 := Aside0.mk hr0
 have HC0 := Aside0.mk hc0
 clear hr0 hc0
 have HR1 := Aside0.mk hr1
 have HC1 := Aside0.mk hc1
 clear hr1 hc1
 have HR2 := Aside0.mk hr2
 have HC2 := Aside0.mk hc2
 clear hr2 hc2
 have HR3 := Aside0.mk hr3
 have HC3 := Aside0.mk hc3
 clear hr3 hc3
 have HB := Aside0.mk (Below.refl w.heap.size w)
 have H : (if 0 ≤ (l0.length : Int) then (if ((l0.length : Int) : Int).toNat ≤ 281474976710656 then (skiarearef24_Cost.l0 k l0 l1 l2 l3 0 (List.replicate ((l0.length : Int) : Int).toNat false) 0 0) else (none)) else (none)) = some (r1, r2) := h
 clear h
 by_cases c5 : 0 ≤ (l0.length : Int)
 ·rw [if_pos c5] at H
  have c5b0 := eq_true c5
  have c5b1 : decide (0 ≤ (l0.length : Int)) = true := decide_eq_true c5
  clear c5
  by_cases c6 : ((l0.length : Int) : Int).toNat ≤ 281474976710656
  ·rw [if_pos c6] at H
   have c6b0 := eq_true c6
   have c6b1 : decide (((l0.length : Int) : Int).toNat ≤ 281474976710656) = true := decide_eq_true c6
   clear c6
   obtain ⟨y234, hy234⟩ : ∃ y_ : List Bool, y_ = (List.replicate ((l0.length : Int) : Int).toNat false) := ⟨_, rfl⟩
   replace H : (skiarearef24_Cost.l0 k l0 l1 l2 l3 0 y234 0 0) = some (r1, r2) := by first | (rw [hy234]; with_reducible exact H) | (have H2_ := (Option.bind_some _ _).symm.trans H; rw [hy234]; with_reducible exact H2_) | (have H2_ := (Option.bind_some _ _).symm.trans H; with_reducible exact H2_) | with_reducible exact H | (rw [hy234]; exact H) | exact H
   have Ny234 := Aside0.mk hy234
   clear hy234
   have H' := Aside0.mk H
   clear H
   go_enter Try.func17, Try.ntmps17
   go_wp2_with (first | ((with_reducible refine gate_dst (N := 19) rfl ?_); refine Kd.R_make Kd.bool _ 4 rfl (N := 19) rfl 54 _ _ rfl (l0.length : Int) rfl rfl Try.underlying54 (.bool false) 1 info4 rfl (by decide) (by omega) false (ok := fun _ => True) (okp := fun _ => True) rfl (fun _ hk => hk) trivial (of_decide_eq_true (by first | (with_reducible assumption) | assumption)) (Nat.le_trans (Nat.mul_le_mul_right _ (of_decide_eq_true (by first | (with_reducible assumption) | assumption) : (l0.length : Int).toNat ≤ 281474976710656)) (by omega)) (Below.refl _ _) (Nat.le_refl _) ?_; intro v235 w7 ho8 hb hg_ hnew_; clear hg_ hnew_; (first | rw [← Ny234.out] at ho8 | (simp only [Int.reduceToNat] at ho8; rw [← Ny234.out] at ho8)); have n0_ := Aside0.mk (Kd.R_lower ho8 (below_size (by repeat (first | (with_reducible first | exact HB.out | apply below_alloc | apply pw_below_drewN | apply below_drew1) | exact HB.out)))); have n1_ := Aside0.mk (below_step (by repeat (first | (with_reducible first | exact HB.out | apply below_alloc | apply pw_below_drewN | apply below_drew1) | exact HB.out)) hb); clear HB; have HO236 := n0_; have HB := n1_; clear n0_ n1_; clear hb ho8))
   go_loopg [10, 12, 13] k (fun kq v10 v12 v13 w' => ∃ (x10_1 : Int) (x11_1 : List Bool) (x12_1 : Int) (x13_1 : Int), v10 = .int .i64 x10_1 ∧ v12 = .int .i64 x12_1 ∧ v13 = .int .i64 x13_1 ∧ Aside0 (skiarearef24_Cost.l0 kq l0 l1 l2 l3 x10_1 x11_1 x12_1 x13_1 = some (r1, r2)) ∧ Aside0 (kq ≤ k) ∧ Aside0 (Kd.R Kd.bool 4 w' w.heap.size (fun _ => True) v235 x11_1) ∧ Aside0 (Below w.heap.size w w'))
   case atStart => exact ⟨(0), (y234), (0), (0), (by first | rfl | (simp; done) | (simp [*]; done)), (by first | rfl | (simp; done) | (simp [*]; done)), (by first | rfl | (simp; done) | (simp [*]; done)), H', ⟨Nat.le_refl _⟩, ⟨by (with_reducible repeat (first | apply Kd.R_alloc | apply Kd.R_drewN | apply Kd.R_drew)); exact HO236.out⟩, ⟨by repeat (first | (with_reducible first | exact HB.out | apply below_alloc | apply pw_below_drewN | apply below_drew1) | exact HB.out)⟩⟩
   case round =>
    clear H'
    try clear c1
    try clear c2
    try clear p2
    try clear c3
    try clear c5
    try clear c5b0
    try clear c5b1
    try clear c6
    try clear c6b0
    try clear c6b1
    obtain ⟨x10_1, x11_1, x12_1, x13_1, rfl, rfl, rfl, HA, HK1, HO_11, HB⟩ := hrel
    cases gk with
    | zero => exact absurd HA.out (by simp [skiarearef24_Cost.l0])
    | succ k1 =>
     have H := HA.out
     clear HA
     simp only [skiarearef24_Cost.l0] at H
     by_cases c9 : x13_1 < (l3.length : Int)
     ·rw [if_pos c9] at H
      have c9b0 : decide (x13_1 < (l3.length : Int)) = true := decide_eq_true c9
      clear c9
      by_cases c10 : 0 ≤ x13_1
      ·rw [if_pos c10] at H
       have c10b0 : decide (0 ≤ x13_1) = true := decide_eq_true c10
       clear c10
       replace H := Option.bind_eq_some_iff.mp H
       obtain ⟨⟨t238, t239⟩, A110, H⟩ := H
       replace H : (if t239 = true then (skiarearef24_Cost.l1 k1 l0 l1 l2 l3 (wrap64 (x10_1 + t238)) x11_1 x12_1 x13_1 0) else (some (0, false))) = some (r1, r2) := H
       have A11 := Aside0.mk A110
       clear A110
       by_cases c12 : t239 = true
       ·subst c12
        have H1 : (skiarearef24_Cost.l1 k1 l0 l1 l2 l3 (wrap64 (x10_1 + t238)) x11_1 x12_1 x13_1 0) = some (r1, r2) := by rw [if_pos rfl] at H; exact H
        clear H
        have H := H1
        clear H1
        have H' := Aside0.mk H
        clear H
        have p237 : 0 ≤ (x13_1 : Int) := of_decide_eq_true (by first | (with_reducible assumption) | assumption)
        have q237 : x13_1 < (l3.length : Int) := of_decide_eq_true (by first | (with_reducible assumption) | assumption)
        obtain ⟨ad237, A237_1, c237_1, e237, hx237_0, hx237_1, hl237_1, hi237_1⟩ := at_T43 HR3.out x13_1 p237 q237
        cases e237
        replace hx237_0 := (HB.out.cell (World.block_lt_of_cell? w _ hx237_0)).trans hx237_0
        replace hx237_1 := (HB.out.cell (World.block_lt_of_cell? w _ hx237_1)).trans hx237_1
        have HR237_1 := Aside0.mk hi237_1
        have HC237_1 := Aside0.mk hl237_1
        clear hi237_1 hl237_1
        replace p237 := eq_true p237
        replace q237 := eq_true q237
        go_wp2_with (first | ((with_reducible refine gate_callee (f := 29) rfl ?_); refine goesL_ (some 34) rfl rfl Try.func29 (by kernel_rfl) rfl #[.slice A0 l0.length c0, .slice A1 l1.length c1, .slice A2 l2.length c2, .agg #[.int .i64 ((rd_T43 l3 x13_1).f0), .slice A237_1 ((rd_T43 l3 x13_1).f1).length c237_1]] rfl (by (try simp only [List.map_toArray, List.map_cons, List.map_nil]); first | done | rfl | (simp only [List.length_drop, List.length_take]; rfl)) ?_; (with_reducible refine (skiarearef24_one.calls k1 _ _ l0 _ _ l1 _ _ l2 ((rd_T43 l3 x13_1).f0) _ _ ((rd_T43 l3 x13_1).f1) t238 true _ ?side1 ?side2 ?side3 ?side4 ?side5 ?side6 ?side7 ?side8 A11.out).mono ?_); (case side1 => repeat (first | exact (Kd.C_below HR0.out HB.out) | (with_reducible refine Kd.C_alloc ?_ _) | (with_reducible refine Kd.C_drewN ?_ _) | (with_reducible refine Kd.C_drew ?_))); (case side2 => exact HC0.out); (case side3 => repeat (first | exact (Kd.C_below HR1.out HB.out) | (with_reducible refine Kd.C_alloc ?_ _) | (with_reducible refine Kd.C_drewN ?_ _) | (with_reducible refine Kd.C_drew ?_))); (case side4 => exact HC1.out); (case side5 => repeat (first | exact (Kd.C_below HR2.out HB.out) | (with_reducible refine Kd.C_alloc ?_ _) | (with_reducible refine Kd.C_drewN ?_ _) | (with_reducible refine Kd.C_drew ?_))); (case side6 => exact HC2.out); (case side7 => repeat (first | exact (Kd.C_below HR237_1.out HB.out) | (with_reducible refine Kd.C_alloc ?_ _) | (with_reducible refine Kd.C_drewN ?_ _) | (with_reducible refine Kd.C_drew ?_))); (case side8 => exact HC237_1.out); rintro e w13 ⟨rfl, hb⟩; refine ⟨_, rfl, ?_⟩; have n0_ := Aside0.mk (Kd.R_below (by (with_reducible repeat (first | apply Kd.R_alloc | apply Kd.R_drewN | apply Kd.R_drew)); exact HO_11.out) hb); have n1_ := Aside0.mk (below_step (by repeat (first | (with_reducible first | exact HB.out | apply below_alloc | apply pw_below_drewN | apply below_drew1) | exact HB.out)) hb); clear HO_11; clear HB; have HO_11 := n0_; have HB := n1_; clear n0_ n1_; (try clear hb); (try clear hb2); (try clear hk); (try clear hi)))
        go_loopg [12, 16] k1 (fun kq v12 v16 w' => ∃ (x11_2 : List Bool) (x12_2 : Int) (x16_2 : Int), v12 = .int .i64 x12_2 ∧ v16 = .int .i64 x16_2 ∧ Aside0 (skiarearef24_Cost.l1 kq l0 l1 l2 l3 (wrap64 (x10_1 + t238)) x11_2 x12_2 x13_1 x16_2 = some (r1, r2)) ∧ Aside0 (kq ≤ k1) ∧ Aside0 (Kd.R Kd.bool 4 w' w.heap.size (fun _ => True) v235 x11_2) ∧ Aside0 (Below w.heap.size w w'))
        case atStart => exact ⟨(x11_1), (x12_1), (0), (by first | rfl | (simp; done) | (simp [*]; done)), (by first | rfl | (simp; done) | (simp [*]; done)), H', ⟨Nat.le_refl _⟩, ⟨by (with_reducible repeat (first | apply Kd.R_alloc | apply Kd.R_drewN | apply Kd.R_drew)); exact HO_11.out⟩, ⟨by repeat (first | (with_reducible first | exact HB.out | apply below_alloc | apply pw_below_drewN | apply below_drew1) | exact HB.out)⟩⟩
        case round =>
         clear H'
         try clear c1
         try clear c2
         try clear p2
         try clear q2
         try clear hx2
         try clear c3
         try clear c5
         try clear c5b0
         try clear c5b1
         try clear c6
         try clear c6b0
         try clear c6b1
         try clear p6
         try clear c9
         try clear c9b0
         try clear c10
         try clear c10b0
         try clear c12
         try clear hx237_0
         try clear hx237_1
         try clear p2
         try clear p237
         try clear q237
         obtain ⟨x11_2, x12_2, x16_2, rfl, rfl, HA, HK2, HO_11, HB⟩ := hrel
         cases gk with
         | zero => exact absurd HA.out (by simp [skiarearef24_Cost.l1])
         | succ k2 =>
          have H := HA.out
          clear HA
          simp only [skiarearef24_Cost.l1] at H
          by_cases c14 : 0 ≤ x13_1
          ·rw [if_pos c14] at H
           have c14b0 : decide (0 ≤ x13_1) = true := decide_eq_true c14
           clear c14
           by_cases c15 : x13_1 < (l3.length : Int)
           ·rw [if_pos c15] at H
            have c15b0 : decide (x13_1 < (l3.length : Int)) = true := decide_eq_true c15
            clear c15
            by_cases c16 : x16_2 < (((rd_T43 l3 x13_1).f1).length : Int)
            ·rw [if_pos c16] at H
             have c16b0 : decide (x16_2 < (((rd_T43 l3 x13_1).f1).length : Int)) = true := decide_eq_true c16
             clear c16
             by_cases c17 : 0 ≤ x16_2
             ·rw [if_pos c17] at H
              have c17b0 : decide (0 ≤ x16_2) = true := decide_eq_true c17
              clear c17
              by_cases c18 : 0 ≤ (rd ((rd_T43 l3 x13_1).f1) x16_2)
              ·rw [if_pos c18] at H
               have c18b0 : decide (0 ≤ (rd ((rd_T43 l3 x13_1).f1) x16_2)) = true := decide_eq_true c18
               clear c18
               by_cases c19 : (rd ((rd_T43 l3 x13_1).f1) x16_2) < (x11_2.length : Int)
               ·rw [if_pos c19] at H
                have c19b0 : decide ((rd ((rd_T43 l3 x13_1).f1) x16_2) < (x11_2.length : Int)) = true := decide_eq_true c19
                clear c19
                obtain ⟨bq20, hbq20⟩ : ∃ b_ : Bool, b_ = (rdOf false x11_2 (rd ((rd_T43 l3 x13_1).f1) x16_2)) := ⟨_, rfl⟩
                replace H : (if bq20 = true then (some (0, false)) else (skiarearef24_Cost.l1 k2 l0 l1 l2 l3 (wrap64 (x10_1 + t238)) (x11_2.set ((rd ((rd_T43 l3 x13_1).f1) x16_2) : Int).toNat true) (wrap64 (x12_2 + 1)) x13_1 (wrap64 (x16_2 + 1)))) = some (r1, r2) := by rw [← hbq20] at H; exact H
                have Nbq20 := Aside0.mk hbq20
                clear hbq20
                by_cases c21 : bq20 = true
                ·subst c21
                 have H1 : (some (0, false)) = some (r1, r2) := by rw [if_pos rfl] at H; exact H
                 clear H
                 have H := H1
                 clear H1
                 simp only [Option.some.injEq, Prod.mk.injEq] at H
                 obtain ⟨rfl, rfl⟩ := H
                 have p240 : 0 ≤ (x13_1 : Int) := of_decide_eq_true (by first | (with_reducible assumption) | assumption)
                 have q240 : x13_1 < (l3.length : Int) := of_decide_eq_true (by first | (with_reducible assumption) | assumption)
                 obtain ⟨ad240, A240_1, c240_1, e240, hx240_0, hx240_1, hl240_1, hi240_1⟩ := at_T43 HR3.out x13_1 p240 q240
                 obtain rfl : ad237 = ad240 := (by injection e240)
                 replace hx240_0 := (HB.out.cell (World.block_lt_of_cell? w _ hx240_0)).trans hx240_0
                 replace hx240_1 := (HB.out.cell (World.block_lt_of_cell? w _ hx240_1)).trans hx240_1
                 have HR240_1 := Aside0.mk hi240_1
                 have HC240_1 := Aside0.mk hl240_1
                 clear hi240_1 hl240_1
                 replace p240 := eq_true p240
                 replace q240 := eq_true q240
                 have p241 : 0 ≤ (x13_1 : Int) := of_decide_eq_true (by first | (with_reducible assumption) | assumption)
                 have q241 : x13_1 < (l3.length : Int) := of_decide_eq_true (by first | (with_reducible assumption) | assumption)
                 obtain ⟨ad241, A241_1, c241_1, e241, hx241_0, hx241_1, hl241_1, hi241_1⟩ := at_T43 HR3.out x13_1 p241 q241
                 obtain rfl : ad237 = ad241 := (by injection e241)
                 replace hx241_0 := (HB.out.cell (World.block_lt_of_cell? w _ hx241_0)).trans hx241_0
                 replace hx241_1 := (HB.out.cell (World.block_lt_of_cell? w _ hx241_1)).trans hx241_1
                 have HR241_1 := Aside0.mk hi241_1
                 have HC241_1 := Aside0.mk hl241_1
                 clear hi241_1 hl241_1
                 replace p241 := eq_true p241
                 replace q241 := eq_true q241
                 have ea_ := Option.some.inj (hx240_1.symm.trans hx241_1)
                 injection ea_ with ea_ en_ ec_
                 subst ea_
                 subst ec_
                 clear en_
                 have p242 : 0 ≤ (x16_2 : Int) := of_decide_eq_true (by first | (with_reducible assumption) | assumption)
                 have q242 : x16_2 < (((rd_T43 l3 x13_1).f1).length : Int) := of_decide_eq_true (by first | (with_reducible assumption) | assumption)
                 obtain ⟨ad242, e242, hx242_0⟩ := Kd.at_int HR241_1.out x16_2 p242 q242
                 cases e242
                 replace hx242_0 := (HB.out.cell (World.block_lt_of_cell? w _ hx242_0)).trans hx242_0
                 replace p242 := eq_true p242
                 replace q242 := eq_true q242
                 obtain ⟨Ao22, co22, eo22⟩ := Kd.R_slice HO_11.out
                 subst eo22
                 have p243 : 0 ≤ ((rd ((rd_T43 l3 x13_1).f1) x16_2) : Int) := of_decide_eq_true (by first | (with_reducible assumption) | assumption)
                 have q243 : (rd ((rd_T43 l3 x13_1).f1) x16_2) < (x11_2.length : Int) := of_decide_eq_true (by first | (with_reducible assumption) | assumption)
                 obtain ⟨ad243, e243, hx243_0⟩ := Kd.at_bool (Kd.R_reads' HO_11.out).2.2 (rd ((rd_T43 l3 x13_1).f1) x16_2) p243 q243
                 (try rw [← Nbq20.out] at hx243_0)
                 cases e243
                 replace p243 := eq_true p243
                 replace q243 := eq_true q243
                 go_wp2
                 go_ret2
                 exact ⟨by first | rfl | (simp [errW_none, errW_some] <;> rfl) | (simp [*, errW_none, errW_some] <;> rfl), by repeat (first | (with_reducible first | exact HB.out | apply below_alloc | apply pw_below_drewN | apply below_drew1) | exact HB.out)⟩
                ·replace c21 := Bool.eq_false_iff.mpr c21
                 subst c21
                 have H1 : (skiarearef24_Cost.l1 k2 l0 l1 l2 l3 (wrap64 (x10_1 + t238)) (x11_2.set ((rd ((rd_T43 l3 x13_1).f1) x16_2) : Int).toNat true) (wrap64 (x12_2 + 1)) x13_1 (wrap64 (x16_2 + 1))) = some (r1, r2) := by rw [if_neg (show ¬ (false = true) by decide)] at H; exact H
                 clear H
                 have H := H1
                 clear H1
                 obtain ⟨y246, hy246⟩ : ∃ y_ : List Bool, y_ = (x11_2.set ((rd ((rd_T43 l3 x13_1).f1) x16_2) : Int).toNat true) := ⟨_, rfl⟩
                 replace H : (skiarearef24_Cost.l1 k2 l0 l1 l2 l3 (wrap64 (x10_1 + t238)) y246 (wrap64 (x12_2 + 1)) x13_1 (wrap64 (x16_2 + 1))) = some (r1, r2) := by first | (rw [hy246]; with_reducible exact H) | (have H2_ := (Option.bind_some _ _).symm.trans H; rw [hy246]; with_reducible exact H2_) | (have H2_ := (Option.bind_some _ _).symm.trans H; with_reducible exact H2_) | with_reducible exact H | (rw [hy246]; exact H) | exact H
                 have Ny246 := Aside0.mk hy246
                 clear hy246
                 have H' := Aside0.mk H
                 clear H
                 have p240 : 0 ≤ (x13_1 : Int) := of_decide_eq_true (by first | (with_reducible assumption) | assumption)
                 have q240 : x13_1 < (l3.length : Int) := of_decide_eq_true (by first | (with_reducible assumption) | assumption)
                 obtain ⟨ad240, A240_1, c240_1, e240, hx240_0, hx240_1, hl240_1, hi240_1⟩ := at_T43 HR3.out x13_1 p240 q240
                 obtain rfl : ad237 = ad240 := (by injection e240)
                 replace hx240_0 := (HB.out.cell (World.block_lt_of_cell? w _ hx240_0)).trans hx240_0
                 replace hx240_1 := (HB.out.cell (World.block_lt_of_cell? w _ hx240_1)).trans hx240_1
                 have HR240_1 := Aside0.mk hi240_1
                 have HC240_1 := Aside0.mk hl240_1
                 clear hi240_1 hl240_1
                 replace p240 := eq_true p240
                 replace q240 := eq_true q240
                 have p241 : 0 ≤ (x13_1 : Int) := of_decide_eq_true (by first | (with_reducible assumption) | assumption)
                 have q241 : x13_1 < (l3.length : Int) := of_decide_eq_true (by first | (with_reducible assumption) | assumption)
                 obtain ⟨ad241, A241_1, c241_1, e241, hx241_0, hx241_1, hl241_1, hi241_1⟩ := at_T43 HR3.out x13_1 p241 q241
                 obtain rfl : ad237 = ad241 := (by injection e241)
                 replace hx241_0 := (HB.out.cell (World.block_lt_of_cell? w _ hx241_0)).trans hx241_0
                 replace hx241_1 := (HB.out.cell (World.block_lt_of_cell? w _ hx241_1)).trans hx241_1
                 have HR241_1 := Aside0.mk hi241_1
                 have HC241_1 := Aside0.mk hl241_1
                 clear hi241_1 hl241_1
                 replace p241 := eq_true p241
                 replace q241 := eq_true q241
                 have ea_ := Option.some.inj (hx240_1.symm.trans hx241_1)
                 injection ea_ with ea_ en_ ec_
                 subst ea_
                 subst ec_
                 clear en_
                 have p242 : 0 ≤ (x16_2 : Int) := of_decide_eq_true (by first | (with_reducible assumption) | assumption)
                 have q242 : x16_2 < (((rd_T43 l3 x13_1).f1).length : Int) := of_decide_eq_true (by first | (with_reducible assumption) | assumption)
                 obtain ⟨ad242, e242, hx242_0⟩ := Kd.at_int HR241_1.out x16_2 p242 q242
                 cases e242
                 replace hx242_0 := (HB.out.cell (World.block_lt_of_cell? w _ hx242_0)).trans hx242_0
                 replace p242 := eq_true p242
                 replace q242 := eq_true q242
                 obtain ⟨Ao24, co24, eo24⟩ := Kd.R_slice HO_11.out
                 subst eo24
                 have p243 : 0 ≤ ((rd ((rd_T43 l3 x13_1).f1) x16_2) : Int) := of_decide_eq_true (by first | (with_reducible assumption) | assumption)
                 have q243 : (rd ((rd_T43 l3 x13_1).f1) x16_2) < (x11_2.length : Int) := of_decide_eq_true (by first | (with_reducible assumption) | assumption)
                 obtain ⟨ad243, e243, hx243_0⟩ := Kd.at_bool (Kd.R_reads' HO_11.out).2.2 (rd ((rd_T43 l3 x13_1).f1) x16_2) p243 q243
                 (try rw [← Nbq20.out] at hx243_0)
                 cases e243
                 replace p243 := eq_true p243
                 replace q243 := eq_true q243
                 have p244 : 0 ≤ (x13_1 : Int) := of_decide_eq_true (by first | (with_reducible assumption) | assumption)
                 have q244 : x13_1 < (l3.length : Int) := of_decide_eq_true (by first | (with_reducible assumption) | assumption)
                 obtain ⟨ad244, A244_1, c244_1, e244, hx244_0, hx244_1, hl244_1, hi244_1⟩ := at_T43 HR3.out x13_1 p244 q244
                 obtain rfl : ad237 = ad244 := (by injection e244)
                 replace hx244_0 := (HB.out.cell (World.block_lt_of_cell? w _ hx244_0)).trans hx244_0
                 replace hx244_1 := (HB.out.cell (World.block_lt_of_cell? w _ hx244_1)).trans hx244_1
                 have HR244_1 := Aside0.mk hi244_1
                 have HC244_1 := Aside0.mk hl244_1
                 clear hi244_1 hl244_1
                 replace p244 := eq_true p244
                 replace q244 := eq_true q244
                 have ea_ := Option.some.inj (hx240_1.symm.trans hx244_1)
                 injection ea_ with ea_ en_ ec_
                 subst ea_
                 subst ec_
                 clear en_
                 have p245 : 0 ≤ (x16_2 : Int) := of_decide_eq_true (by first | (with_reducible assumption) | assumption)
                 have q245 : x16_2 < (((rd_T43 l3 x13_1).f1).length : Int) := of_decide_eq_true (by first | (with_reducible assumption) | assumption)
                 obtain ⟨ad245, e245, hx245_0⟩ := Kd.at_int HR244_1.out x16_2 p245 q245
                 cases e245
                 replace hx245_0 := (HB.out.cell (World.block_lt_of_cell? w _ hx245_0)).trans hx245_0
                 replace p245 := eq_true p245
                 replace q245 := eq_true q245
                 have p23 : 0 ≤ ((rd ((rd_T43 l3 x13_1).f1) x16_2) : Int) := of_decide_eq_true (by first | (with_reducible assumption) | assumption)
                 have q23 : ((rd ((rd_T43 l3 x13_1).f1) x16_2) : Int) < ((x11_2.length : Int) : Int) := of_decide_eq_true (by first | (with_reducible assumption) | assumption)
                 obtain ⟨go23, co23, eo23, gb23, gl23, cl23, HG23⟩ := Kd.R_form HO_11.out (by omega)
                 (first | cases eo23 | (injection eo23 with ea_ en_ ec_; (first | subst ea_ | (injection ea_ with ea_; subst ea_)); subst ec_; clear en_))
                 have GB23 := Aside0.mk gb23
                 have GG23 := Aside0.mk HG23
                 clear gb23 gl23 HG23
                 (first | simp only [add_plain] at hx243_0 | skip)
                 obtain ⟨hx23_0, hf23_0⟩ := Kd.R_celln false HO_11.out ((rd ((rd_T43 l3 x13_1).f1) x16_2) : Int) p23 q23
                 replace p23 := eq_true p23
                 replace q23 := eq_true q23
                 have HP25 := Kd.R_putg HO_11.out ((rd ((rd_T43 l3 x13_1).f1) x16_2) : Int) true
                 go_wp2_with (first | ((with_reducible refine gate_store (t := 4) (p := 72) rfl ?_); refine store_event (t := 4) (p := 72) (v := ?vo_w26) (w1 := (wr.setCell ⟨go23, ((rd ((rd_T43 l3 x13_1).f1) x16_2) : Int).toNat, none⟩ (.bool true))) ?hg ?ho ?hn ?hr ?_; (case ho => rfl); (case hg => rfl); (case hn => rfl); (case hr => first | (go_simp; done) | (go_simp; rfl)); intro w26 hw; have hg : wr.grownBy w26 (some go23) := (by rw [hw]; exact HP25.2); have hp_ : Kd.R Kd.bool 4 w26 w.heap.size (fun _ => True) (.slice (some ⟨go23, 0, none⟩) x11_2.length co24) y246 := (by rw [hw, Ny246.out]; exact HP25.1); clear HP25; have n0_ := Aside0.mk (hp_); have n1_ := Aside0.mk ((by rw [hw]; exact below_set (HB.out) GB23.out : Below w.heap.size w w26)); clear HO_11; clear HB; have HO_11 := n0_; have HB := n1_; clear n0_ n1_; clear hg hw hp_))
                 go_roundg k2
                 case measure => have := HK1.out; have := HK2.out; omega
                 case rel => exact ⟨(y246), (wrap64 (x12_2 + 1)), (wrap64 (x16_2 + 1)), (by first | rfl | (simp; done) | (simp [*]; done)), (by first | rfl | (simp; done) | (simp [*]; done)), H', ⟨by have := HK1.out; have := HK2.out; omega⟩, ⟨by (with_reducible repeat (first | apply Kd.R_alloc | apply Kd.R_drewN | apply Kd.R_drew)); exact HO_11.out⟩, ⟨by repeat (first | (with_reducible first | exact HB.out | apply below_alloc | apply pw_below_drewN | apply below_drew1) | exact HB.out)⟩⟩
               ·rw [if_neg c19] at H
                exact absurd H (by simp)
              ·rw [if_neg c18] at H
               exact absurd H (by simp)
             ·rw [if_neg c17] at H
              exact absurd H (by simp)
            ·rw [if_neg c16] at H
             have c16b0 : decide (x16_2 < (((rd_T43 l3 x13_1).f1).length : Int)) = false := decide_eq_false c16
             clear c16
             have H' := Aside0.mk H
             clear H
             have p240 : 0 ≤ (x13_1 : Int) := of_decide_eq_true (by first | (with_reducible assumption) | assumption)
             have q240 : x13_1 < (l3.length : Int) := of_decide_eq_true (by first | (with_reducible assumption) | assumption)
             obtain ⟨ad240, A240_1, c240_1, e240, hx240_0, hx240_1, hl240_1, hi240_1⟩ := at_T43 HR3.out x13_1 p240 q240
             obtain rfl : ad237 = ad240 := (by injection e240)
             replace hx240_0 := (HB.out.cell (World.block_lt_of_cell? w _ hx240_0)).trans hx240_0
             replace hx240_1 := (HB.out.cell (World.block_lt_of_cell? w _ hx240_1)).trans hx240_1
             have HR240_1 := Aside0.mk hi240_1
             have HC240_1 := Aside0.mk hl240_1
             clear hi240_1 hl240_1
             replace p240 := eq_true p240
             replace q240 := eq_true q240
             go_wp2
             go_roundg k2
             case measure => have := HK1.out; have := HK2.out; omega
             case rel => exact ⟨((wrap64 (x10_1 + t238))), (x11_2), (x12_2), (wrap64 (x13_1 + 1)), (by first | rfl | (simp; done) | (simp [*]; done)), (by first | rfl | (simp; done) | (simp [*]; done)), (by first | rfl | (simp; done) | (simp [*]; done)), H', ⟨by have := HK1.out; have := HK2.out; omega⟩, ⟨by (with_reducible repeat (first | apply Kd.R_alloc | apply Kd.R_drewN | apply Kd.R_drew)); exact HO_11.out⟩, ⟨by repeat (first | (with_reducible first | exact HB.out | apply below_alloc | apply pw_below_drewN | apply below_drew1) | exact HB.out)⟩⟩
           ·rw [if_neg c15] at H
            exact absurd H (by simp)
          ·rw [if_neg c14] at H
           exact absurd H (by simp)
       ·replace c12 := Bool.eq_false_iff.mpr c12
        subst c12
        have H1 : (some (0, false)) = some (r1, r2) := by rw [if_neg (show ¬ (false = true) by decide)] at H; exact H
        clear H
        have H := H1
        clear H1
        simp only [Option.some.injEq, Prod.mk.injEq] at H
        obtain ⟨rfl, rfl⟩ := H
        have p237 : 0 ≤ (x13_1 : Int) := of_decide_eq_true (by first | (with_reducible assumption) | assumption)
        have q237 : x13_1 < (l3.length : Int) := of_decide_eq_true (by first | (with_reducible assumption) | assumption)
        obtain ⟨ad237, A237_1, c237_1, e237, hx237_0, hx237_1, hl237_1, hi237_1⟩ := at_T43 HR3.out x13_1 p237 q237
        cases e237
        replace hx237_0 := (HB.out.cell (World.block_lt_of_cell? w _ hx237_0)).trans hx237_0
        replace hx237_1 := (HB.out.cell (World.block_lt_of_cell? w _ hx237_1)).trans hx237_1
        have HR237_1 := Aside0.mk hi237_1
        have HC237_1 := Aside0.mk hl237_1
        clear hi237_1 hl237_1
        replace p237 := eq_true p237
        replace q237 := eq_true q237
        go_wp2_with (first | ((with_reducible refine gate_callee (f := 29) rfl ?_); refine goesL_ (some 34) rfl rfl Try.func29 (by kernel_rfl) rfl #[.slice A0 l0.length c0, .slice A1 l1.length c1, .slice A2 l2.length c2, .agg #[.int .i64 ((rd_T43 l3 x13_1).f0), .slice A237_1 ((rd_T43 l3 x13_1).f1).length c237_1]] rfl (by (try simp only [List.map_toArray, List.map_cons, List.map_nil]); first | done | rfl | (simp only [List.length_drop, List.length_take]; rfl)) ?_; (with_reducible refine (skiarearef24_one.calls k1 _ _ l0 _ _ l1 _ _ l2 ((rd_T43 l3 x13_1).f0) _ _ ((rd_T43 l3 x13_1).f1) t238 false _ ?side1 ?side2 ?side3 ?side4 ?side5 ?side6 ?side7 ?side8 A11.out).mono ?_); (case side1 => repeat (first | exact (Kd.C_below HR0.out HB.out) | (with_reducible refine Kd.C_alloc ?_ _) | (with_reducible refine Kd.C_drewN ?_ _) | (with_reducible refine Kd.C_drew ?_))); (case side2 => exact HC0.out); (case side3 => repeat (first | exact (Kd.C_below HR1.out HB.out) | (with_reducible refine Kd.C_alloc ?_ _) | (with_reducible refine Kd.C_drewN ?_ _) | (with_reducible refine Kd.C_drew ?_))); (case side4 => exact HC1.out); (case side5 => repeat (first | exact (Kd.C_below HR2.out HB.out) | (with_reducible refine Kd.C_alloc ?_ _) | (with_reducible refine Kd.C_drewN ?_ _) | (with_reducible refine Kd.C_drew ?_))); (case side6 => exact HC2.out); (case side7 => repeat (first | exact (Kd.C_below HR237_1.out HB.out) | (with_reducible refine Kd.C_alloc ?_ _) | (with_reducible refine Kd.C_drewN ?_ _) | (with_reducible refine Kd.C_drew ?_))); (case side8 => exact HC237_1.out); rintro e w27 ⟨rfl, hb⟩; refine ⟨_, rfl, ?_⟩; have n0_ := Aside0.mk (Kd.R_below (by (with_reducible repeat (first | apply Kd.R_alloc | apply Kd.R_drewN | apply Kd.R_drew)); exact HO_11.out) hb); have n1_ := Aside0.mk (below_step (by repeat (first | (with_reducible first | exact HB.out | apply below_alloc | apply pw_below_drewN | apply below_drew1) | exact HB.out)) hb); clear HO_11; clear HB; have HO_11 := n0_; have HB := n1_; clear n0_ n1_; (try clear hb); (try clear hb2); (try clear hk); (try clear hi)))
        go_ret2
        exact ⟨by first | rfl | (simp [errW_none, errW_some] <;> rfl) | (simp [*, errW_none, errW_some] <;> rfl), by repeat (first | (with_reducible first | exact HB.out | apply below_alloc | apply pw_below_drewN | apply below_drew1) | exact HB.out)⟩
      ·rw [if_neg c10] at H
       exact absurd H (by simp)
     ·rw [if_neg c9] at H
      have c9b0 : decide (x13_1 < (l3.length : Int)) = false := decide_eq_false c9
      clear c9
      by_cases c28 : x12_1 = (l0.length : Int)
      ·rw [if_pos c28] at H
       have c28b0 : (x12_1 == (l0.length : Int)) = true := beq_iff_eq.mpr c28
       have c28b1 : (x12_1 != (l0.length : Int)) = false := bne_eq_false_iff_eq.mpr c28
       clear c28
       simp only [Option.some.injEq, Prod.mk.injEq] at H
       obtain ⟨rfl, rfl⟩ := H
       go_wp2
       go_ret2
       exact ⟨by first | rfl | (simp [errW_none, errW_some] <;> rfl) | (simp [*, errW_none, errW_some] <;> rfl), by repeat (first | (with_reducible first | exact HB.out | apply below_alloc | apply pw_below_drewN | apply below_drew1) | exact HB.out)⟩
      ·rw [if_neg c28] at H
       have c28b0 : (x12_1 == (l0.length : Int)) = false := beq_eq_false_iff_ne.mpr c28
       have c28b1 : (x12_1 != (l0.length : Int)) = true := bne_iff_ne.mpr c28
       simp only [Option.some.injEq, Prod.mk.injEq] at H
       obtain ⟨rfl, rfl⟩ := H
       go_wp2
       go_ret2
       exact ⟨by first | rfl | (simp [errW_none, errW_some] <;> rfl) | (simp [*, errW_none, errW_some] <;> rfl), by repeat (first | (with_reducible first | exact HB.out | apply below_alloc | apply pw_below_drewN | apply below_drew1) | exact HB.out)⟩
  ·rw [if_neg c6] at H
   exact absurd H (by simp)
 ·rw [if_neg c5] at H
  exact absurd H (by simp)

end Go.Proofs.Ytdklkjgcnibbgaa.A
