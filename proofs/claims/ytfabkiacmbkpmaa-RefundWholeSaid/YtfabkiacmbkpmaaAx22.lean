-- PRINTED by print.py (a twelfth state) out of the translation. Not trusted: Lean checks it.
import Derived.Test.YtfabkiacmbkpmaaAx0
import Derived.Test.YtfabkiacmbkpmaaAx3
import Derived.Test.YtfabkiacmbkpmaaAx4
import Derived.Test.YtfabkiacmbkpmaaAx6
namespace Go.Proofs.Ytfabkiacmbkpmaa.A
open Go.RowKit Go.Proofs.YtfabkiacmbkpmaaW.PrintWords Go.Proofs.YtfabkiacmbkpmaaW.PrintLast Go.Proofs.YtfabkiacmbkpmaaW.PrintMore
attribute [local go_sem] max2_int min2_int max_two min_two max_three min_three max_four min_four   -- for this text's walks alone
set_option linter.unusedVariables false
set_option linter.unusedSimpArgs false

/-! ### skiarealaw36_RefundWhole: function 8 -/
def skiarealaw36_RefundWhole.j0 : Nat → Int → Bool → Int → Int → Option (Bool)
  | 0, _, _, _, _ => none
  | k + 1, x0, x49, x329000, x329001 => if x49 = true then (some false) else ((refund_Unused.f x0 x329000 x329001).bind fun bt334 => (if bt334.2 = 0 then ((refund_Unused.f x0 x329000 (wrap64 (x329000 - x329001))).bind fun bt336 => (if bt336.2 = 0 then (if bt334.1 ≥ 0 then (if bt336.1 ≥ 0 then (if (wrap64 (bt334.1 + bt336.1)) ≤ x0 then (some (decide ((wrap64 (bt334.1 + bt336.1)) ≥ (wrap64 (x0 - 1))))) else (some false)) else (some false)) else (some false)) else (some false))) else (some (bt334.1 == 0))))
def skiarealaw36_RefundWhole.f (k : Nat) (a0 : Int) (l1 : List Int) (a2_0 : Int) (a2_1 : Int) : Option (Bool) := (skiarealaw36_alive.f k).bind fun t329 => (if t329 = true then (if (l1.length : Int) > 100 then (some true) else ((refund_Days.f 0 1000 a0 l1).bind fun bt330 => ((refund_Days.f 0 0 a0 l1).bind fun bt332 => (if bt330.2 = bt332.2 then (if bt330.2 = 0 then (if bt330.1 = a0 then (skiarealaw36_RefundWhole.j0 k a0 (bt332.1 != 0) a2_0 a2_1) else (skiarealaw36_RefundWhole.j0 k a0 true a2_0 a2_1)) else (skiarealaw36_RefundWhole.j0 k a0 false a2_0 a2_1)) else (skiarealaw36_RefundWhole.j0 k a0 true a2_0 a2_1))))) else (some false))
theorem skiarealaw36_RefundWhole.mono_l : ∀ k, (∀ y0 y1 y2 y3, LeO (skiarealaw36_RefundWhole.j0 k y0 y1 y2 y3) (skiarealaw36_RefundWhole.j0 (k + 1) y0 y1 y2 y3))
  | 0 => fun _ _ _ _ r h => by simp [skiarealaw36_RefundWhole.j0] at h
  | k + 1 => by
    have ih0 := skiarealaw36_RefundWhole.mono_l k
    · intro y0 y1 y2 y3
      unfold skiarealaw36_RefundWhole.j0
      repeat' first
      | (with_reducible exact ih0 _ _ _ _)
      | (with_reducible exact skiarealaw36_alive.mono _)
      | (with_reducible exact LeO.refl _)
      | (with_reducible exact LeO.none _)
      | (with_reducible refine LeO.ite ?_ ?_)
      | (with_reducible refine LeO.bind ?_ (fun _ => ?_))
      | exact ih0 _ _ _ _
      | exact skiarealaw36_alive.mono _
      | exact LeO.none _
      | refine LeO.ite ?_ ?_
      | refine LeO.bind ?_ (fun _ => ?_)
theorem skiarealaw36_RefundWhole.mono : ∀ a0 a1 a2 a3 k, LeO (skiarealaw36_RefundWhole.f k a0 a1 a2 a3) (skiarealaw36_RefundWhole.f (k + 1) a0 a1 a2 a3) := by
  intro a0 a1 a2 a3 k
  have ih0 := skiarealaw36_RefundWhole.mono_l k
  unfold skiarealaw36_RefundWhole.f
  repeat' first
      | (with_reducible exact ih0 _ _ _ _)
      | (with_reducible exact skiarealaw36_alive.mono _)
      | (with_reducible exact LeO.refl _)
      | (with_reducible exact LeO.none _)
      | (with_reducible refine LeO.ite ?_ ?_)
      | (with_reducible refine LeO.bind ?_ (fun _ => ?_))
      | exact ih0 _ _ _ _
      | exact skiarealaw36_alive.mono _
      | exact LeO.none _
      | refine LeO.ite ?_ ?_
      | refine LeO.bind ?_ (fun _ => ?_)
set_option maxHeartbeats 8000000 in
set_option maxRecDepth 100000 in
theorem skiarealaw36_RefundWhole.calls (k : Nat) (a0 : Int) (A1 : Option Addr) (c1 : Nat) (l1 : List Int) (a2_0 : Int) (a2_1 : Int) (r : Bool) (w : World) (hr1 : Kd.C (Kd.int .i64) w A1 l1.length l1) (hc1 : l1.length ≤ c1) (h : skiarealaw36_RefundWhole.f k a0 l1 a2_0 a2_1 = some r) :
    Calls Try.prog 8 #[.int .i64 a0, .slice A1 l1.length c1, .agg #[.int .i64 a2_0, .int .i64 a2_1]] w fun e w' => e = .returned (.bool r) ∧ Below w.heap.size w w' := by
  have hu47 := Try.underlying47
  have hu23 := Try.underlying23
  have HR1 := Aside0.mk hr1
  have HC1 := Aside0.mk hc1
  clear hr1 hc1
  have HB := Aside0.mk (Below.refl w.heap.size w)
  have H : ((skiarealaw36_alive.f k).bind fun t329 => (if t329 = true then (if (l1.length : Int) > 100 then (some true) else ((refund_Days.f 0 1000 a0 l1).bind fun bt330 => ((refund_Days.f 0 0 a0 l1).bind fun bt332 => (if bt330.2 = bt332.2 then (if bt330.2 = 0 then (if bt330.1 = a0 then (skiarealaw36_RefundWhole.j0 k a0 (bt332.1 != 0) a2_0 a2_1) else (skiarealaw36_RefundWhole.j0 k a0 true a2_0 a2_1)) else (skiarealaw36_RefundWhole.j0 k a0 false a2_0 a2_1)) else (skiarealaw36_RefundWhole.j0 k a0 true a2_0 a2_1))))) else (some false))) = some r := h
  clear h
  replace H := Option.bind_eq_some_iff.mp H
  obtain ⟨t329, A40, H⟩ := H
  replace H : (if t329 = true then (if (l1.length : Int) > 100 then (some true) else ((refund_Days.f 0 1000 a0 l1).bind fun bt330 => ((refund_Days.f 0 0 a0 l1).bind fun bt332 => (if bt330.2 = bt332.2 then (if bt330.2 = 0 then (if bt330.1 = a0 then (skiarealaw36_RefundWhole.j0 k a0 (bt332.1 != 0) a2_0 a2_1) else (skiarealaw36_RefundWhole.j0 k a0 true a2_0 a2_1)) else (skiarealaw36_RefundWhole.j0 k a0 false a2_0 a2_1)) else (skiarealaw36_RefundWhole.j0 k a0 true a2_0 a2_1))))) else (some false)) = some r := H
  have A4 := Aside0.mk A40
  clear A40
  by_cases c5 : t329 = true
  · subst c5
    have H1 : (if (l1.length : Int) > 100 then (some true) else ((refund_Days.f 0 1000 a0 l1).bind fun bt330 => ((refund_Days.f 0 0 a0 l1).bind fun bt332 => (if bt330.2 = bt332.2 then (if bt330.2 = 0 then (if bt330.1 = a0 then (skiarealaw36_RefundWhole.j0 k a0 (bt332.1 != 0) a2_0 a2_1) else (skiarealaw36_RefundWhole.j0 k a0 true a2_0 a2_1)) else (skiarealaw36_RefundWhole.j0 k a0 false a2_0 a2_1)) else (skiarealaw36_RefundWhole.j0 k a0 true a2_0 a2_1))))) = some r := by rw [if_pos rfl] at H; exact H
    clear H
    have H := H1
    clear H1
    by_cases c6 : (l1.length : Int) > 100
    · rw [if_pos c6] at H
      have c6b0 : decide (100 < (l1.length : Int)) = true := decide_eq_true c6
      have c6b1 : decide (100 < l1.length) = true := decide_eq_true (by omega)
      clear c6
      obtain rfl := Option.some.inj H
      go_enter Try.func8, Try.ntmps8
      go_wp2_with (first | ((with_reducible refine gate_dst (N := 5) rfl ?_); refine box_event ?hg (N := 5) ?hd (cs := #[.int .i64 a2_0, .int .i64 a2_1]) (t := 47) ?hr ?_; (case hd => rfl); (case hg => rfl); (case hr => first | (go_simp; done) | (go_simp; rfl)); intro gb328 hg w7 hbox hb; have n0_ := Aside0.mk (below_step (by repeat (first | (with_reducible first | exact HB.out | apply below_alloc | apply pw_below_drewN | apply below_drew1) | exact HB.out)) hb); have n1_ := Aside0.mk (hbox); have n2_ := Aside0.mk ((by rw [hg]; exact (below_size (by repeat (first | (with_reducible first | exact HB.out | apply below_alloc | apply pw_below_drewN | apply below_drew1) | exact HB.out))) : w.heap.size ≤ gb328)); have n3_ := Aside0.mk ((by rw [hg]; exact (below_size (by repeat (first | (with_reducible first | exact HB.out | apply below_alloc | apply pw_below_drewN | apply below_drew1) | exact HB.out))) : w.heap.size ≤ gb328)); clear HB; have HB := n0_; have BK328 := n1_; have GW328 := n2_; have GE328 := n3_; clear n0_ n1_ n2_ n3_; clear hb hbox hg) | ((with_reducible refine gate_callee (f := 10) rfl ?_); refine goesL_ (some 15) rfl rfl Try.func10 (by kernel_rfl) rfl #[] rfl (by (try simp only [List.map_toArray, List.map_cons, List.map_nil]); first | done | rfl | (simp only [List.length_drop, List.length_take]; rfl)) ?_; (with_reducible refine (skiarealaw36_alive.calls k  true _ A4.out).mono ?_); rintro e w8 ⟨rfl, hb⟩; refine ⟨_, rfl, ?_⟩; have n0_ := Aside0.mk (blk_below (g := gb328) (o := .cells #[.int .i64 a2_0, .int .i64 a2_1] 47 (0, 0)) (by (with_reducible repeat (first | refine blk_drewN ?_ _ | refine blk_drew ?_ | refine blk_alloc ?_ _)); exact BK328.out) hb); have n1_ := Aside0.mk (below_step (by repeat (first | (with_reducible first | exact HB.out | apply below_alloc | apply pw_below_drewN | apply below_drew1 | refine below_set ?_ GE328.out) | exact HB.out)) hb); clear BK328; clear HB; have BK328 := n0_; have HB := n1_; clear n0_ n1_; (try clear hb); (try clear hb2); (try clear hk); (try clear hi)))
      go_ret
      exact ⟨by first | rfl | (simp [errW_none, errW_some] <;> rfl) | (simp [*, errW_none, errW_some] <;> rfl), by repeat (first | (with_reducible first | exact HB.out | apply below_alloc | apply pw_below_drewN | apply below_drew1 | refine below_set ?_ GE328.out) | exact HB.out)⟩
    · rw [if_neg c6] at H
      have c6b0 : decide (100 < (l1.length : Int)) = false := decide_eq_false c6
      have c6b1 : decide (100 < l1.length) = false := decide_eq_false (by omega)
      clear c6
      replace H := Option.bind_eq_some_iff.mp H
      obtain ⟨⟨t330, t331⟩, A90, H⟩ := H
      replace H : ((refund_Days.f 0 0 a0 l1).bind fun bt332 => (if t331 = bt332.2 then (if t331 = 0 then (if t330 = a0 then (skiarealaw36_RefundWhole.j0 k a0 (bt332.1 != 0) a2_0 a2_1) else (skiarealaw36_RefundWhole.j0 k a0 true a2_0 a2_1)) else (skiarealaw36_RefundWhole.j0 k a0 false a2_0 a2_1)) else (skiarealaw36_RefundWhole.j0 k a0 true a2_0 a2_1))) = some r := H
      have A9 := Aside0.mk A90
      clear A90
      replace H := Option.bind_eq_some_iff.mp H
      obtain ⟨⟨t332, t333⟩, A100, H⟩ := H
      replace H : (if t331 = t333 then (if t331 = 0 then (if t330 = a0 then (skiarealaw36_RefundWhole.j0 k a0 (t332 != 0) a2_0 a2_1) else (skiarealaw36_RefundWhole.j0 k a0 true a2_0 a2_1)) else (skiarealaw36_RefundWhole.j0 k a0 false a2_0 a2_1)) else (skiarealaw36_RefundWhole.j0 k a0 true a2_0 a2_1)) = some r := H
      have A10 := Aside0.mk A100
      clear A100
      have HC11 := Aside0.mk H
      clear H
      go_enter Try.func8, Try.ntmps8
      go_upto_region 7 with (first | ((with_reducible refine gate_dst (N := 5) rfl ?_); refine box_event ?hg (N := 5) ?hd (cs := #[.int .i64 a2_0, .int .i64 a2_1]) (t := 47) ?hr ?_; (case hd => rfl); (case hg => rfl); (case hr => first | (go_simp; done) | (go_simp; rfl)); intro gb328 hg w12 hbox hb; have n0_ := Aside0.mk (below_step (by repeat (first | (with_reducible first | exact HB.out | apply below_alloc | apply pw_below_drewN | apply below_drew1) | exact HB.out)) hb); have n1_ := Aside0.mk (hbox); have n2_ := Aside0.mk ((by rw [hg]; exact (below_size (by repeat (first | (with_reducible first | exact HB.out | apply below_alloc | apply pw_below_drewN | apply below_drew1) | exact HB.out))) : w.heap.size ≤ gb328)); have n3_ := Aside0.mk ((by rw [hg]; exact (below_size (by repeat (first | (with_reducible first | exact HB.out | apply below_alloc | apply pw_below_drewN | apply below_drew1) | exact HB.out))) : w.heap.size ≤ gb328)); clear HB; have HB := n0_; have BK328 := n1_; have GW328 := n2_; have GE328 := n3_; clear n0_ n1_ n2_ n3_; clear hb hbox hg) | ((with_reducible refine gate_callee (f := 10) rfl ?_); refine goesL_ (some 15) rfl rfl Try.func10 (by kernel_rfl) rfl #[] rfl (by (try simp only [List.map_toArray, List.map_cons, List.map_nil]); first | done | rfl | (simp only [List.length_drop, List.length_take]; rfl)) ?_; (with_reducible refine (skiarealaw36_alive.calls k  true _ A4.out).mono ?_); rintro e w13 ⟨rfl, hb⟩; refine ⟨_, rfl, ?_⟩; have n0_ := Aside0.mk (blk_below (g := gb328) (o := .cells #[.int .i64 a2_0, .int .i64 a2_1] 47 (0, 0)) (by (with_reducible repeat (first | refine blk_drewN ?_ _ | refine blk_drew ?_ | refine blk_alloc ?_ _)); exact BK328.out) hb); have n1_ := Aside0.mk (below_step (by repeat (first | (with_reducible first | exact HB.out | apply below_alloc | apply pw_below_drewN | apply below_drew1 | refine below_set ?_ GE328.out) | exact HB.out)) hb); clear BK328; clear HB; have BK328 := n0_; have HB := n1_; clear n0_ n1_; (try clear hb); (try clear hb2); (try clear hk); (try clear hi)) | ((with_reducible refine gate_callee (f := 11) rfl ?_); refine goesL_ (some 24) rfl rfl Try.func11 (by kernel_rfl) rfl #[.agg #[.int .i64 0, .int .i64 1000], .int .i64 a0, .slice A1 l1.length c1] rfl (by (try simp only [List.map_toArray, List.map_cons, List.map_nil]); first | done | rfl | (simp only [List.length_drop, List.length_take]; rfl)) ?_; (with_reducible refine (refund_Days.calls 0 1000 a0 _ _ l1 t330 t331 _ ?side1 ?side2 A9.out).mono ?_); (case side1 => repeat (first | exact (Kd.C_below HR1.out HB.out) | (with_reducible refine Kd.C_alloc ?_ _) | (with_reducible refine Kd.C_drewN ?_ _) | (with_reducible refine Kd.C_drew ?_))); (case side2 => exact HC1.out); rintro e w14 ⟨rfl, hb⟩; refine ⟨_, rfl, ?_⟩; have n0_ := Aside0.mk (blk_below (g := gb328) (o := .cells #[.int .i64 a2_0, .int .i64 a2_1] 47 (0, 0)) (by (with_reducible repeat (first | refine blk_drewN ?_ _ | refine blk_drew ?_ | refine blk_alloc ?_ _)); exact BK328.out) hb); have n1_ := Aside0.mk (below_step (by repeat (first | (with_reducible first | exact HB.out | apply below_alloc | apply pw_below_drewN | apply below_drew1 | refine below_set ?_ GE328.out) | exact HB.out)) hb); clear BK328; clear HB; have BK328 := n0_; have HB := n1_; clear n0_ n1_; (try clear hb); (try clear hb2); (try clear hk); (try clear hi)) | ((with_reducible refine gate_callee (f := 11) rfl ?_); refine goesL_ (some 31) rfl rfl Try.func11 (by kernel_rfl) rfl #[.agg #[.int .i64 0, .int .i64 0], .int .i64 a0, .slice A1 l1.length c1] rfl (by (try simp only [List.map_toArray, List.map_cons, List.map_nil]); first | done | rfl | (simp only [List.length_drop, List.length_take]; rfl)) ?_; (with_reducible refine (refund_Days.calls 0 0 a0 _ _ l1 t332 t333 _ ?side1 ?side2 A10.out).mono ?_); (case side1 => repeat (first | exact (Kd.C_below HR1.out HB.out) | (with_reducible refine Kd.C_alloc ?_ _) | (with_reducible refine Kd.C_drewN ?_ _) | (with_reducible refine Kd.C_drew ?_))); (case side2 => exact HC1.out); rintro e w15 ⟨rfl, hb⟩; refine ⟨_, rfl, ?_⟩; have n0_ := Aside0.mk (blk_below (g := gb328) (o := .cells #[.int .i64 a2_0, .int .i64 a2_1] 47 (0, 0)) (by (with_reducible repeat (first | refine blk_drewN ?_ _ | refine blk_drew ?_ | refine blk_alloc ?_ _)); exact BK328.out) hb); have n1_ := Aside0.mk (below_step (by repeat (first | (with_reducible first | exact HB.out | apply below_alloc | apply pw_below_drewN | apply below_drew1 | refine below_set ?_ GE328.out) | exact HB.out)) hb); clear BK328; clear HB; have BK328 := n0_; have HB := n1_; clear n0_ n1_; (try clear hb); (try clear hb2); (try clear hk); (try clear hi)))
      (try simp only [Act.put, List.setIfInBounds_toArray, List.set_cons_zero, List.set_cons_succ])
      go_cut [49] (fun v49 wc => ∃ (kq : Nat) (x49_10 : Bool), v49 = .bool x49_10 ∧ Aside0 (skiarealaw36_RefundWhole.j0 kq a0 x49_10 a2_0 a2_1 = some r) ∧ Aside0 (kq ≤ k) ∧ Aside0 (wc.heap[gb328]? = some (.cells #[.int .i64 a2_0, .int .i64 a2_1] 47 (0, 0))) ∧ Aside0 (Below w.heap.size w wc))
      case first =>
        have H := HC11.out
        clear HC11
        by_cases c16 : t331 = t333
        · rw [if_pos c16] at H
          have c16b0 : (t331 == t333) = true := beq_iff_eq.mpr c16
          have c16b1 : (t331 != t333) = false := bne_eq_false_iff_eq.mpr c16
          clear c16
          (first | rw [c16b0] | (simp only [i64_w, i32_w]; rw [c16b0]) | skip)
          by_cases c17 : t331 = 0
          · rw [if_pos c17] at H
            have c17b0 : (t331 == 0) = true := beq_iff_eq.mpr c17
            have c17b1 : (t331 != 0) = false := bne_eq_false_iff_eq.mpr c17
            clear c17
            by_cases c18 : t330 = a0
            · rw [if_pos c18] at H
              have c18b0 : (t330 == a0) = true := beq_iff_eq.mpr c18
              have c18b1 : (t330 != a0) = false := bne_eq_false_iff_eq.mpr c18
              clear c18
              have H' := Aside0.mk H
              clear H
              go_wp2
              go_meet
              case rel => exact ⟨_, ((t332 != 0)), (by first | rfl | (simp; done) | (simp [*]; done)), H', ⟨by first | omega | exact Nat.le_refl _⟩, ⟨by (with_reducible repeat (first | refine blk_drewN ?_ _ | refine blk_drew ?_ | refine blk_alloc ?_ _)); exact BK328.out⟩, ⟨by repeat (first | (with_reducible first | exact HB.out | apply below_alloc | apply pw_below_drewN | apply below_drew1 | refine below_set ?_ GE328.out) | exact HB.out)⟩⟩
            · rw [if_neg c18] at H
              have c18b0 : (t330 == a0) = false := beq_eq_false_iff_ne.mpr c18
              have c18b1 : (t330 != a0) = true := bne_iff_ne.mpr c18
              have H' := Aside0.mk H
              clear H
              go_wp2
              go_meet
              case rel => exact ⟨_, (true), (by first | rfl | (simp; done) | (simp [*]; done)), H', ⟨by first | omega | exact Nat.le_refl _⟩, ⟨by (with_reducible repeat (first | refine blk_drewN ?_ _ | refine blk_drew ?_ | refine blk_alloc ?_ _)); exact BK328.out⟩, ⟨by repeat (first | (with_reducible first | exact HB.out | apply below_alloc | apply pw_below_drewN | apply below_drew1 | refine below_set ?_ GE328.out) | exact HB.out)⟩⟩
          · rw [if_neg c17] at H
            have c17b0 : (t331 == 0) = false := beq_eq_false_iff_ne.mpr c17
            have c17b1 : (t331 != 0) = true := bne_iff_ne.mpr c17
            have H' := Aside0.mk H
            clear H
            go_wp2
            go_meet
            case rel => exact ⟨_, (false), (by first | rfl | (simp; done) | (simp [*]; done)), H', ⟨by first | omega | exact Nat.le_refl _⟩, ⟨by (with_reducible repeat (first | refine blk_drewN ?_ _ | refine blk_drew ?_ | refine blk_alloc ?_ _)); exact BK328.out⟩, ⟨by repeat (first | (with_reducible first | exact HB.out | apply below_alloc | apply pw_below_drewN | apply below_drew1 | refine below_set ?_ GE328.out) | exact HB.out)⟩⟩
        · rw [if_neg c16] at H
          have c16b0 : (t331 == t333) = false := beq_eq_false_iff_ne.mpr c16
          have c16b1 : (t331 != t333) = true := bne_iff_ne.mpr c16
          (first | rw [c16b0] | (simp only [i64_w, i32_w]; rw [c16b0]) | skip)
          have H' := Aside0.mk H
          clear H
          go_wp2
          go_meet
          case rel => exact ⟨_, (true), (by first | rfl | (simp; done) | (simp [*]; done)), H', ⟨by first | omega | exact Nat.le_refl _⟩, ⟨by (with_reducible repeat (first | refine blk_drewN ?_ _ | refine blk_drew ?_ | refine blk_alloc ?_ _)); exact BK328.out⟩, ⟨by repeat (first | (with_reducible first | exact HB.out | apply below_alloc | apply pw_below_drewN | apply below_drew1 | refine below_set ?_ GE328.out) | exact HB.out)⟩⟩
      case rest =>
        clear HC11
        try clear c1
        try clear p2
        try clear c5
        try clear c6
        try clear c6b0
        try clear c6b1
        try clear c8
        try clear c10
        try clear c11
        try clear c16
        try clear c16b0
        try clear c16b1
        try clear c17
        try clear c17b0
        try clear c17b1
        try clear c18
        try clear c18b0
        try clear c18b1
        obtain ⟨kq, x49_10, rfl, HA, HJ10, BK328, HB⟩ := hcut
        cases kq with
        | zero => exact absurd HA.out (by simp [skiarealaw36_RefundWhole.j0])
        | succ kj10 =>
          have H := HA.out
          clear HA
          simp only [skiarealaw36_RefundWhole.j0] at H
          by_cases c19 : x49_10 = true
          · subst c19
            have H1 : (some false) = some r := by rw [if_pos rfl] at H; exact H
            clear H
            have H := H1
            clear H1
            obtain rfl := Option.some.inj H
            go_wp2
            go_ret
            exact ⟨by first | rfl | (simp [errW_none, errW_some] <;> rfl) | (simp [*, errW_none, errW_some] <;> rfl), by repeat (first | (with_reducible first | exact HB.out | apply below_alloc | apply pw_below_drewN | apply below_drew1 | refine below_set ?_ GE328.out) | exact HB.out)⟩
          · replace c19 := Bool.eq_false_iff.mpr c19
            subst c19
            have H1 : ((refund_Unused.f a0 a2_0 a2_1).bind fun bt334 => (if bt334.2 = 0 then ((refund_Unused.f a0 a2_0 (wrap64 (a2_0 - a2_1))).bind fun bt336 => (if bt336.2 = 0 then (if bt334.1 ≥ 0 then (if bt336.1 ≥ 0 then (if (wrap64 (bt334.1 + bt336.1)) ≤ a0 then (some (decide ((wrap64 (bt334.1 + bt336.1)) ≥ (wrap64 (a0 - 1))))) else (some false)) else (some false)) else (some false)) else (some false))) else (some (bt334.1 == 0)))) = some r := by rw [if_neg (show ¬ (false = true) by decide)] at H; exact H
            clear H
            have H := H1
            clear H1
            replace H := Option.bind_eq_some_iff.mp H
            obtain ⟨⟨t334, t335⟩, A200, H⟩ := H
            replace H : (if t335 = 0 then ((refund_Unused.f a0 a2_0 (wrap64 (a2_0 - a2_1))).bind fun bt336 => (if bt336.2 = 0 then (if t334 ≥ 0 then (if bt336.1 ≥ 0 then (if (wrap64 (t334 + bt336.1)) ≤ a0 then (some (decide ((wrap64 (t334 + bt336.1)) ≥ (wrap64 (a0 - 1))))) else (some false)) else (some false)) else (some false)) else (some false))) else (some (t334 == 0))) = some r := H
            have A20 := Aside0.mk A200
            clear A200
            by_cases c21 : t335 = 0
            · rw [if_pos c21] at H
              have c21b0 : (t335 == 0) = true := beq_iff_eq.mpr c21
              have c21b1 : (t335 != 0) = false := bne_eq_false_iff_eq.mpr c21
              clear c21
              replace H := Option.bind_eq_some_iff.mp H
              obtain ⟨⟨t336, t337⟩, A220, H⟩ := H
              replace H : (if t337 = 0 then (if t334 ≥ 0 then (if t336 ≥ 0 then (if (wrap64 (t334 + t336)) ≤ a0 then (some (decide ((wrap64 (t334 + t336)) ≥ (wrap64 (a0 - 1))))) else (some false)) else (some false)) else (some false)) else (some false)) = some r := H
              have A22 := Aside0.mk A220
              clear A220
              by_cases c23 : t337 = 0
              · rw [if_pos c23] at H
                have c23b0 : (t337 == 0) = true := beq_iff_eq.mpr c23
                have c23b1 : (t337 != 0) = false := bne_eq_false_iff_eq.mpr c23
                clear c23
                by_cases c24 : t334 ≥ 0
                · rw [if_pos c24] at H
                  have c24b0 : decide (0 ≤ t334) = true := decide_eq_true c24
                  clear c24
                  by_cases c25 : t336 ≥ 0
                  · rw [if_pos c25] at H
                    have c25b0 : decide (0 ≤ t336) = true := decide_eq_true c25
                    clear c25
                    by_cases c26 : (wrap64 (t334 + t336)) ≤ a0
                    · rw [if_pos c26] at H
                      have c26b0 : decide ((wrap64 (t334 + t336)) ≤ a0) = true := decide_eq_true c26
                      clear c26
                      obtain rfl := Option.some.inj H
                      have hcz27_0 : wc.cell? ⟨gb328, 0, none⟩ = some (.int .i64 a2_0) := (blk_cell BK328.out 0).trans rfl
                      have hcz27_1 : wc.cell? ⟨gb328, 1, none⟩ = some (.int .i64 a2_1) := (blk_cell BK328.out 1).trans rfl
                      have hfz27_0 := blk_frozen BK328.out 0
                      have hfz27_1 := blk_frozen BK328.out 1
                      go_wp2_with (first | ((with_reducible refine gate_callee (f := 13) rfl ?_); refine goesL_ (some 56) rfl rfl Try.func13 (by kernel_rfl) rfl #[.int .i64 a0, .int .i64 a2_0, .int .i64 a2_1] rfl (by (try simp only [List.map_toArray, List.map_cons, List.map_nil]); first | done | rfl | (simp only [List.length_drop, List.length_take]; rfl)) ?_; (with_reducible refine (refund_Unused.calls a0 a2_0 a2_1 t334 t335 _ A20.out).mono ?_); rintro e w' ⟨rfl, ⟨nd, rfl⟩⟩; refine ⟨_, rfl, ?_⟩) | ((with_reducible refine gate_callee (f := 13) rfl ?_); refine goesL_ (some 72) rfl rfl Try.func13 (by kernel_rfl) rfl #[.int .i64 a0, .int .i64 a2_0, .int .i64 (wrap64 (a2_0 - a2_1))] rfl (by (try simp only [List.map_toArray, List.map_cons, List.map_nil]); first | done | rfl | (simp only [List.length_drop, List.length_take]; rfl)) ?_; (with_reducible refine (refund_Unused.calls a0 a2_0 (wrap64 (a2_0 - a2_1)) t336 t337 _ A22.out).mono ?_); rintro e w' ⟨rfl, ⟨nd, rfl⟩⟩; refine ⟨_, rfl, ?_⟩))
                      go_ret
                      exact ⟨by first | rfl | (simp [errW_none, errW_some] <;> rfl) | (simp [*, errW_none, errW_some] <;> rfl), by repeat (first | (with_reducible first | exact HB.out | apply below_alloc | apply pw_below_drewN | apply below_drew1 | refine below_set ?_ GE328.out) | exact HB.out)⟩
                    · rw [if_neg c26] at H
                      have c26b0 : decide ((wrap64 (t334 + t336)) ≤ a0) = false := decide_eq_false c26
                      clear c26
                      obtain rfl := Option.some.inj H
                      have hcz28_0 : wc.cell? ⟨gb328, 0, none⟩ = some (.int .i64 a2_0) := (blk_cell BK328.out 0).trans rfl
                      have hcz28_1 : wc.cell? ⟨gb328, 1, none⟩ = some (.int .i64 a2_1) := (blk_cell BK328.out 1).trans rfl
                      have hfz28_0 := blk_frozen BK328.out 0
                      have hfz28_1 := blk_frozen BK328.out 1
                      go_wp2_with (first | ((with_reducible refine gate_callee (f := 13) rfl ?_); refine goesL_ (some 56) rfl rfl Try.func13 (by kernel_rfl) rfl #[.int .i64 a0, .int .i64 a2_0, .int .i64 a2_1] rfl (by (try simp only [List.map_toArray, List.map_cons, List.map_nil]); first | done | rfl | (simp only [List.length_drop, List.length_take]; rfl)) ?_; (with_reducible refine (refund_Unused.calls a0 a2_0 a2_1 t334 t335 _ A20.out).mono ?_); rintro e w' ⟨rfl, ⟨nd, rfl⟩⟩; refine ⟨_, rfl, ?_⟩) | ((with_reducible refine gate_callee (f := 13) rfl ?_); refine goesL_ (some 72) rfl rfl Try.func13 (by kernel_rfl) rfl #[.int .i64 a0, .int .i64 a2_0, .int .i64 (wrap64 (a2_0 - a2_1))] rfl (by (try simp only [List.map_toArray, List.map_cons, List.map_nil]); first | done | rfl | (simp only [List.length_drop, List.length_take]; rfl)) ?_; (with_reducible refine (refund_Unused.calls a0 a2_0 (wrap64 (a2_0 - a2_1)) t336 t337 _ A22.out).mono ?_); rintro e w' ⟨rfl, ⟨nd, rfl⟩⟩; refine ⟨_, rfl, ?_⟩))
                      go_ret
                      exact ⟨by first | rfl | (simp [errW_none, errW_some] <;> rfl) | (simp [*, errW_none, errW_some] <;> rfl), by repeat (first | (with_reducible first | exact HB.out | apply below_alloc | apply pw_below_drewN | apply below_drew1 | refine below_set ?_ GE328.out) | exact HB.out)⟩
                  · rw [if_neg c25] at H
                    have c25b0 : decide (0 ≤ t336) = false := decide_eq_false c25
                    clear c25
                    obtain rfl := Option.some.inj H
                    have hcz29_0 : wc.cell? ⟨gb328, 0, none⟩ = some (.int .i64 a2_0) := (blk_cell BK328.out 0).trans rfl
                    have hcz29_1 : wc.cell? ⟨gb328, 1, none⟩ = some (.int .i64 a2_1) := (blk_cell BK328.out 1).trans rfl
                    have hfz29_0 := blk_frozen BK328.out 0
                    have hfz29_1 := blk_frozen BK328.out 1
                    go_wp2_with (first | ((with_reducible refine gate_callee (f := 13) rfl ?_); refine goesL_ (some 56) rfl rfl Try.func13 (by kernel_rfl) rfl #[.int .i64 a0, .int .i64 a2_0, .int .i64 a2_1] rfl (by (try simp only [List.map_toArray, List.map_cons, List.map_nil]); first | done | rfl | (simp only [List.length_drop, List.length_take]; rfl)) ?_; (with_reducible refine (refund_Unused.calls a0 a2_0 a2_1 t334 t335 _ A20.out).mono ?_); rintro e w' ⟨rfl, ⟨nd, rfl⟩⟩; refine ⟨_, rfl, ?_⟩) | ((with_reducible refine gate_callee (f := 13) rfl ?_); refine goesL_ (some 72) rfl rfl Try.func13 (by kernel_rfl) rfl #[.int .i64 a0, .int .i64 a2_0, .int .i64 (wrap64 (a2_0 - a2_1))] rfl (by (try simp only [List.map_toArray, List.map_cons, List.map_nil]); first | done | rfl | (simp only [List.length_drop, List.length_take]; rfl)) ?_; (with_reducible refine (refund_Unused.calls a0 a2_0 (wrap64 (a2_0 - a2_1)) t336 t337 _ A22.out).mono ?_); rintro e w' ⟨rfl, ⟨nd, rfl⟩⟩; refine ⟨_, rfl, ?_⟩))
                    go_ret
                    exact ⟨by first | rfl | (simp [errW_none, errW_some] <;> rfl) | (simp [*, errW_none, errW_some] <;> rfl), by repeat (first | (with_reducible first | exact HB.out | apply below_alloc | apply pw_below_drewN | apply below_drew1 | refine below_set ?_ GE328.out) | exact HB.out)⟩
                · rw [if_neg c24] at H
                  have c24b0 : decide (0 ≤ t334) = false := decide_eq_false c24
                  clear c24
                  obtain rfl := Option.some.inj H
                  have hcz30_0 : wc.cell? ⟨gb328, 0, none⟩ = some (.int .i64 a2_0) := (blk_cell BK328.out 0).trans rfl
                  have hcz30_1 : wc.cell? ⟨gb328, 1, none⟩ = some (.int .i64 a2_1) := (blk_cell BK328.out 1).trans rfl
                  have hfz30_0 := blk_frozen BK328.out 0
                  have hfz30_1 := blk_frozen BK328.out 1
                  go_wp2_with (first | ((with_reducible refine gate_callee (f := 13) rfl ?_); refine goesL_ (some 56) rfl rfl Try.func13 (by kernel_rfl) rfl #[.int .i64 a0, .int .i64 a2_0, .int .i64 a2_1] rfl (by (try simp only [List.map_toArray, List.map_cons, List.map_nil]); first | done | rfl | (simp only [List.length_drop, List.length_take]; rfl)) ?_; (with_reducible refine (refund_Unused.calls a0 a2_0 a2_1 t334 t335 _ A20.out).mono ?_); rintro e w' ⟨rfl, ⟨nd, rfl⟩⟩; refine ⟨_, rfl, ?_⟩) | ((with_reducible refine gate_callee (f := 13) rfl ?_); refine goesL_ (some 72) rfl rfl Try.func13 (by kernel_rfl) rfl #[.int .i64 a0, .int .i64 a2_0, .int .i64 (wrap64 (a2_0 - a2_1))] rfl (by (try simp only [List.map_toArray, List.map_cons, List.map_nil]); first | done | rfl | (simp only [List.length_drop, List.length_take]; rfl)) ?_; (with_reducible refine (refund_Unused.calls a0 a2_0 (wrap64 (a2_0 - a2_1)) t336 t337 _ A22.out).mono ?_); rintro e w' ⟨rfl, ⟨nd, rfl⟩⟩; refine ⟨_, rfl, ?_⟩))
                  go_ret
                  exact ⟨by first | rfl | (simp [errW_none, errW_some] <;> rfl) | (simp [*, errW_none, errW_some] <;> rfl), by repeat (first | (with_reducible first | exact HB.out | apply below_alloc | apply pw_below_drewN | apply below_drew1 | refine below_set ?_ GE328.out) | exact HB.out)⟩
              · rw [if_neg c23] at H
                have c23b0 : (t337 == 0) = false := beq_eq_false_iff_ne.mpr c23
                have c23b1 : (t337 != 0) = true := bne_iff_ne.mpr c23
                obtain rfl := Option.some.inj H
                have hcz31_0 : wc.cell? ⟨gb328, 0, none⟩ = some (.int .i64 a2_0) := (blk_cell BK328.out 0).trans rfl
                have hcz31_1 : wc.cell? ⟨gb328, 1, none⟩ = some (.int .i64 a2_1) := (blk_cell BK328.out 1).trans rfl
                have hfz31_0 := blk_frozen BK328.out 0
                have hfz31_1 := blk_frozen BK328.out 1
                go_wp2_with (first | ((with_reducible refine gate_callee (f := 13) rfl ?_); refine goesL_ (some 56) rfl rfl Try.func13 (by kernel_rfl) rfl #[.int .i64 a0, .int .i64 a2_0, .int .i64 a2_1] rfl (by (try simp only [List.map_toArray, List.map_cons, List.map_nil]); first | done | rfl | (simp only [List.length_drop, List.length_take]; rfl)) ?_; (with_reducible refine (refund_Unused.calls a0 a2_0 a2_1 t334 t335 _ A20.out).mono ?_); rintro e w' ⟨rfl, ⟨nd, rfl⟩⟩; refine ⟨_, rfl, ?_⟩) | ((with_reducible refine gate_callee (f := 13) rfl ?_); refine goesL_ (some 72) rfl rfl Try.func13 (by kernel_rfl) rfl #[.int .i64 a0, .int .i64 a2_0, .int .i64 (wrap64 (a2_0 - a2_1))] rfl (by (try simp only [List.map_toArray, List.map_cons, List.map_nil]); first | done | rfl | (simp only [List.length_drop, List.length_take]; rfl)) ?_; (with_reducible refine (refund_Unused.calls a0 a2_0 (wrap64 (a2_0 - a2_1)) t336 t337 _ A22.out).mono ?_); rintro e w' ⟨rfl, ⟨nd, rfl⟩⟩; refine ⟨_, rfl, ?_⟩))
                go_ret
                exact ⟨by first | rfl | (simp [errW_none, errW_some] <;> rfl) | (simp [*, errW_none, errW_some] <;> rfl), by repeat (first | (with_reducible first | exact HB.out | apply below_alloc | apply pw_below_drewN | apply below_drew1 | refine below_set ?_ GE328.out) | exact HB.out)⟩
            · rw [if_neg c21] at H
              have c21b0 : (t335 == 0) = false := beq_eq_false_iff_ne.mpr c21
              have c21b1 : (t335 != 0) = true := bne_iff_ne.mpr c21
              obtain rfl := Option.some.inj H
              have hcz32_0 : wc.cell? ⟨gb328, 0, none⟩ = some (.int .i64 a2_0) := (blk_cell BK328.out 0).trans rfl
              have hcz32_1 : wc.cell? ⟨gb328, 1, none⟩ = some (.int .i64 a2_1) := (blk_cell BK328.out 1).trans rfl
              have hfz32_0 := blk_frozen BK328.out 0
              have hfz32_1 := blk_frozen BK328.out 1
              go_wp2_with (first | ((with_reducible refine gate_callee (f := 13) rfl ?_); refine goesL_ (some 56) rfl rfl Try.func13 (by kernel_rfl) rfl #[.int .i64 a0, .int .i64 a2_0, .int .i64 a2_1] rfl (by (try simp only [List.map_toArray, List.map_cons, List.map_nil]); first | done | rfl | (simp only [List.length_drop, List.length_take]; rfl)) ?_; (with_reducible refine (refund_Unused.calls a0 a2_0 a2_1 t334 t335 _ A20.out).mono ?_); rintro e w' ⟨rfl, ⟨nd, rfl⟩⟩; refine ⟨_, rfl, ?_⟩))
              go_ret
              exact ⟨by first | rfl | (simp [errW_none, errW_some] <;> rfl) | (simp [*, errW_none, errW_some] <;> rfl), by repeat (first | (with_reducible first | exact HB.out | apply below_alloc | apply pw_below_drewN | apply below_drew1 | refine below_set ?_ GE328.out) | exact HB.out)⟩
  · replace c5 := Bool.eq_false_iff.mpr c5
    subst c5
    have H1 : (some false) = some r := by rw [if_neg (show ¬ (false = true) by decide)] at H; exact H
    clear H
    have H := H1
    clear H1
    obtain rfl := Option.some.inj H
    go_enter Try.func8, Try.ntmps8
    go_wp2_with (first | ((with_reducible refine gate_dst (N := 5) rfl ?_); refine box_event ?hg (N := 5) ?hd (cs := #[.int .i64 a2_0, .int .i64 a2_1]) (t := 47) ?hr ?_; (case hd => rfl); (case hg => rfl); (case hr => first | (go_simp; done) | (go_simp; rfl)); intro gb328 hg w33 hbox hb; have n0_ := Aside0.mk (below_step (by repeat (first | (with_reducible first | exact HB.out | apply below_alloc | apply pw_below_drewN | apply below_drew1) | exact HB.out)) hb); have n1_ := Aside0.mk (hbox); have n2_ := Aside0.mk ((by rw [hg]; exact (below_size (by repeat (first | (with_reducible first | exact HB.out | apply below_alloc | apply pw_below_drewN | apply below_drew1) | exact HB.out))) : w.heap.size ≤ gb328)); have n3_ := Aside0.mk ((by rw [hg]; exact (below_size (by repeat (first | (with_reducible first | exact HB.out | apply below_alloc | apply pw_below_drewN | apply below_drew1) | exact HB.out))) : w.heap.size ≤ gb328)); clear HB; have HB := n0_; have BK328 := n1_; have GW328 := n2_; have GE328 := n3_; clear n0_ n1_ n2_ n3_; clear hb hbox hg) | ((with_reducible refine gate_callee (f := 10) rfl ?_); refine goesL_ (some 15) rfl rfl Try.func10 (by kernel_rfl) rfl #[] rfl (by (try simp only [List.map_toArray, List.map_cons, List.map_nil]); first | done | rfl | (simp only [List.length_drop, List.length_take]; rfl)) ?_; (with_reducible refine (skiarealaw36_alive.calls k  false _ A4.out).mono ?_); rintro e w34 ⟨rfl, hb⟩; refine ⟨_, rfl, ?_⟩; have n0_ := Aside0.mk (blk_below (g := gb328) (o := .cells #[.int .i64 a2_0, .int .i64 a2_1] 47 (0, 0)) (by (with_reducible repeat (first | refine blk_drewN ?_ _ | refine blk_drew ?_ | refine blk_alloc ?_ _)); exact BK328.out) hb); have n1_ := Aside0.mk (below_step (by repeat (first | (with_reducible first | exact HB.out | apply below_alloc | apply pw_below_drewN | apply below_drew1 | refine below_set ?_ GE328.out) | exact HB.out)) hb); clear BK328; clear HB; have BK328 := n0_; have HB := n1_; clear n0_ n1_; (try clear hb); (try clear hb2); (try clear hk); (try clear hi)))
    go_ret
    exact ⟨by first | rfl | (simp [errW_none, errW_some] <;> rfl) | (simp [*, errW_none, errW_some] <;> rfl), by repeat (first | (with_reducible first | exact HB.out | apply below_alloc | apply pw_below_drewN | apply below_drew1 | refine below_set ?_ GE328.out) | exact HB.out)⟩

end Go.Proofs.Ytfabkiacmbkpmaa.A
