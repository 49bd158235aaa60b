-- PRINTED by print.py (a twelfth state) out of the translation. Not trusted: Lean checks it.
import Derived.Test.YticfgecicmgpeaaAx0
import Derived.Test.YticfgecicmgpeaaAx26
namespace Go.Proofs.Yticfgecicmgpeaa.A
open Go.RowKit Go.Proofs.YticfgecicmgpeaaW.PrintWords Go.Proofs.YticfgecicmgpeaaW.PrintLast Go.Proofs.YticfgecicmgpeaaW.PrintMore
attribute [local go_sem] max2_int min2_int max_two min_two max_three min_three max_four min_four   -- for this text's walks alone
set_option linter.unusedVariables false
set_option linter.unusedSimpArgs false

/-! ### route_alone: function 26 -/
def route_alone.j0 : Nat → List (S34) → Int → Bool → Int → Int → Int → Int → Option (Int × Bool)
 | 0, _, _, _, _, _, _, _ => none
 | k + 1, x0, x8, x42, x187000, x187001, x187002, x187003 => if x42 = true then (some (0, false)) else (if x187002 ≥ 0 then (if x187003 ≥ x187002 then (if 0 ≤ x8 then (if x8 < (x0.length : Int) then (some (x8, ((wrap64 (x187003 - x187002)) == ((rd_T34 x0 x8).f1)))) else (none)) else (none)) else (some (x8, false))) else (some (x8, false)))
def route_alone.f (k : Nat) (l0 : List (S34)) (l1 : List Bool) (a2_0 : Int) (a2_1 : Int) (a2_2 : Int) (a2_3 : Int) : Option (Int × Bool) := (route_task.f l0 a2_1).bind fun t187 => (if t187 < 0 then (route_alone.j0 k l0 t187 true a2_0 a2_1 a2_2 a2_3) else (if a2_0 < 1 then (route_alone.j0 k l0 t187 true a2_0 a2_1 a2_2 a2_3) else (if a2_0 > (l1.length : Int) then (route_alone.j0 k l0 t187 true a2_0 a2_1 a2_2 a2_3) else (if 0 ≤ t187 then (if t187 < (l0.length : Int) then (if (rd_T34 l0 t187).f2 = true then (if 0 ≤ (wrap64 (a2_0 - 1)) then (if (wrap64 (a2_0 - 1)) < (l1.length : Int) then (route_alone.j0 k l0 t187 (!(rdOf false l1 (wrap64 (a2_0 - 1)))) a2_0 a2_1 a2_2 a2_3) else (none)) else (none)) else (route_alone.j0 k l0 t187 false a2_0 a2_1 a2_2 a2_3)) else (none)) else (none)))))
theorem route_alone.mono_l : ∀ k, (∀ y0 y1 y2 y3 y4 y5 y6, LeO (route_alone.j0 k y0 y1 y2 y3 y4 y5 y6) (route_alone.j0 (k + 1) y0 y1 y2 y3 y4 y5 y6))
 | 0 => fun _ _ _ _ _ _ _ r h => by simp [route_alone.j0] at h
 | k + 1 => by
  have ih0 := route_alone.mono_l k
  ·intro y0 y1 y2 y3 y4 y5 y6
   unfold route_alone.j0
   repeat' first
   | (with_reducible exact ih0 _ _ _ _ _ _ _)
   | (with_reducible exact LeO.refl _)
   | (with_reducible exact LeO.none _)
   | (with_reducible refine LeO.ite ?_ ?_)
   | (with_reducible refine LeO.bind ?_ (fun _ => ?_))
   | exact ih0 _ _ _ _ _ _ _
   | exact LeO.none _
   | refine LeO.ite ?_ ?_
   | refine LeO.bind ?_ (fun _ => ?_)
theorem route_alone.mono : ∀ a0 a1 a2 a3 a4 a5 k, LeO (route_alone.f k a0 a1 a2 a3 a4 a5) (route_alone.f (k + 1) a0 a1 a2 a3 a4 a5) := by
 intro a0 a1 a2 a3 a4 a5 k
 have ih0 := route_alone.mono_l k
 unfold route_alone.f
 repeat' first
   | (with_reducible exact ih0 _ _ _ _ _ _ _)
   | (with_reducible exact LeO.refl _)
   | (with_reducible exact LeO.none _)
   | (with_reducible refine LeO.ite ?_ ?_)
   | (with_reducible refine LeO.bind ?_ (fun _ => ?_))
   | exact ih0 _ _ _ _ _ _ _
   | exact LeO.none _
   | refine LeO.ite ?_ ?_
   | refine LeO.bind ?_ (fun _ => ?_)
set_option maxHeartbeats 8000000 in
set_option maxRecDepth 100000 in
theorem route_alone.calls (k : Nat) (A0 : Option Addr) (c0 : Nat) (l0 : List (S34)) (A1 : Option Addr) (c1 : Nat) (l1 : List Bool) (a2_0 : Int) (a2_1 : Int) (a2_2 : Int) (a2_3 : Int) (r1 : Int) (r2 : Bool) (w : World) (hr0 : Kd.C k34 w A0 l0.length l0) (hc0 : l0.length ≤ c0) (hr1 : Kd.C Kd.bool w A1 l1.length l1) (hc1 : l1.length ≤ c1) (h : route_alone.f k l0 l1 a2_0 a2_1 a2_2 a2_3 = some (r1, r2)) :
  Calls Try.prog 26 #[.slice A0 l0.length c0, .slice A1 l1.length c1, .agg #[.int .i64 a2_0, .int .i64 a2_1, .int .i64 a2_2, .int .i64 a2_3]] w fun e w' => e = .returned (.tuple #[.int .i64 r1, .bool r2]) ∧ Below w.heap.size w w' := by
 have hu37 := Try.underlying37
 have HR0 := Aside0.mk hr0
 have HC0 := Aside0.mk hc0
 clear hr0 hc0
 have HR1 := Aside0.mk hr1
 have HC1 := Aside0.mk hc1
 clear hr1 hc1
 have HB := Aside0.mk (Below.refl w.heap.size w)
 have H : ((route_task.f l0 a2_1).bind fun t187 => (if t187 < 0 then (route_alone.j0 k l0 t187 true a2_0 a2_1 a2_2 a2_3) else (if a2_0 < 1 then (route_alone.j0 k l0 t187 true a2_0 a2_1 a2_2 a2_3) else (if a2_0 > (l1.length : Int) then (route_alone.j0 k l0 t187 true a2_0 a2_1 a2_2 a2_3) else (if 0 ≤ t187 then (if t187 < (l0.length : Int) then (if (rd_T34 l0 t187).f2 = true then (if 0 ≤ (wrap64 (a2_0 - 1)) then (if (wrap64 (a2_0 - 1)) < (l1.length : Int) then (route_alone.j0 k l0 t187 (!(rdOf false l1 (wrap64 (a2_0 - 1)))) a2_0 a2_1 a2_2 a2_3) else (none)) else (none)) else (route_alone.j0 k l0 t187 false a2_0 a2_1 a2_2 a2_3)) else (none)) else (none)))))) = some (r1, r2) := h
 clear h
 replace H := Option.bind_eq_some_iff.mp H
 obtain ⟨t187, A40, H⟩ := H
 replace H : (if t187 < 0 then (route_alone.j0 k l0 t187 true a2_0 a2_1 a2_2 a2_3) else (if a2_0 < 1 then (route_alone.j0 k l0 t187 true a2_0 a2_1 a2_2 a2_3) else (if a2_0 > (l1.length : Int) then (route_alone.j0 k l0 t187 true a2_0 a2_1 a2_2 a2_3) else (if 0 ≤ t187 then (if t187 < (l0.length : Int) then (if (rd_T34 l0 t187).f2 = true then (if 0 ≤ (wrap64 (a2_0 - 1)) then (if (wrap64 (a2_0 - 1)) < (l1.length : Int) then (route_alone.j0 k l0 t187 (!(rdOf false l1 (wrap64 (a2_0 - 1)))) a2_0 a2_1 a2_2 a2_3) else (none)) else (none)) else (route_alone.j0 k l0 t187 false a2_0 a2_1 a2_2 a2_3)) else (none)) else (none))))) = some (r1, r2) := H
 have A4 := Aside0.mk A40
 clear A40
 have HC5 := Aside0.mk H
 clear H
 go_enter Try.func26, Try.ntmps26
 go_upto_region 2 with (first | ((with_reducible refine gate_dst (N := 5) rfl ?_); (try (refine gate_guard (by rfl) ?_; dsimp only)); refine box_event ?hg (N := 5) ?hd (cs := #[.int .i64 a2_0, .int .i64 a2_1, .int .i64 a2_2, .int .i64 a2_3]) (t := 37) ?hr ?_; (case hd => rfl); (case hg => rfl); (case hr => first | (go_simp; done) | (go_simp; rfl)); intro gb186 hg w6 hbox hb; have n0_ := Aside0.mk (below_step (by repeat (first | (with_reducible first | exact HB.out | apply below_alloc | apply pw_below_drewN | apply below_drew1) | exact HB.out)) hb); have n1_ := Aside0.mk (hbox); have n2_ := Aside0.mk ((by rw [hg]; exact (below_size (by repeat (first | (with_reducible first | exact HB.out | apply below_alloc | apply pw_below_drewN | apply below_drew1) | exact HB.out))) : w.heap.size ≤ gb186)); have n3_ := Aside0.mk ((by rw [hg]; exact (below_size (by repeat (first | (with_reducible first | exact HB.out | apply below_alloc | apply pw_below_drewN | apply below_drew1) | exact HB.out))) : w.heap.size ≤ gb186)); clear HB; have HB := n0_; have BK186 := n1_; have GW186 := n2_; have GE186 := n3_; clear n0_ n1_ n2_ n3_; clear hb hbox hg; have hcz7_0 : w6.cell? ⟨gb186, 0, none⟩ = some (.int .i64 a2_0) := (blk_cell BK186.out 0).trans rfl; have hcz7_1 : w6.cell? ⟨gb186, 1, none⟩ = some (.int .i64 a2_1) := (blk_cell BK186.out 1).trans rfl; have hcz7_2 : w6.cell? ⟨gb186, 2, none⟩ = some (.int .i64 a2_2) := (blk_cell BK186.out 2).trans rfl; have hcz7_3 : w6.cell? ⟨gb186, 3, none⟩ = some (.int .i64 a2_3) := (blk_cell BK186.out 3).trans rfl; have hfz7_0 := blk_frozen BK186.out 0; have hfz7_1 := blk_frozen BK186.out 1; have hfz7_2 := blk_frozen BK186.out 2; have hfz7_3 := blk_frozen BK186.out 3) | (go_at_call 29; (with_reducible refine (route_task.calls _ _ l0 a2_1 t187 _ ?side1 ?side2 A4.out).mono ?_); (case side1 => repeat (first | exact (Kd.C_below HR0.out HB.out) | (with_reducible refine Kd.C_alloc ?_ _) | (with_reducible refine Kd.C_drewN ?_ _) | (with_reducible refine Kd.C_drew ?_))); (case side2 => exact HC0.out); rintro e w8 ⟨rfl, hb⟩; have n0_ := Aside0.mk (blk_below (g := gb186) (o := .cells #[.int .i64 a2_0, .int .i64 a2_1, .int .i64 a2_2, .int .i64 a2_3] 37 (0, 0)) (by (with_reducible repeat (first | refine blk_drewN ?_ _ | refine blk_drew ?_ | refine blk_alloc ?_ _)); exact BK186.out) hb); have n1_ := Aside0.mk (below_step (by repeat (first | (with_reducible first | exact HB.out | apply below_alloc | apply pw_below_drewN | apply below_drew1 | refine below_set ?_ GE186.out) | exact HB.out)) hb); clear BK186; clear HB; have BK186 := n0_; have HB := n1_; clear n0_ n1_; (try clear hb); (try clear hb2); (try clear hk); (try clear hi)))
 repeat (go_quiet (first | ((with_reducible refine gate_dst (N := 5) rfl ?_); (try (refine gate_guard (by rfl) ?_; dsimp only)); refine box_event ?hg (N := 5) ?hd (cs := #[.int .i64 a2_0, .int .i64 a2_1, .int .i64 a2_2, .int .i64 a2_3]) (t := 37) ?hr ?_; (case hd => rfl); (case hg => rfl); (case hr => first | (go_simp; done) | (go_simp; rfl)); intro gb186 hg w6 hbox hb; have n0_ := Aside0.mk (below_step (by repeat (first | (with_reducible first | exact HB.out | apply below_alloc | apply pw_below_drewN | apply below_drew1) | exact HB.out)) hb); have n1_ := Aside0.mk (hbox); have n2_ := Aside0.mk ((by rw [hg]; exact (below_size (by repeat (first | (with_reducible first | exact HB.out | apply below_alloc | apply pw_below_drewN | apply below_drew1) | exact HB.out))) : w.heap.size ≤ gb186)); have n3_ := Aside0.mk ((by rw [hg]; exact (below_size (by repeat (first | (with_reducible first | exact HB.out | apply below_alloc | apply pw_below_drewN | apply below_drew1) | exact HB.out))) : w.heap.size ≤ gb186)); clear HB; have HB := n0_; have BK186 := n1_; have GW186 := n2_; have GE186 := n3_; clear n0_ n1_ n2_ n3_; clear hb hbox hg; have hcz7_0 : w6.cell? ⟨gb186, 0, none⟩ = some (.int .i64 a2_0) := (blk_cell BK186.out 0).trans rfl; have hcz7_1 : w6.cell? ⟨gb186, 1, none⟩ = some (.int .i64 a2_1) := (blk_cell BK186.out 1).trans rfl; have hcz7_2 : w6.cell? ⟨gb186, 2, none⟩ = some (.int .i64 a2_2) := (blk_cell BK186.out 2).trans rfl; have hcz7_3 : w6.cell? ⟨gb186, 3, none⟩ = some (.int .i64 a2_3) := (blk_cell BK186.out 3).trans rfl; have hfz7_0 := blk_frozen BK186.out 0; have hfz7_1 := blk_frozen BK186.out 1; have hfz7_2 := blk_frozen BK186.out 2; have hfz7_3 := blk_frozen BK186.out 3) | (go_at_call 29; (with_reducible refine (route_task.calls _ _ l0 a2_1 t187 _ ?side1 ?side2 A4.out).mono ?_); (case side1 => repeat (first | exact (Kd.C_below HR0.out HB.out) | (with_reducible refine Kd.C_alloc ?_ _) | (with_reducible refine Kd.C_drewN ?_ _) | (with_reducible refine Kd.C_drew ?_))); (case side2 => exact HC0.out); rintro e w8 ⟨rfl, hb⟩; have n0_ := Aside0.mk (blk_below (g := gb186) (o := .cells #[.int .i64 a2_0, .int .i64 a2_1, .int .i64 a2_2, .int .i64 a2_3] 37 (0, 0)) (by (with_reducible repeat (first | refine blk_drewN ?_ _ | refine blk_drew ?_ | refine blk_alloc ?_ _)); exact BK186.out) hb); have n1_ := Aside0.mk (below_step (by repeat (first | (with_reducible first | exact HB.out | apply below_alloc | apply pw_below_drewN | apply below_drew1 | refine below_set ?_ GE186.out) | exact HB.out)) hb); clear BK186; clear HB; have BK186 := n0_; have HB := n1_; clear n0_ n1_; (try clear hb); (try clear hb2); (try clear hk); (try clear hi))); go_upto_region 2 with (first | ((with_reducible refine gate_dst (N := 5) rfl ?_); (try (refine gate_guard (by rfl) ?_; dsimp only)); refine box_event ?hg (N := 5) ?hd (cs := #[.int .i64 a2_0, .int .i64 a2_1, .int .i64 a2_2, .int .i64 a2_3]) (t := 37) ?hr ?_; (case hd => rfl); (case hg => rfl); (case hr => first | (go_simp; done) | (go_simp; rfl)); intro gb186 hg w6 hbox hb; have n0_ := Aside0.mk (below_step (by repeat (first | (with_reducible first | exact HB.out | apply below_alloc | apply pw_below_drewN | apply below_drew1) | exact HB.out)) hb); have n1_ := Aside0.mk (hbox); have n2_ := Aside0.mk ((by rw [hg]; exact (below_size (by repeat (first | (with_reducible first | exact HB.out | apply below_alloc | apply pw_below_drewN | apply below_drew1) | exact HB.out))) : w.heap.size ≤ gb186)); have n3_ := Aside0.mk ((by rw [hg]; exact (below_size (by repeat (first | (with_reducible first | exact HB.out | apply below_alloc | apply pw_below_drewN | apply below_drew1) | exact HB.out))) : w.heap.size ≤ gb186)); clear HB; have HB := n0_; have BK186 := n1_; have GW186 := n2_; have GE186 := n3_; clear n0_ n1_ n2_ n3_; clear hb hbox hg; have hcz7_0 : w6.cell? ⟨gb186, 0, none⟩ = some (.int .i64 a2_0) := (blk_cell BK186.out 0).trans rfl; have hcz7_1 : w6.cell? ⟨gb186, 1, none⟩ = some (.int .i64 a2_1) := (blk_cell BK186.out 1).trans rfl; have hcz7_2 : w6.cell? ⟨gb186, 2, none⟩ = some (.int .i64 a2_2) := (blk_cell BK186.out 2).trans rfl; have hcz7_3 : w6.cell? ⟨gb186, 3, none⟩ = some (.int .i64 a2_3) := (blk_cell BK186.out 3).trans rfl; have hfz7_0 := blk_frozen BK186.out 0; have hfz7_1 := blk_frozen BK186.out 1; have hfz7_2 := blk_frozen BK186.out 2; have hfz7_3 := blk_frozen BK186.out 3) | (go_at_call 29; (with_reducible refine (route_task.calls _ _ l0 a2_1 t187 _ ?side1 ?side2 A4.out).mono ?_); (case side1 => repeat (first | exact (Kd.C_below HR0.out HB.out) | (with_reducible refine Kd.C_alloc ?_ _) | (with_reducible refine Kd.C_drewN ?_ _) | (with_reducible refine Kd.C_drew ?_))); (case side2 => exact HC0.out); rintro e w8 ⟨rfl, hb⟩; have n0_ := Aside0.mk (blk_below (g := gb186) (o := .cells #[.int .i64 a2_0, .int .i64 a2_1, .int .i64 a2_2, .int .i64 a2_3] 37 (0, 0)) (by (with_reducible repeat (first | refine blk_drewN ?_ _ | refine blk_drew ?_ | refine blk_alloc ?_ _)); exact BK186.out) hb); have n1_ := Aside0.mk (below_step (by repeat (first | (with_reducible first | exact HB.out | apply below_alloc | apply pw_below_drewN | apply below_drew1 | refine below_set ?_ GE186.out) | exact HB.out)) hb); clear BK186; clear HB; have BK186 := n0_; have HB := n1_; clear n0_ n1_; (try clear hb); (try clear hb2); (try clear hk); (try clear hi))))
 (try simp only [Act.put, List.setIfInBounds_toArray, List.set_cons_zero, List.set_cons_succ])
 go_cut [42] (fun v42 wc => ∃ (kq : Nat) (x42_4 : Bool), v42 = .bool x42_4 ∧ Aside0 (route_alone.j0 kq l0 t187 x42_4 a2_0 a2_1 a2_2 a2_3 = some (r1, r2)) ∧ Aside0 (kq ≤ k) ∧ Aside0 (wc.heap[gb186]? = some (.cells #[.int .i64 a2_0, .int .i64 a2_1, .int .i64 a2_2, .int .i64 a2_3] 37 (0, 0))) ∧ Aside0 (Below w.heap.size w wc))
 case first =>
  have H := HC5.out
  clear HC5
  by_cases c9 : t187 < 0
  ·rw [if_pos c9] at H
   have c9b0 : decide (t187 < 0) = true := decide_eq_true c9
   clear c9
   (first | rw [c9b0] | (simp only [i64_w, i32_w]; rw [c9b0]) | skip)
   have H' := Aside0.mk H
   clear H
   go_wp2
   repeat (go_quiet (fail); try go_wp2)
   go_meet
   case rel => exact ⟨_, (true), (by first | rfl | (simp; done) | (simp [*]; done)), H', ⟨by first | omega | exact Nat.le_refl _⟩, ⟨by (with_reducible repeat (first | refine blk_drewN ?_ _ | refine blk_drew ?_ | refine blk_alloc ?_ _)); exact BK186.out⟩, ⟨by repeat (first | (with_reducible first | exact HB.out | apply below_alloc | apply pw_below_drewN | apply below_drew1 | refine below_set ?_ GE186.out) | exact HB.out)⟩⟩
  ·rw [if_neg c9] at H
   have c9b0 : decide (t187 < 0) = false := decide_eq_false c9
   clear c9
   (first | rw [c9b0] | (simp only [i64_w, i32_w]; rw [c9b0]) | skip)
   by_cases c10 : a2_0 < 1
   ·rw [if_pos c10] at H
    have c10b0 : decide (a2_0 < 1) = true := decide_eq_true c10
    clear c10
    have H' := Aside0.mk H
    clear H
    have hcz11_0 : w8.cell? ⟨gb186, 0, none⟩ = some (.int .i64 a2_0) := (blk_cell BK186.out 0).trans rfl
    have hcz11_1 : w8.cell? ⟨gb186, 1, none⟩ = some (.int .i64 a2_1) := (blk_cell BK186.out 1).trans rfl
    have hcz11_2 : w8.cell? ⟨gb186, 2, none⟩ = some (.int .i64 a2_2) := (blk_cell BK186.out 2).trans rfl
    have hcz11_3 : w8.cell? ⟨gb186, 3, none⟩ = some (.int .i64 a2_3) := (blk_cell BK186.out 3).trans rfl
    have hfz11_0 := blk_frozen BK186.out 0
    have hfz11_1 := blk_frozen BK186.out 1
    have hfz11_2 := blk_frozen BK186.out 2
    have hfz11_3 := blk_frozen BK186.out 3
    go_wp2
    repeat (go_quiet (fail); try go_wp2)
    go_meet
    case rel => exact ⟨_, (true), (by first | rfl | (simp; done) | (simp [*]; done)), H', ⟨by first | omega | exact Nat.le_refl _⟩, ⟨by (with_reducible repeat (first | refine blk_drewN ?_ _ | refine blk_drew ?_ | refine blk_alloc ?_ _)); exact BK186.out⟩, ⟨by repeat (first | (with_reducible first | exact HB.out | apply below_alloc | apply pw_below_drewN | apply below_drew1 | refine below_set ?_ GE186.out) | exact HB.out)⟩⟩
   ·rw [if_neg c10] at H
    have c10b0 : decide (a2_0 < 1) = false := decide_eq_false c10
    clear c10
    by_cases c12 : a2_0 > (l1.length : Int)
    ·rw [if_pos c12] at H
     have c12b0 : decide ((l1.length : Int) < a2_0) = true := decide_eq_true c12
     clear c12
     have H' := Aside0.mk H
     clear H
     have hcz13_0 : w8.cell? ⟨gb186, 0, none⟩ = some (.int .i64 a2_0) := (blk_cell BK186.out 0).trans rfl
     have hcz13_1 : w8.cell? ⟨gb186, 1, none⟩ = some (.int .i64 a2_1) := (blk_cell BK186.out 1).trans rfl
     have hcz13_2 : w8.cell? ⟨gb186, 2, none⟩ = some (.int .i64 a2_2) := (blk_cell BK186.out 2).trans rfl
     have hcz13_3 : w8.cell? ⟨gb186, 3, none⟩ = some (.int .i64 a2_3) := (blk_cell BK186.out 3).trans rfl
     have hfz13_0 := blk_frozen BK186.out 0
     have hfz13_1 := blk_frozen BK186.out 1
     have hfz13_2 := blk_frozen BK186.out 2
     have hfz13_3 := blk_frozen BK186.out 3
     go_wp2
     repeat (go_quiet (fail); try go_wp2)
     go_meet
     case rel => exact ⟨_, (true), (by first | rfl | (simp; done) | (simp [*]; done)), H', ⟨by first | omega | exact Nat.le_refl _⟩, ⟨by (with_reducible repeat (first | refine blk_drewN ?_ _ | refine blk_drew ?_ | refine blk_alloc ?_ _)); exact BK186.out⟩, ⟨by repeat (first | (with_reducible first | exact HB.out | apply below_alloc | apply pw_below_drewN | apply below_drew1 | refine below_set ?_ GE186.out) | exact HB.out)⟩⟩
    ·rw [if_neg c12] at H
     have c12b0 : decide ((l1.length : Int) < a2_0) = false := decide_eq_false c12
     clear c12
     by_cases c14 : 0 ≤ t187
     ·rw [if_pos c14] at H
      have c14b0 : decide (0 ≤ t187) = true := decide_eq_true c14
      clear c14
      by_cases c15 : t187 < (l0.length : Int)
      ·rw [if_pos c15] at H
       have c15b0 : decide (t187 < (l0.length : Int)) = true := decide_eq_true c15
       clear c15
       obtain ⟨bq16, hbq16⟩ : ∃ b_ : Bool, b_ = ((rd_T34 l0 t187).f2) := ⟨_, rfl⟩
       replace H : (if bq16 = true then (if 0 ≤ (wrap64 (a2_0 - 1)) then (if (wrap64 (a2_0 - 1)) < (l1.length : Int) then (route_alone.j0 k l0 t187 (!(rdOf false l1 (wrap64 (a2_0 - 1)))) a2_0 a2_1 a2_2 a2_3) else (none)) else (none)) else (route_alone.j0 k l0 t187 false a2_0 a2_1 a2_2 a2_3)) = some (r1, r2) := by rw [← hbq16] at H; exact H
       have Nbq16 := Aside0.mk hbq16
       clear hbq16
       by_cases c17 : bq16 = true
       ·subst c17
        have H1 : (if 0 ≤ (wrap64 (a2_0 - 1)) then (if (wrap64 (a2_0 - 1)) < (l1.length : Int) then (route_alone.j0 k l0 t187 (!(rdOf false l1 (wrap64 (a2_0 - 1)))) a2_0 a2_1 a2_2 a2_3) else (none)) else (none)) = some (r1, r2) := by rw [if_pos rfl] at H; exact H
        clear H
        have H := H1
        clear H1
        obtain ⟨ji18, hji18⟩ : ∃ j_ : Int, (wrap64 (a2_0 - 1)) = j_ := ⟨_, rfl⟩
        replace H : (if 0 ≤ (ji18) then (if (ji18) < (l1.length : Int) then (route_alone.j0 k l0 t187 (!(rdOf false l1 (ji18))) a2_0 a2_1 a2_2 a2_3) else (none)) else (none)) = some (r1, r2) := by first | (rw [hji18] at H; exact H) | (simp only [hji18] at H ⊢; exact H)
        have hji18w : (IntKind.i64.wrap (a2_0 - 1)) = ji18 := (i64_w _).trans hji18
        by_cases c19 : 0 ≤ (ji18)
        ·rw [if_pos c19] at H
         have c19b0 : decide (0 ≤ (ji18)) = true := decide_eq_true c19
         clear c19
         by_cases c20 : (ji18) < (l1.length : Int)
         ·rw [if_pos c20] at H
          have c20b0 : decide ((ji18) < (l1.length : Int)) = true := decide_eq_true c20
          clear c20
          have H' := Aside0.mk H
          clear H
          have hcz21_0 : w8.cell? ⟨gb186, 0, none⟩ = some (.int .i64 a2_0) := (blk_cell BK186.out 0).trans rfl
          have hcz21_1 : w8.cell? ⟨gb186, 1, none⟩ = some (.int .i64 a2_1) := (blk_cell BK186.out 1).trans rfl
          have hcz21_2 : w8.cell? ⟨gb186, 2, none⟩ = some (.int .i64 a2_2) := (blk_cell BK186.out 2).trans rfl
          have hcz21_3 : w8.cell? ⟨gb186, 3, none⟩ = some (.int .i64 a2_3) := (blk_cell BK186.out 3).trans rfl
          have hfz21_0 := blk_frozen BK186.out 0
          have hfz21_1 := blk_frozen BK186.out 1
          have hfz21_2 := blk_frozen BK186.out 2
          have hfz21_3 := blk_frozen BK186.out 3
          have p188 : 0 ≤ (t187 : Int) := of_decide_eq_true (by first | (with_reducible assumption) | assumption)
          have q188 : t187 < (l0.length : Int) := of_decide_eq_true (by first | (with_reducible assumption) | assumption)
          obtain ⟨ad188, A188_3, c188_3, e188, hx188_0, hx188_1, hx188_2, hx188_3, hl188_3, hi188_3⟩ := at_T34 HR0.out t187 p188 q188
          (try rw [← Nbq16.out] at hx188_2)
          cases e188
          replace hx188_0 := (HB.out.cell (World.block_lt_of_cell? w _ hx188_0)).trans hx188_0
          replace hx188_1 := (HB.out.cell (World.block_lt_of_cell? w _ hx188_1)).trans hx188_1
          replace hx188_2 := (HB.out.cell (World.block_lt_of_cell? w _ hx188_2)).trans hx188_2
          replace hx188_3 := (HB.out.cell (World.block_lt_of_cell? w _ hx188_3)).trans hx188_3
          have HR188_3 := Aside0.mk hi188_3
          have HC188_3 := Aside0.mk hl188_3
          clear hi188_3 hl188_3
          replace p188 := eq_true p188
          replace q188 := eq_true q188
          have p189 : 0 ≤ ((ji18) : Int) := of_decide_eq_true (by first | (with_reducible assumption) | assumption)
          have q189 : (ji18) < (l1.length : Int) := of_decide_eq_true (by first | (with_reducible assumption) | assumption)
          obtain ⟨ad189, e189, hx189_0⟩ := Kd.at_bool HR1.out (ji18) p189 q189
          (try rw [← Nbq16.out] at hx189_0)
          cases e189
          replace hx189_0 := (HB.out.cell (World.block_lt_of_cell? w _ hx189_0)).trans hx189_0
          replace p189 := eq_true p189
          replace q189 := eq_true q189
          go_wp2
          repeat (go_quiet (fail); try go_wp2)
          go_meet
          case rel => exact ⟨_, (!(rdOf false l1 (ji18))), (by first | rfl | (simp; done) | (simp only [← hji18] <;> (first | rfl | simp)) | (simp [*]; done)), H', ⟨by first | omega | exact Nat.le_refl _⟩, ⟨by (with_reducible repeat (first | refine blk_drewN ?_ _ | refine blk_drew ?_ | refine blk_alloc ?_ _)); exact BK186.out⟩, ⟨by repeat (first | (with_reducible first | exact HB.out | apply below_alloc | apply pw_below_drewN | apply below_drew1 | refine below_set ?_ GE186.out) | exact HB.out)⟩⟩
         ·rw [if_neg c20] at H
          exact absurd H (by simp)
        ·rw [if_neg c19] at H
         exact absurd H (by simp)
       ·replace c17 := Bool.eq_false_iff.mpr c17
        subst c17
        have H1 : (route_alone.j0 k l0 t187 false a2_0 a2_1 a2_2 a2_3) = some (r1, r2) := by rw [if_neg (show ¬ (false = true) by decide)] at H; exact H
        clear H
        have H := H1
        clear H1
        have H' := Aside0.mk H
        clear H
        have hcz22_0 : w8.cell? ⟨gb186, 0, none⟩ = some (.int .i64 a2_0) := (blk_cell BK186.out 0).trans rfl
        have hcz22_1 : w8.cell? ⟨gb186, 1, none⟩ = some (.int .i64 a2_1) := (blk_cell BK186.out 1).trans rfl
        have hcz22_2 : w8.cell? ⟨gb186, 2, none⟩ = some (.int .i64 a2_2) := (blk_cell BK186.out 2).trans rfl
        have hcz22_3 : w8.cell? ⟨gb186, 3, none⟩ = some (.int .i64 a2_3) := (blk_cell BK186.out 3).trans rfl
        have hfz22_0 := blk_frozen BK186.out 0
        have hfz22_1 := blk_frozen BK186.out 1
        have hfz22_2 := blk_frozen BK186.out 2
        have hfz22_3 := blk_frozen BK186.out 3
        have p188 : 0 ≤ (t187 : Int) := of_decide_eq_true (by first | (with_reducible assumption) | assumption)
        have q188 : t187 < (l0.length : Int) := of_decide_eq_true (by first | (with_reducible assumption) | assumption)
        obtain ⟨ad188, A188_3, c188_3, e188, hx188_0, hx188_1, hx188_2, hx188_3, hl188_3, hi188_3⟩ := at_T34 HR0.out t187 p188 q188
        (try rw [← Nbq16.out] at hx188_2)
        cases e188
        replace hx188_0 := (HB.out.cell (World.block_lt_of_cell? w _ hx188_0)).trans hx188_0
        replace hx188_1 := (HB.out.cell (World.block_lt_of_cell? w _ hx188_1)).trans hx188_1
        replace hx188_2 := (HB.out.cell (World.block_lt_of_cell? w _ hx188_2)).trans hx188_2
        replace hx188_3 := (HB.out.cell (World.block_lt_of_cell? w _ hx188_3)).trans hx188_3
        have HR188_3 := Aside0.mk hi188_3
        have HC188_3 := Aside0.mk hl188_3
        clear hi188_3 hl188_3
        replace p188 := eq_true p188
        replace q188 := eq_true q188
        go_wp2
        repeat (go_quiet (fail); try go_wp2)
        go_meet
        case rel => exact ⟨_, (false), (by first | rfl | (simp; done) | (simp [*]; done)), H', ⟨by first | omega | exact Nat.le_refl _⟩, ⟨by (with_reducible repeat (first | refine blk_drewN ?_ _ | refine blk_drew ?_ | refine blk_alloc ?_ _)); exact BK186.out⟩, ⟨by repeat (first | (with_reducible first | exact HB.out | apply below_alloc | apply pw_below_drewN | apply below_drew1 | refine below_set ?_ GE186.out) | exact HB.out)⟩⟩
      ·rw [if_neg c15] at H
       exact absurd H (by simp)
     ·rw [if_neg c14] at H
      exact absurd H (by simp)
 case rest =>
  clear HC5
  try clear c1
  try clear p1
  try clear q1
  try clear hx1
  try clear c2
  try clear p2
  try clear p6
  try clear c9
  try clear c9b0
  try clear c10
  try clear c10b0
  try clear c12
  try clear c12b0
  try clear c14
  try clear c14b0
  try clear c15
  try clear c15b0
  try clear q16
  try clear c17
  try clear c18
  try clear p18
  try clear q18
  try clear hx18
  try clear c19
  try clear c19b0
  try clear c20
  try clear c20b0
  try clear hcz11_0
  try clear hcz11_1
  try clear hcz11_2
  try clear hcz11_3
  try clear hcz13_0
  try clear hcz13_1
  try clear hcz13_2
  try clear hcz13_3
  try clear hcz21_0
  try clear hcz21_1
  try clear hcz21_2
  try clear hcz21_3
  try clear hcz22_0
  try clear hcz22_1
  try clear hcz22_2
  try clear hcz22_3
  try clear hcz7_0
  try clear hcz7_1
  try clear hcz7_2
  try clear hcz7_3
  try clear hfz11_0
  try clear hfz11_1
  try clear hfz11_2
  try clear hfz11_3
  try clear hfz13_0
  try clear hfz13_1
  try clear hfz13_2
  try clear hfz13_3
  try clear hfz21_0
  try clear hfz21_1
  try clear hfz21_2
  try clear hfz21_3
  try clear hfz22_0
  try clear hfz22_1
  try clear hfz22_2
  try clear hfz22_3
  try clear hfz7_0
  try clear hfz7_1
  try clear hfz7_2
  try clear hfz7_3
  try clear hx188_0
  try clear hx188_1
  try clear hx188_2
  try clear hx188_3
  try clear hx189_0
  try clear p188
  try clear p189
  try clear q188
  try clear q189
  obtain ⟨kq, x42_4, rfl, HA, HJ4, BK186, HB⟩ := hcut
  cases kq with
  | zero => exact absurd HA.out (by simp [route_alone.j0])
  | succ kj4 =>
   have H := HA.out
   clear HA
   simp only [route_alone.j0] at H
   by_cases c23 : x42_4 = true
   ·subst c23
    have H1 : (some (0, false)) = some (r1, r2) := by rw [if_pos rfl] at H; exact H
    clear H
    have H := H1
    clear H1
    simp only [Option.some.injEq, Prod.mk.injEq] at H
    obtain ⟨rfl, rfl⟩ := H
    go_wp2
    repeat (go_quiet (fail); try go_wp2)
    go_ret2
    exact ⟨by first | rfl | (simp [errW_none, errW_some] <;> rfl) | (simp [*, errW_none, errW_some] <;> rfl), by repeat (first | (with_reducible first | exact HB.out | apply below_alloc | apply pw_below_drewN | apply below_drew1 | refine below_set ?_ GE186.out) | exact HB.out)⟩
   ·replace c23 := Bool.eq_false_iff.mpr c23
    subst c23
    have H1 : (if a2_2 ≥ 0 then (if a2_3 ≥ a2_2 then (if 0 ≤ t187 then (if t187 < (l0.length : Int) then (some (t187, ((wrap64 (a2_3 - a2_2)) == ((rd_T34 l0 t187).f1)))) else (none)) else (none)) else (some (t187, false))) else (some (t187, false))) = some (r1, r2) := by rw [if_neg (show ¬ (false = true) by decide)] at H; exact H
    clear H
    have H := H1
    clear H1
    by_cases c24 : a2_2 ≥ 0
    ·rw [if_pos c24] at H
     have c24b0 : decide (0 ≤ a2_2) = true := decide_eq_true c24
     clear c24
     by_cases c25 : a2_3 ≥ a2_2
     ·rw [if_pos c25] at H
      have c25b0 : decide (a2_2 ≤ a2_3) = true := decide_eq_true c25
      clear c25
      by_cases c26 : 0 ≤ t187
      ·rw [if_pos c26] at H
       have c26b0 : decide (0 ≤ t187) = true := decide_eq_true c26
       clear c26
       by_cases c27 : t187 < (l0.length : Int)
       ·rw [if_pos c27] at H
        have c27b0 : decide (t187 < (l0.length : Int)) = true := decide_eq_true c27
        clear c27
        simp only [Option.some.injEq, Prod.mk.injEq] at H
        obtain ⟨rfl, rfl⟩ := H
        have hcz28_0 : wc.cell? ⟨gb186, 0, none⟩ = some (.int .i64 a2_0) := (blk_cell BK186.out 0).trans rfl
        have hcz28_1 : wc.cell? ⟨gb186, 1, none⟩ = some (.int .i64 a2_1) := (blk_cell BK186.out 1).trans rfl
        have hcz28_2 : wc.cell? ⟨gb186, 2, none⟩ = some (.int .i64 a2_2) := (blk_cell BK186.out 2).trans rfl
        have hcz28_3 : wc.cell? ⟨gb186, 3, none⟩ = some (.int .i64 a2_3) := (blk_cell BK186.out 3).trans rfl
        have hfz28_0 := blk_frozen BK186.out 0
        have hfz28_1 := blk_frozen BK186.out 1
        have hfz28_2 := blk_frozen BK186.out 2
        have hfz28_3 := blk_frozen BK186.out 3
        have p190 : 0 ≤ (t187 : Int) := of_decide_eq_true (by first | (with_reducible assumption) | assumption)
        have q190 : t187 < (l0.length : Int) := of_decide_eq_true (by first | (with_reducible assumption) | assumption)
        obtain ⟨ad190, A190_3, c190_3, e190, hx190_0, hx190_1, hx190_2, hx190_3, hl190_3, hi190_3⟩ := at_T34 HR0.out t187 p190 q190
        cases e190
        replace hx190_0 := (HB.out.cell (World.block_lt_of_cell? w _ hx190_0)).trans hx190_0
        replace hx190_1 := (HB.out.cell (World.block_lt_of_cell? w _ hx190_1)).trans hx190_1
        replace hx190_2 := (HB.out.cell (World.block_lt_of_cell? w _ hx190_2)).trans hx190_2
        replace hx190_3 := (HB.out.cell (World.block_lt_of_cell? w _ hx190_3)).trans hx190_3
        have HR190_3 := Aside0.mk hi190_3
        have HC190_3 := Aside0.mk hl190_3
        clear hi190_3 hl190_3
        replace p190 := eq_true p190
        replace q190 := eq_true q190
        go_wp2
        repeat (go_quiet (fail); try go_wp2)
        go_ret2
        exact ⟨by first | rfl | (simp [errW_none, errW_some] <;> rfl) | (simp [*, errW_none, errW_some] <;> rfl), by repeat (first | (with_reducible first | exact HB.out | apply below_alloc | apply pw_below_drewN | apply below_drew1 | refine below_set ?_ GE186.out) | exact HB.out)⟩
       ·rw [if_neg c27] at H
        exact absurd H (by simp)
      ·rw [if_neg c26] at H
       exact absurd H (by simp)
     ·rw [if_neg c25] at H
      have c25b0 : decide (a2_2 ≤ a2_3) = false := decide_eq_false c25
      clear c25
      simp only [Option.some.injEq, Prod.mk.injEq] at H
      obtain ⟨rfl, rfl⟩ := H
      have hcz29_0 : wc.cell? ⟨gb186, 0, none⟩ = some (.int .i64 a2_0) := (blk_cell BK186.out 0).trans rfl
      have hcz29_1 : wc.cell? ⟨gb186, 1, none⟩ = some (.int .i64 a2_1) := (blk_cell BK186.out 1).trans rfl
      have hcz29_2 : wc.cell? ⟨gb186, 2, none⟩ = some (.int .i64 a2_2) := (blk_cell BK186.out 2).trans rfl
      have hcz29_3 : wc.cell? ⟨gb186, 3, none⟩ = some (.int .i64 a2_3) := (blk_cell BK186.out 3).trans rfl
      have hfz29_0 := blk_frozen BK186.out 0
      have hfz29_1 := blk_frozen BK186.out 1
      have hfz29_2 := blk_frozen BK186.out 2
      have hfz29_3 := blk_frozen BK186.out 3
      go_wp2
      repeat (go_quiet (fail); try go_wp2)
      go_ret2
      exact ⟨by first | rfl | (simp [errW_none, errW_some] <;> rfl) | (simp [*, errW_none, errW_some] <;> rfl), by repeat (first | (with_reducible first | exact HB.out | apply below_alloc | apply pw_below_drewN | apply below_drew1 | refine below_set ?_ GE186.out) | exact HB.out)⟩
    ·rw [if_neg c24] at H
     have c24b0 : decide (0 ≤ a2_2) = false := decide_eq_false c24
     clear c24
     simp only [Option.some.injEq, Prod.mk.injEq] at H
     obtain ⟨rfl, rfl⟩ := H
     have hcz30_0 : wc.cell? ⟨gb186, 0, none⟩ = some (.int .i64 a2_0) := (blk_cell BK186.out 0).trans rfl
     have hcz30_1 : wc.cell? ⟨gb186, 1, none⟩ = some (.int .i64 a2_1) := (blk_cell BK186.out 1).trans rfl
     have hcz30_2 : wc.cell? ⟨gb186, 2, none⟩ = some (.int .i64 a2_2) := (blk_cell BK186.out 2).trans rfl
     have hcz30_3 : wc.cell? ⟨gb186, 3, none⟩ = some (.int .i64 a2_3) := (blk_cell BK186.out 3).trans rfl
     have hfz30_0 := blk_frozen BK186.out 0
     have hfz30_1 := blk_frozen BK186.out 1
     have hfz30_2 := blk_frozen BK186.out 2
     have hfz30_3 := blk_frozen BK186.out 3
     go_wp2
     repeat (go_quiet (fail); try go_wp2)
     go_ret2
     exact ⟨by first | rfl | (simp [errW_none, errW_some] <;> rfl) | (simp [*, errW_none, errW_some] <;> rfl), by repeat (first | (with_reducible first | exact HB.out | apply below_alloc | apply pw_below_drewN | apply below_drew1 | refine below_set ?_ GE186.out) | exact HB.out)⟩

end Go.Proofs.Yticfgecicmgpeaa.A
