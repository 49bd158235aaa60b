-- PRINTED by print.py (a twelfth state) out of the translation. Not trusted: Lean checks it.
import Derived.Test.YtfabkiacmbkpmaaAx0
import Derived.Test.YtfabkiacmbkpmaaAx9
import Derived.Test.YtfabkiacmbkpmaaAx12
namespace Go.Proofs.Ytfabkiacmbkpmaa.A
open Go.RowKit Go.Proofs.YtfabkiacmbkpmaaW.PrintWords Go.Proofs.YtfabkiacmbkpmaaW.PrintLast Go.Proofs.YtfabkiacmbkpmaaW.PrintMore
attribute [local go_sem] max2_int min2_int max_two min_two max_three min_three max_four min_four   -- for this text's walks alone
set_option linter.unusedVariables false
set_option linter.unusedSimpArgs false

/-! ### skiarearef10_runs: function 31 -/
mutual
def skiarearef10_runs.l0 : Nat → Int → List (S53) → List (S50) → List (S66) → List Int → Option (Int)
 | 0, _, _, _, _, _ => none
 | k + 1, x3, x176000, x176001, x176002, x176003 => if x3 < (x176002.length : Int) then (if 0 ≤ x3 then ((skiarearef10_in.f ((rd_T66 x176002 x3).f0) 1 9999).bind fun t178 => (if t178 = true then ((skiarearef10_in.f ((rd_T66 x176002 x3).f1) 1 8).bind fun t179 => (if t179 = true then ((skiarearef10_in.f ((rd_T66 x176002 x3).f4) 1 4).bind fun t180 => (if t180 = true then ((skiarearef10_in.f ((rd_T66 x176002 x3).f5) 1 32).bind fun t181 => (if t181 = true then ((skiarearef10_in.f ((rd_T66 x176002 x3).f6) 10 20000).bind fun t182 => (skiarearef10_runs.j1 k x3 (!t182) x176000 x176001 x176002 x176003 ((rd_T66 x176002 x3).f0) ((rd_T66 x176002 x3).f1) ((rd_T66 x176002 x3).f2) ((rd_T66 x176002 x3).f3) ((rd_T66 x176002 x3).f4) ((rd_T66 x176002 x3).f5) ((rd_T66 x176002 x3).f6))) else (skiarearef10_runs.j1 k x3 true x176000 x176001 x176002 x176003 ((rd_T66 x176002 x3).f0) ((rd_T66 x176002 x3).f1) ((rd_T66 x176002 x3).f2) ((rd_T66 x176002 x3).f3) ((rd_T66 x176002 x3).f4) ((rd_T66 x176002 x3).f5) ((rd_T66 x176002 x3).f6)))) else (skiarearef10_runs.j1 k x3 true x176000 x176001 x176002 x176003 ((rd_T66 x176002 x3).f0) ((rd_T66 x176002 x3).f1) ((rd_T66 x176002 x3).f2) ((rd_T66 x176002 x3).f3) ((rd_T66 x176002 x3).f4) ((rd_T66 x176002 x3).f5) ((rd_T66 x176002 x3).f6)))) else (skiarearef10_runs.j1 k x3 true x176000 x176001 x176002 x176003 ((rd_T66 x176002 x3).f0) ((rd_T66 x176002 x3).f1) ((rd_T66 x176002 x3).f2) ((rd_T66 x176002 x3).f3) ((rd_T66 x176002 x3).f4) ((rd_T66 x176002 x3).f5) ((rd_T66 x176002 x3).f6)))) else (skiarearef10_runs.j1 k x3 true x176000 x176001 x176002 x176003 ((rd_T66 x176002 x3).f0) ((rd_T66 x176002 x3).f1) ((rd_T66 x176002 x3).f2) ((rd_T66 x176002 x3).f3) ((rd_T66 x176002 x3).f4) ((rd_T66 x176002 x3).f5) ((rd_T66 x176002 x3).f6)))) else (none)) else (some 0)
def skiarearef10_runs.j1 : Nat → Int → Bool → List (S53) → List (S50) → List (S66) → List Int → Int → Int → Int → Int → Int → Int → Int → Option (Int)
 | 0, _, _, _, _, _, _, _, _, _, _, _, _, _ => none
 | k + 1, x3, x45, x176000, x176001, x176002, x176003, x178000, x178001, x178002, x178003, x178004, x178005, x178006 => if x45 = true then (some 2) else (if x3 > 0 then (if 0 ≤ (wrap64 (x3 - 1)) then (if (wrap64 (x3 - 1)) < (x176002.length : Int) then (skiarearef10_runs.j2 k x3 (decide (x178000 ≤ ((rd_T66 x176002 (wrap64 (x3 - 1))).f0))) x176000 x176001 x176002 x176003 x178000 x178001 x178002 x178003 x178004 x178005 x178006) else (none)) else (none)) else (skiarearef10_runs.j2 k x3 false x176000 x176001 x176002 x176003 x178000 x178001 x178002 x178003 x178004 x178005 x178006))
def skiarearef10_runs.j2 : Nat → Int → Bool → List (S53) → List (S50) → List (S66) → List Int → Int → Int → Int → Int → Int → Int → Int → Option (Int)
 | 0, _, _, _, _, _, _, _, _, _, _, _, _, _ => none
 | k + 1, x3, x59, x176000, x176001, x176002, x176003, x178000, x178001, x178002, x178003, x178004, x178005, x178006 => if x59 = true then (some 7) else ((skiarearef10_rises.f k x176000 x176001 x176002 x176003 x178003 x178002).bind fun t184 => (if t184 = 0 then (skiarearef10_runs.l0 k (wrap64 (x3 + 1)) x176000 x176001 x176002 x176003) else (some t184)))
end
def skiarearef10_runs.f (k : Nat) (l0_0 : List (S53)) (l0_1 : List (S50)) (l0_2 : List (S66)) (l0_3 : List Int) : Option (Int) := skiarearef10_runs.l0 k 0 l0_0 l0_1 l0_2 l0_3
theorem skiarearef10_runs.mono_l : ∀ k, (∀ y0 y1 y2 y3 y4, LeO (skiarearef10_runs.l0 k y0 y1 y2 y3 y4) (skiarearef10_runs.l0 (k + 1) y0 y1 y2 y3 y4)) ∧ (∀ y0 y1 y2 y3 y4 y5 y6 y7 y8 y9 y10 y11 y12, LeO (skiarearef10_runs.j1 k y0 y1 y2 y3 y4 y5 y6 y7 y8 y9 y10 y11 y12) (skiarearef10_runs.j1 (k + 1) y0 y1 y2 y3 y4 y5 y6 y7 y8 y9 y10 y11 y12)) ∧ (∀ y0 y1 y2 y3 y4 y5 y6 y7 y8 y9 y10 y11 y12, LeO (skiarearef10_runs.j2 k y0 y1 y2 y3 y4 y5 y6 y7 y8 y9 y10 y11 y12) (skiarearef10_runs.j2 (k + 1) y0 y1 y2 y3 y4 y5 y6 y7 y8 y9 y10 y11 y12))
 | 0 => ⟨fun _ _ _ _ _ r h => by simp [skiarearef10_runs.l0] at h, fun _ _ _ _ _ _ _ _ _ _ _ _ _ r h => by simp [skiarearef10_runs.j1] at h, fun _ _ _ _ _ _ _ _ _ _ _ _ _ r h => by simp [skiarearef10_runs.j2] at h⟩
 | k + 1 => by
  obtain ⟨ih0, ih1, ih2⟩ := skiarearef10_runs.mono_l k
  refine ⟨?_, ?_, ?_⟩
  ·intro y0 y1 y2 y3 y4
   unfold skiarearef10_runs.l0
   repeat' first
   | (with_reducible exact ih0 _ _ _ _ _)
   | (with_reducible exact ih1 _ _ _ _ _ _ _ _ _ _ _ _ _)
   | (with_reducible exact ih2 _ _ _ _ _ _ _ _ _ _ _ _ _)
   | (with_reducible exact skiarearef10_rises.mono _ _ _ _ _ _ _)
   | (with_reducible exact LeO.refl _)
   | (with_reducible exact LeO.none _)
   | (with_reducible refine LeO.ite ?_ ?_)
   | (with_reducible refine LeO.bind ?_ (fun _ => ?_))
   | exact ih0 _ _ _ _ _
   | exact ih1 _ _ _ _ _ _ _ _ _ _ _ _ _
   | exact ih2 _ _ _ _ _ _ _ _ _ _ _ _ _
   | exact skiarearef10_rises.mono _ _ _ _ _ _ _
   | exact LeO.none _
   | refine LeO.ite ?_ ?_
   | refine LeO.bind ?_ (fun _ => ?_)
  ·intro y0 y1 y2 y3 y4 y5 y6 y7 y8 y9 y10 y11 y12
   unfold skiarearef10_runs.j1
   repeat' first
   | (with_reducible exact ih0 _ _ _ _ _)
   | (with_reducible exact ih1 _ _ _ _ _ _ _ _ _ _ _ _ _)
   | (with_reducible exact ih2 _ _ _ _ _ _ _ _ _ _ _ _ _)
   | (with_reducible exact skiarearef10_rises.mono _ _ _ _ _ _ _)
   | (with_reducible exact LeO.refl _)
   | (with_reducible exact LeO.none _)
   | (with_reducible refine LeO.ite ?_ ?_)
   | (with_reducible refine LeO.bind ?_ (fun _ => ?_))
   | exact ih0 _ _ _ _ _
   | exact ih1 _ _ _ _ _ _ _ _ _ _ _ _ _
   | exact ih2 _ _ _ _ _ _ _ _ _ _ _ _ _
   | exact skiarearef10_rises.mono _ _ _ _ _ _ _
   | exact LeO.none _
   | refine LeO.ite ?_ ?_
   | refine LeO.bind ?_ (fun _ => ?_)
  ·intro y0 y1 y2 y3 y4 y5 y6 y7 y8 y9 y10 y11 y12
   unfold skiarearef10_runs.j2
   repeat' first
   | (with_reducible exact ih0 _ _ _ _ _)
   | (with_reducible exact ih1 _ _ _ _ _ _ _ _ _ _ _ _ _)
   | (with_reducible exact ih2 _ _ _ _ _ _ _ _ _ _ _ _ _)
   | (with_reducible exact skiarearef10_rises.mono _ _ _ _ _ _ _)
   | (with_reducible exact LeO.refl _)
   | (with_reducible exact LeO.none _)
   | (with_reducible refine LeO.ite ?_ ?_)
   | (with_reducible refine LeO.bind ?_ (fun _ => ?_))
   | exact ih0 _ _ _ _ _
   | exact ih1 _ _ _ _ _ _ _ _ _ _ _ _ _
   | exact ih2 _ _ _ _ _ _ _ _ _ _ _ _ _
   | exact skiarearef10_rises.mono _ _ _ _ _ _ _
   | exact LeO.none _
   | refine LeO.ite ?_ ?_
   | refine LeO.bind ?_ (fun _ => ?_)
theorem skiarearef10_runs.mono : ∀ a0 a1 a2 a3 k, LeO (skiarearef10_runs.f k a0 a1 a2 a3) (skiarearef10_runs.f (k + 1) a0 a1 a2 a3) := by
 intro a0 a1 a2 a3 k
 obtain ⟨ih0, ih1, ih2⟩ := skiarearef10_runs.mono_l k
 unfold skiarearef10_runs.f
 repeat' first
   | (with_reducible exact ih0 _ _ _ _ _)
   | (with_reducible exact ih1 _ _ _ _ _ _ _ _ _ _ _ _ _)
   | (with_reducible exact ih2 _ _ _ _ _ _ _ _ _ _ _ _ _)
   | (with_reducible exact skiarearef10_rises.mono _ _ _ _ _ _ _)
   | (with_reducible exact LeO.refl _)
   | (with_reducible exact LeO.none _)
   | (with_reducible refine LeO.ite ?_ ?_)
   | (with_reducible refine LeO.bind ?_ (fun _ => ?_))
   | exact ih0 _ _ _ _ _
   | exact ih1 _ _ _ _ _ _ _ _ _ _ _ _ _
   | exact ih2 _ _ _ _ _ _ _ _ _ _ _ _ _
   | exact skiarearef10_rises.mono _ _ _ _ _ _ _
   | exact LeO.none _
   | refine LeO.ite ?_ ?_
   | refine LeO.bind ?_ (fun _ => ?_)
set_option maxHeartbeats 8000000 in
set_option maxRecDepth 100000 in
theorem skiarearef10_runs.calls (k : Nat) (A0_0 : Option Addr) (c0_0 : Nat) (l0_0 : List (S53)) (A0_1 : Option Addr) (c0_1 : Nat) (l0_1 : List (S50)) (A0_2 : Option Addr) (c0_2 : Nat) (l0_2 : List (S66)) (A0_3 : Option Addr) (c0_3 : Nat) (l0_3 : List Int) (r : Int) (w : World) (hr0_0 : Kd.C k53 w A0_0 l0_0.length l0_0) (hc0_0 : l0_0.length ≤ c0_0) (hr0_1 : Kd.C k50 w A0_1 l0_1.length l0_1) (hc0_1 : l0_1.length ≤ c0_1) (hr0_2 : Kd.C k66 w A0_2 l0_2.length l0_2) (hc0_2 : l0_2.length ≤ c0_2) (hr0_3 : Kd.C (Kd.int .i64) w A0_3 l0_3.length l0_3) (hc0_3 : l0_3.length ≤ c0_3) (h : skiarearef10_runs.f k l0_0 l0_1 l0_2 l0_3 = some r) :
  Calls Try.prog 31 #[.agg #[.slice A0_0 l0_0.length c0_0, .slice A0_1 l0_1.length c0_1, .slice A0_2 l0_2.length c0_2, .slice A0_3 l0_3.length c0_3]] w fun e w' => e = .returned (.int .i64 r) ∧ Below w.heap.size w w' := by
 have hu36 := Try.underlying36
 have hu66 := Try.underlying66
 have HR0_0 := Aside0.mk hr0_0
 have HC0_0 := Aside0.mk hc0_0
 clear hr0_0 hc0_0
 have HR0_1 := Aside0.mk hr0_1
 have HC0_1 := Aside0.mk hc0_1
 clear hr0_1 hc0_1
 have HR0_2 := Aside0.mk hr0_2
 have HC0_2 := Aside0.mk hc0_2
 clear hr0_2 hc0_2
 have HR0_3 := Aside0.mk hr0_3
 have HC0_3 := Aside0.mk hc0_3
 clear hr0_3 hc0_3
 have HB := Aside0.mk (Below.refl w.heap.size w)
 have H : (skiarearef10_runs.l0 k 0 l0_0 l0_1 l0_2 l0_3) = some r := h
 clear h
 have H' := Aside0.mk H
 clear H
 go_enter Try.func31, Try.ntmps31
 go_wp2_with (first | ((with_reducible refine gate_dst (N := 1) rfl ?_); refine box_event ?hg (N := 1) ?hd (cs := #[.slice A0_0 l0_0.length c0_0, .slice A0_1 l0_1.length c0_1, .slice A0_2 l0_2.length c0_2, .slice A0_3 l0_3.length c0_3]) (t := 36) ?hr ?_; (case hd => rfl); (case hg => rfl); (case hr => first | (go_simp; done) | (go_simp; rfl)); intro gb175 hg w2 hbox hb; have n0_ := Aside0.mk (below_step (by repeat (first | (with_reducible first | exact HB.out | apply below_alloc | apply pw_below_drewN | apply below_drew1) | exact HB.out)) hb); have n1_ := Aside0.mk (hbox); have n2_ := Aside0.mk ((by rw [hg]; exact (below_size (by repeat (first | (with_reducible first | exact HB.out | apply below_alloc | apply pw_below_drewN | apply below_drew1) | exact HB.out))) : w.heap.size ≤ gb175)); have n3_ := Aside0.mk ((by rw [hg]; exact (below_size (by repeat (first | (with_reducible first | exact HB.out | apply below_alloc | apply pw_below_drewN | apply below_drew1) | exact HB.out))) : w.heap.size ≤ gb175)); clear HB; have HB := n0_; have BK175 := n1_; have GW175 := n2_; have GE175 := n3_; clear n0_ n1_ n2_ n3_; clear hb hbox hg))
 repeat (go_quiet (first | ((with_reducible refine gate_dst (N := 1) rfl ?_); refine box_event ?hg (N := 1) ?hd (cs := #[.slice A0_0 l0_0.length c0_0, .slice A0_1 l0_1.length c0_1, .slice A0_2 l0_2.length c0_2, .slice A0_3 l0_3.length c0_3]) (t := 36) ?hr ?_; (case hd => rfl); (case hg => rfl); (case hr => first | (go_simp; done) | (go_simp; rfl)); intro gb175 hg w2 hbox hb; have n0_ := Aside0.mk (below_step (by repeat (first | (with_reducible first | exact HB.out | apply below_alloc | apply pw_below_drewN | apply below_drew1) | exact HB.out)) hb); have n1_ := Aside0.mk (hbox); have n2_ := Aside0.mk ((by rw [hg]; exact (below_size (by repeat (first | (with_reducible first | exact HB.out | apply below_alloc | apply pw_below_drewN | apply below_drew1) | exact HB.out))) : w.heap.size ≤ gb175)); have n3_ := Aside0.mk ((by rw [hg]; exact (below_size (by repeat (first | (with_reducible first | exact HB.out | apply below_alloc | apply pw_below_drewN | apply below_drew1) | exact HB.out))) : w.heap.size ≤ gb175)); clear HB; have HB := n0_; have BK175 := n1_; have GW175 := n2_; have GE175 := n3_; clear n0_ n1_ n2_ n3_; clear hb hbox hg)); try go_wp2_with (first | ((with_reducible refine gate_dst (N := 1) rfl ?_); refine box_event ?hg (N := 1) ?hd (cs := #[.slice A0_0 l0_0.length c0_0, .slice A0_1 l0_1.length c0_1, .slice A0_2 l0_2.length c0_2, .slice A0_3 l0_3.length c0_3]) (t := 36) ?hr ?_; (case hd => rfl); (case hg => rfl); (case hr => first | (go_simp; done) | (go_simp; rfl)); intro gb175 hg w2 hbox hb; have n0_ := Aside0.mk (below_step (by repeat (first | (with_reducible first | exact HB.out | apply below_alloc | apply pw_below_drewN | apply below_drew1) | exact HB.out)) hb); have n1_ := Aside0.mk (hbox); have n2_ := Aside0.mk ((by rw [hg]; exact (below_size (by repeat (first | (with_reducible first | exact HB.out | apply below_alloc | apply pw_below_drewN | apply below_drew1) | exact HB.out))) : w.heap.size ≤ gb175)); have n3_ := Aside0.mk ((by rw [hg]; exact (below_size (by repeat (first | (with_reducible first | exact HB.out | apply below_alloc | apply pw_below_drewN | apply below_drew1) | exact HB.out))) : w.heap.size ≤ gb175)); clear HB; have HB := n0_; have BK175 := n1_; have GW175 := n2_; have GE175 := n3_; clear n0_ n1_ n2_ n3_; clear hb hbox hg)))
 go_loopg [3] k (fun kq v3 w' => ∃ (x3_1 : Int), v3 = .int .i64 x3_1 ∧ Aside0 (skiarearef10_runs.l0 kq x3_1 l0_0 l0_1 l0_2 l0_3 = some r) ∧ Aside0 (kq ≤ k) ∧ Aside0 (w'.heap[gb175]? = some (.cells #[(.slice A0_0 l0_0.length c0_0), (.slice A0_1 l0_1.length c0_1), (.slice A0_2 l0_2.length c0_2), (.slice A0_3 l0_3.length c0_3)] 36 (0, 0))) ∧ Aside0 (Below w.heap.size w w'))
 case atStart => exact ⟨(0), (by first | rfl | (simp; done) | (simp [*]; done)), H', ⟨Nat.le_refl _⟩, ⟨by (with_reducible repeat (first | refine blk_drewN ?_ _ | refine blk_drew ?_ | refine blk_alloc ?_ _)); exact BK175.out⟩, ⟨by repeat (first | (with_reducible first | exact HB.out | apply below_alloc | apply pw_below_drewN | apply below_drew1 | refine below_set ?_ GE175.out) | exact HB.out)⟩⟩
 case round =>
  clear H'
  try clear p2
  obtain ⟨x3_1, rfl, HA, HK1, BK175, HB⟩ := hrel
  cases gk with
  | zero => exact absurd HA.out (by simp [skiarearef10_runs.l0])
  | succ k1 =>
   have H := HA.out
   clear HA
   simp only [skiarearef10_runs.l0] at H
   by_cases c3 : x3_1 < (l0_2.length : Int)
   ·rw [if_pos c3] at H
    have c3b0 : decide (x3_1 < (l0_2.length : Int)) = true := decide_eq_true c3
    clear c3
    by_cases c4 : 0 ≤ x3_1
    ·rw [if_pos c4] at H
     have c4b0 : decide (0 ≤ x3_1) = true := decide_eq_true c4
     clear c4
     have HC5 := Aside0.mk H
     clear H
     have hcz6_0 : wr.cell? ⟨gb175, 0, none⟩ = some (.slice A0_0 l0_0.length c0_0) := (blk_cell BK175.out 0).trans rfl
     have hcz6_1 : wr.cell? ⟨gb175, 1, none⟩ = some (.slice A0_1 l0_1.length c0_1) := (blk_cell BK175.out 1).trans rfl
     have hcz6_2 : wr.cell? ⟨gb175, 2, none⟩ = some (.slice A0_2 l0_2.length c0_2) := (blk_cell BK175.out 2).trans rfl
     have hcz6_3 : wr.cell? ⟨gb175, 3, none⟩ = some (.slice A0_3 l0_3.length c0_3) := (blk_cell BK175.out 3).trans rfl
     have hfz6_0 := blk_frozen BK175.out 0
     have hfz6_1 := blk_frozen BK175.out 1
     have hfz6_2 := blk_frozen BK175.out 2
     have hfz6_3 := blk_frozen BK175.out 3
     have p176 : 0 ≤ (x3_1 : Int) := of_decide_eq_true (by first | (with_reducible assumption) | assumption)
     have q176 : x3_1 < (l0_2.length : Int) := of_decide_eq_true (by first | (with_reducible assumption) | assumption)
     obtain ⟨ad176, e176, hx176_0, hx176_1, hx176_2, hx176_3, hx176_4, hx176_5, hx176_6⟩ := at_T66 HR0_2.out x3_1 p176 q176
     cases e176
     replace hx176_0 := (HB.out.cell (World.block_lt_of_cell? w _ hx176_0)).trans hx176_0
     replace hx176_1 := (HB.out.cell (World.block_lt_of_cell? w _ hx176_1)).trans hx176_1
     replace hx176_2 := (HB.out.cell (World.block_lt_of_cell? w _ hx176_2)).trans hx176_2
     replace hx176_3 := (HB.out.cell (World.block_lt_of_cell? w _ hx176_3)).trans hx176_3
     replace hx176_4 := (HB.out.cell (World.block_lt_of_cell? w _ hx176_4)).trans hx176_4
     replace hx176_5 := (HB.out.cell (World.block_lt_of_cell? w _ hx176_5)).trans hx176_5
     replace hx176_6 := (HB.out.cell (World.block_lt_of_cell? w _ hx176_6)).trans hx176_6
     replace p176 := eq_true p176
     replace q176 := eq_true q176
     go_upto_region 5 with (first | ((with_reducible refine gate_dst (N := 4) rfl ?_); refine box_event ?hg (N := 4) ?hd (cs := #[.int .i64 0, .int .i64 0, .int .i64 0, .int .i64 0, .int .i64 0, .int .i64 0, .int .i64 0]) (t := 66) ?hr ?_; (case hd => rfl); (case hg => rfl); (case hr => first | (go_simp; done) | (go_simp; rfl)); intro gb177 hg w7 hbox hb; have n0_ := Aside0.mk (blk_below (g := gb175) (o := .cells #[.slice A0_0 l0_0.length c0_0, .slice A0_1 l0_1.length c0_1, .slice (some ad176) l0_2.length c0_2, .slice A0_3 l0_3.length c0_3] 36 (0, 0)) (by (with_reducible repeat (first | refine blk_drewN ?_ _ | refine blk_drew ?_ | refine blk_alloc ?_ _)); exact BK175.out) hb); have n1_ := Aside0.mk (below_step (by repeat (first | (with_reducible first | exact HB.out | apply below_alloc | apply pw_below_drewN | apply below_drew1 | refine below_set ?_ GE175.out) | exact HB.out)) hb); have n2_ := Aside0.mk (hbox); have n3_ := Aside0.mk ((by rw [hg]; exact (below_size (by repeat (first | (with_reducible first | exact HB.out | apply below_alloc | apply pw_below_drewN | apply below_drew1 | refine below_set ?_ GE175.out) | exact HB.out))) : w.heap.size ≤ gb177)); have n4_ := Aside0.mk ((by rw [hg]; exact (below_size (by repeat (first | (with_reducible first | exact HB.out | apply below_alloc | apply pw_below_drewN | apply below_drew1 | refine below_set ?_ GE175.out) | exact HB.out))) : w.heap.size ≤ gb177)); have n5_ := Aside0.mk ((by rw [hg]; exact Nat.ne_of_lt (blk_lt (g := gb175) (o := .cells #[.slice A0_0 l0_0.length c0_0, .slice A0_1 l0_1.length c0_1, .slice (some ad176) l0_2.length c0_2, .slice A0_3 l0_3.length c0_3] 36 (0, 0)) (by (with_reducible repeat (first | refine blk_drewN ?_ _ | refine blk_drew ?_ | refine blk_alloc ?_ _)); exact BK175.out)) : gb175 ≠ gb177)); have n6_ := Aside0.mk ((by rw [hg]; exact Nat.ne_of_gt (blk_lt (g := gb175) (o := .cells #[.slice A0_0 l0_0.length c0_0, .slice A0_1 l0_1.length c0_1, .slice (some ad176) l0_2.length c0_2, .slice A0_3 l0_3.length c0_3] 36 (0, 0)) (by (with_reducible repeat (first | refine blk_drewN ?_ _ | refine blk_drew ?_ | refine blk_alloc ?_ _)); exact BK175.out)) : gb177 ≠ gb175)); clear BK175; clear HB; have BK175 := n0_; have HB := n1_; have BK177 := n2_; have GW177 := n3_; have GE177 := n4_; have NB175_177 := n5_; have NB177_175 := n6_; clear n0_ n1_ n2_ n3_ n4_ n5_ n6_; clear hb hbox hg; have hnb8 := NB177_175.out; have hnc8 := NB175_177.out; have hcz9_0 : w7.cell? ⟨gb177, 0, none⟩ = some (.int .i64 0) := (blk_cell BK177.out 0).trans rfl; have hcz9_1 : w7.cell? ⟨gb177, 1, none⟩ = some (.int .i64 0) := (blk_cell BK177.out 1).trans rfl; have hcz9_2 : w7.cell? ⟨gb177, 2, none⟩ = some (.int .i64 0) := (blk_cell BK177.out 2).trans rfl; have hcz9_3 : w7.cell? ⟨gb177, 3, none⟩ = some (.int .i64 0) := (blk_cell BK177.out 3).trans rfl; have hcz9_4 : w7.cell? ⟨gb177, 4, none⟩ = some (.int .i64 0) := (blk_cell BK177.out 4).trans rfl; have hcz9_5 : w7.cell? ⟨gb177, 5, none⟩ = some (.int .i64 0) := (blk_cell BK177.out 5).trans rfl; have hcz9_6 : w7.cell? ⟨gb177, 6, none⟩ = some (.int .i64 0) := (blk_cell BK177.out 6).trans rfl; have hfz9_0 := blk_frozen BK177.out 0; have hfz9_1 := blk_frozen BK177.out 1; have hfz9_2 := blk_frozen BK177.out 2; have hfz9_3 := blk_frozen BK177.out 3; have hfz9_4 := blk_frozen BK177.out 4; have hfz9_5 := blk_frozen BK177.out 5; have hfz9_6 := blk_frozen BK177.out 6))
     repeat (go_quiet (first | ((with_reducible refine gate_dst (N := 4) rfl ?_); refine box_event ?hg (N := 4) ?hd (cs := #[.int .i64 0, .int .i64 0, .int .i64 0, .int .i64 0, .int .i64 0, .int .i64 0, .int .i64 0]) (t := 66) ?hr ?_; (case hd => rfl); (case hg => rfl); (case hr => first | (go_simp; done) | (go_simp; rfl)); intro gb177 hg w7 hbox hb; have n0_ := Aside0.mk (blk_below (g := gb175) (o := .cells #[.slice A0_0 l0_0.length c0_0, .slice A0_1 l0_1.length c0_1, .slice (some ad176) l0_2.length c0_2, .slice A0_3 l0_3.length c0_3] 36 (0, 0)) (by (with_reducible repeat (first | refine blk_drewN ?_ _ | refine blk_drew ?_ | refine blk_alloc ?_ _)); exact BK175.out) hb); have n1_ := Aside0.mk (below_step (by repeat (first | (with_reducible first | exact HB.out | apply below_alloc | apply pw_below_drewN | apply below_drew1 | refine below_set ?_ GE175.out) | exact HB.out)) hb); have n2_ := Aside0.mk (hbox); have n3_ := Aside0.mk ((by rw [hg]; exact (below_size (by repeat (first | (with_reducible first | exact HB.out | apply below_alloc | apply pw_below_drewN | apply below_drew1 | refine below_set ?_ GE175.out) | exact HB.out))) : w.heap.size ≤ gb177)); have n4_ := Aside0.mk ((by rw [hg]; exact (below_size (by repeat (first | (with_reducible first | exact HB.out | apply below_alloc | apply pw_below_drewN | apply below_drew1 | refine below_set ?_ GE175.out) | exact HB.out))) : w.heap.size ≤ gb177)); have n5_ := Aside0.mk ((by rw [hg]; exact Nat.ne_of_lt (blk_lt (g := gb175) (o := .cells #[.slice A0_0 l0_0.length c0_0, .slice A0_1 l0_1.length c0_1, .slice (some ad176) l0_2.length c0_2, .slice A0_3 l0_3.length c0_3] 36 (0, 0)) (by (with_reducible repeat (first | refine blk_drewN ?_ _ | refine blk_drew ?_ | refine blk_alloc ?_ _)); exact BK175.out)) : gb175 ≠ gb177)); have n6_ := Aside0.mk ((by rw [hg]; exact Nat.ne_of_gt (blk_lt (g := gb175) (o := .cells #[.slice A0_0 l0_0.length c0_0, .slice A0_1 l0_1.length c0_1, .slice (some ad176) l0_2.length c0_2, .slice A0_3 l0_3.length c0_3] 36 (0, 0)) (by (with_reducible repeat (first | refine blk_drewN ?_ _ | refine blk_drew ?_ | refine blk_alloc ?_ _)); exact BK175.out)) : gb177 ≠ gb175)); clear BK175; clear HB; have BK175 := n0_; have HB := n1_; have BK177 := n2_; have GW177 := n3_; have GE177 := n4_; have NB175_177 := n5_; have NB177_175 := n6_; clear n0_ n1_ n2_ n3_ n4_ n5_ n6_; clear hb hbox hg; have hnb8 := NB177_175.out; have hnc8 := NB175_177.out; have hcz9_0 : w7.cell? ⟨gb177, 0, none⟩ = some (.int .i64 0) := (blk_cell BK177.out 0).trans rfl; have hcz9_1 : w7.cell? ⟨gb177, 1, none⟩ = some (.int .i64 0) := (blk_cell BK177.out 1).trans rfl; have hcz9_2 : w7.cell? ⟨gb177, 2, none⟩ = some (.int .i64 0) := (blk_cell BK177.out 2).trans rfl; have hcz9_3 : w7.cell? ⟨gb177, 3, none⟩ = some (.int .i64 0) := (blk_cell BK177.out 3).trans rfl; have hcz9_4 : w7.cell? ⟨gb177, 4, none⟩ = some (.int .i64 0) := (blk_cell BK177.out 4).trans rfl; have hcz9_5 : w7.cell? ⟨gb177, 5, none⟩ = some (.int .i64 0) := (blk_cell BK177.out 5).trans rfl; have hcz9_6 : w7.cell? ⟨gb177, 6, none⟩ = some (.int .i64 0) := (blk_cell BK177.out 6).trans rfl; have hfz9_0 := blk_frozen BK177.out 0; have hfz9_1 := blk_frozen BK177.out 1; have hfz9_2 := blk_frozen BK177.out 2; have hfz9_3 := blk_frozen BK177.out 3; have hfz9_4 := blk_frozen BK177.out 4; have hfz9_5 := blk_frozen BK177.out 5; have hfz9_6 := blk_frozen BK177.out 6)); go_upto_region 5 with (first | ((with_reducible refine gate_dst (N := 4) rfl ?_); refine box_event ?hg (N := 4) ?hd (cs := #[.int .i64 0, .int .i64 0, .int .i64 0, .int .i64 0, .int .i64 0, .int .i64 0, .int .i64 0]) (t := 66) ?hr ?_; (case hd => rfl); (case hg => rfl); (case hr => first | (go_simp; done) | (go_simp; rfl)); intro gb177 hg w7 hbox hb; have n0_ := Aside0.mk (blk_below (g := gb175) (o := .cells #[.slice A0_0 l0_0.length c0_0, .slice A0_1 l0_1.length c0_1, .slice (some ad176) l0_2.length c0_2, .slice A0_3 l0_3.length c0_3] 36 (0, 0)) (by (with_reducible repeat (first | refine blk_drewN ?_ _ | refine blk_drew ?_ | refine blk_alloc ?_ _)); exact BK175.out) hb); have n1_ := Aside0.mk (below_step (by repeat (first | (with_reducible first | exact HB.out | apply below_alloc | apply pw_below_drewN | apply below_drew1 | refine below_set ?_ GE175.out) | exact HB.out)) hb); have n2_ := Aside0.mk (hbox); have n3_ := Aside0.mk ((by rw [hg]; exact (below_size (by repeat (first | (with_reducible first | exact HB.out | apply below_alloc | apply pw_below_drewN | apply below_drew1 | refine below_set ?_ GE175.out) | exact HB.out))) : w.heap.size ≤ gb177)); have n4_ := Aside0.mk ((by rw [hg]; exact (below_size (by repeat (first | (with_reducible first | exact HB.out | apply below_alloc | apply pw_below_drewN | apply below_drew1 | refine below_set ?_ GE175.out) | exact HB.out))) : w.heap.size ≤ gb177)); have n5_ := Aside0.mk ((by rw [hg]; exact Nat.ne_of_lt (blk_lt (g := gb175) (o := .cells #[.slice A0_0 l0_0.length c0_0, .slice A0_1 l0_1.length c0_1, .slice (some ad176) l0_2.length c0_2, .slice A0_3 l0_3.length c0_3] 36 (0, 0)) (by (with_reducible repeat (first | refine blk_drewN ?_ _ | refine blk_drew ?_ | refine blk_alloc ?_ _)); exact BK175.out)) : gb175 ≠ gb177)); have n6_ := Aside0.mk ((by rw [hg]; exact Nat.ne_of_gt (blk_lt (g := gb175) (o := .cells #[.slice A0_0 l0_0.length c0_0, .slice A0_1 l0_1.length c0_1, .slice (some ad176) l0_2.length c0_2, .slice A0_3 l0_3.length c0_3] 36 (0, 0)) (by (with_reducible repeat (first | refine blk_drewN ?_ _ | refine blk_drew ?_ | refine blk_alloc ?_ _)); exact BK175.out)) : gb177 ≠ gb175)); clear BK175; clear HB; have BK175 := n0_; have HB := n1_; have BK177 := n2_; have GW177 := n3_; have GE177 := n4_; have NB175_177 := n5_; have NB177_175 := n6_; clear n0_ n1_ n2_ n3_ n4_ n5_ n6_; clear hb hbox hg; have hnb8 := NB177_175.out; have hnc8 := NB175_177.out; have hcz9_0 : w7.cell? ⟨gb177, 0, none⟩ = some (.int .i64 0) := (blk_cell BK177.out 0).trans rfl; have hcz9_1 : w7.cell? ⟨gb177, 1, none⟩ = some (.int .i64 0) := (blk_cell BK177.out 1).trans rfl; have hcz9_2 : w7.cell? ⟨gb177, 2, none⟩ = some (.int .i64 0) := (blk_cell BK177.out 2).trans rfl; have hcz9_3 : w7.cell? ⟨gb177, 3, none⟩ = some (.int .i64 0) := (blk_cell BK177.out 3).trans rfl; have hcz9_4 : w7.cell? ⟨gb177, 4, none⟩ = some (.int .i64 0) := (blk_cell BK177.out 4).trans rfl; have hcz9_5 : w7.cell? ⟨gb177, 5, none⟩ = some (.int .i64 0) := (blk_cell BK177.out 5).trans rfl; have hcz9_6 : w7.cell? ⟨gb177, 6, none⟩ = some (.int .i64 0) := (blk_cell BK177.out 6).trans rfl; have hfz9_0 := blk_frozen BK177.out 0; have hfz9_1 := blk_frozen BK177.out 1; have hfz9_2 := blk_frozen BK177.out 2; have hfz9_3 := blk_frozen BK177.out 3; have hfz9_4 := blk_frozen BK177.out 4; have hfz9_5 := blk_frozen BK177.out 5; have hfz9_6 := blk_frozen BK177.out 6)))
     (try simp only [Act.put, List.setIfInBounds_toArray, List.set_cons_zero, List.set_cons_succ])
     go_cut [45] (fun v45 wc => ∃ (kq : Nat) (x45_4 : Bool), v45 = .bool x45_4 ∧ Aside0 (skiarearef10_runs.j1 kq x3_1 x45_4 l0_0 l0_1 l0_2 l0_3 ((rd_T66 l0_2 x3_1).f0) ((rd_T66 l0_2 x3_1).f1) ((rd_T66 l0_2 x3_1).f2) ((rd_T66 l0_2 x3_1).f3) ((rd_T66 l0_2 x3_1).f4) ((rd_T66 l0_2 x3_1).f5) ((rd_T66 l0_2 x3_1).f6) = some r) ∧ Aside0 (kq ≤ k1) ∧ Aside0 (wc.heap[gb175]? = some (.cells #[(.slice A0_0 l0_0.length c0_0), (.slice A0_1 l0_1.length c0_1), (.slice (some ad176) l0_2.length c0_2), (.slice A0_3 l0_3.length c0_3)] 36 (0, 0))) ∧ Aside0 (wc.heap[gb177]? = some (.cells #[.int .i64 ((rd_T66 l0_2 x3_1).f0), .int .i64 ((rd_T66 l0_2 x3_1).f1), .int .i64 ((rd_T66 l0_2 x3_1).f2), .int .i64 ((rd_T66 l0_2 x3_1).f3), .int .i64 ((rd_T66 l0_2 x3_1).f4), .int .i64 ((rd_T66 l0_2 x3_1).f5), .int .i64 ((rd_T66 l0_2 x3_1).f6)] 66 (0, 0))) ∧ Aside0 (Below w.heap.size w wc))
     case first =>
      have H := HC5.out
      clear HC5
      replace H := Option.bind_eq_some_iff.mp H
      obtain ⟨t178, A100, H⟩ := H
      replace H : (if t178 = true then ((skiarearef10_in.f ((rd_T66 l0_2 x3_1).f1) 1 8).bind fun t179 => (if t179 = true then ((skiarearef10_in.f ((rd_T66 l0_2 x3_1).f4) 1 4).bind fun t180 => (if t180 = true then ((skiarearef10_in.f ((rd_T66 l0_2 x3_1).f5) 1 32).bind fun t181 => (if t181 = true then ((skiarearef10_in.f ((rd_T66 l0_2 x3_1).f6) 10 20000).bind fun t182 => (skiarearef10_runs.j1 k1 x3_1 (!t182) l0_0 l0_1 l0_2 l0_3 ((rd_T66 l0_2 x3_1).f0) ((rd_T66 l0_2 x3_1).f1) ((rd_T66 l0_2 x3_1).f2) ((rd_T66 l0_2 x3_1).f3) ((rd_T66 l0_2 x3_1).f4) ((rd_T66 l0_2 x3_1).f5) ((rd_T66 l0_2 x3_1).f6))) else (skiarearef10_runs.j1 k1 x3_1 true l0_0 l0_1 l0_2 l0_3 ((rd_T66 l0_2 x3_1).f0) ((rd_T66 l0_2 x3_1).f1) ((rd_T66 l0_2 x3_1).f2) ((rd_T66 l0_2 x3_1).f3) ((rd_T66 l0_2 x3_1).f4) ((rd_T66 l0_2 x3_1).f5) ((rd_T66 l0_2 x3_1).f6)))) else (skiarearef10_runs.j1 k1 x3_1 true l0_0 l0_1 l0_2 l0_3 ((rd_T66 l0_2 x3_1).f0) ((rd_T66 l0_2 x3_1).f1) ((rd_T66 l0_2 x3_1).f2) ((rd_T66 l0_2 x3_1).f3) ((rd_T66 l0_2 x3_1).f4) ((rd_T66 l0_2 x3_1).f5) ((rd_T66 l0_2 x3_1).f6)))) else (skiarearef10_runs.j1 k1 x3_1 true l0_0 l0_1 l0_2 l0_3 ((rd_T66 l0_2 x3_1).f0) ((rd_T66 l0_2 x3_1).f1) ((rd_T66 l0_2 x3_1).f2) ((rd_T66 l0_2 x3_1).f3) ((rd_T66 l0_2 x3_1).f4) ((rd_T66 l0_2 x3_1).f5) ((rd_T66 l0_2 x3_1).f6)))) else (skiarearef10_runs.j1 k1 x3_1 true l0_0 l0_1 l0_2 l0_3 ((rd_T66 l0_2 x3_1).f0) ((rd_T66 l0_2 x3_1).f1) ((rd_T66 l0_2 x3_1).f2) ((rd_T66 l0_2 x3_1).f3) ((rd_T66 l0_2 x3_1).f4) ((rd_T66 l0_2 x3_1).f5) ((rd_T66 l0_2 x3_1).f6))) = some r := H
      have A10 := Aside0.mk A100
      clear A100
      by_cases c11 : t178 = true
      ·subst c11
       have H1 : ((skiarearef10_in.f ((rd_T66 l0_2 x3_1).f1) 1 8).bind fun t179 => (if t179 = true then ((skiarearef10_in.f ((rd_T66 l0_2 x3_1).f4) 1 4).bind fun t180 => (if t180 = true then ((skiarearef10_in.f ((rd_T66 l0_2 x3_1).f5) 1 32).bind fun t181 => (if t181 = true then ((skiarearef10_in.f ((rd_T66 l0_2 x3_1).f6) 10 20000).bind fun t182 => (skiarearef10_runs.j1 k1 x3_1 (!t182) l0_0 l0_1 l0_2 l0_3 ((rd_T66 l0_2 x3_1).f0) ((rd_T66 l0_2 x3_1).f1) ((rd_T66 l0_2 x3_1).f2) ((rd_T66 l0_2 x3_1).f3) ((rd_T66 l0_2 x3_1).f4) ((rd_T66 l0_2 x3_1).f5) ((rd_T66 l0_2 x3_1).f6))) else (skiarearef10_runs.j1 k1 x3_1 true l0_0 l0_1 l0_2 l0_3 ((rd_T66 l0_2 x3_1).f0) ((rd_T66 l0_2 x3_1).f1) ((rd_T66 l0_2 x3_1).f2) ((rd_T66 l0_2 x3_1).f3) ((rd_T66 l0_2 x3_1).f4) ((rd_T66 l0_2 x3_1).f5) ((rd_T66 l0_2 x3_1).f6)))) else (skiarearef10_runs.j1 k1 x3_1 true l0_0 l0_1 l0_2 l0_3 ((rd_T66 l0_2 x3_1).f0) ((rd_T66 l0_2 x3_1).f1) ((rd_T66 l0_2 x3_1).f2) ((rd_T66 l0_2 x3_1).f3) ((rd_T66 l0_2 x3_1).f4) ((rd_T66 l0_2 x3_1).f5) ((rd_T66 l0_2 x3_1).f6)))) else (skiarearef10_runs.j1 k1 x3_1 true l0_0 l0_1 l0_2 l0_3 ((rd_T66 l0_2 x3_1).f0) ((rd_T66 l0_2 x3_1).f1) ((rd_T66 l0_2 x3_1).f2) ((rd_T66 l0_2 x3_1).f3) ((rd_T66 l0_2 x3_1).f4) ((rd_T66 l0_2 x3_1).f5) ((rd_T66 l0_2 x3_1).f6)))) = some r := by rw [if_pos rfl] at H; exact H
       clear H
       have H := H1
       clear H1
       replace H := Option.bind_eq_some_iff.mp H
       obtain ⟨t179, A120, H⟩ := H
       replace H : (if t179 = true then ((skiarearef10_in.f ((rd_T66 l0_2 x3_1).f4) 1 4).bind fun t180 => (if t180 = true then ((skiarearef10_in.f ((rd_T66 l0_2 x3_1).f5) 1 32).bind fun t181 => (if t181 = true then ((skiarearef10_in.f ((rd_T66 l0_2 x3_1).f6) 10 20000).bind fun t182 => (skiarearef10_runs.j1 k1 x3_1 (!t182) l0_0 l0_1 l0_2 l0_3 ((rd_T66 l0_2 x3_1).f0) ((rd_T66 l0_2 x3_1).f1) ((rd_T66 l0_2 x3_1).f2) ((rd_T66 l0_2 x3_1).f3) ((rd_T66 l0_2 x3_1).f4) ((rd_T66 l0_2 x3_1).f5) ((rd_T66 l0_2 x3_1).f6))) else (skiarearef10_runs.j1 k1 x3_1 true l0_0 l0_1 l0_2 l0_3 ((rd_T66 l0_2 x3_1).f0) ((rd_T66 l0_2 x3_1).f1) ((rd_T66 l0_2 x3_1).f2) ((rd_T66 l0_2 x3_1).f3) ((rd_T66 l0_2 x3_1).f4) ((rd_T66 l0_2 x3_1).f5) ((rd_T66 l0_2 x3_1).f6)))) else (skiarearef10_runs.j1 k1 x3_1 true l0_0 l0_1 l0_2 l0_3 ((rd_T66 l0_2 x3_1).f0) ((rd_T66 l0_2 x3_1).f1) ((rd_T66 l0_2 x3_1).f2) ((rd_T66 l0_2 x3_1).f3) ((rd_T66 l0_2 x3_1).f4) ((rd_T66 l0_2 x3_1).f5) ((rd_T66 l0_2 x3_1).f6)))) else (skiarearef10_runs.j1 k1 x3_1 true l0_0 l0_1 l0_2 l0_3 ((rd_T66 l0_2 x3_1).f0) ((rd_T66 l0_2 x3_1).f1) ((rd_T66 l0_2 x3_1).f2) ((rd_T66 l0_2 x3_1).f3) ((rd_T66 l0_2 x3_1).f4) ((rd_T66 l0_2 x3_1).f5) ((rd_T66 l0_2 x3_1).f6))) = some r := H
       have A12 := Aside0.mk A120
       clear A120
       by_cases c13 : t179 = true
       ·subst c13
        have H1 : ((skiarearef10_in.f ((rd_T66 l0_2 x3_1).f4) 1 4).bind fun t180 => (if t180 = true then ((skiarearef10_in.f ((rd_T66 l0_2 x3_1).f5) 1 32).bind fun t181 => (if t181 = true then ((skiarearef10_in.f ((rd_T66 l0_2 x3_1).f6) 10 20000).bind fun t182 => (skiarearef10_runs.j1 k1 x3_1 (!t182) l0_0 l0_1 l0_2 l0_3 ((rd_T66 l0_2 x3_1).f0) ((rd_T66 l0_2 x3_1).f1) ((rd_T66 l0_2 x3_1).f2) ((rd_T66 l0_2 x3_1).f3) ((rd_T66 l0_2 x3_1).f4) ((rd_T66 l0_2 x3_1).f5) ((rd_T66 l0_2 x3_1).f6))) else (skiarearef10_runs.j1 k1 x3_1 true l0_0 l0_1 l0_2 l0_3 ((rd_T66 l0_2 x3_1).f0) ((rd_T66 l0_2 x3_1).f1) ((rd_T66 l0_2 x3_1).f2) ((rd_T66 l0_2 x3_1).f3) ((rd_T66 l0_2 x3_1).f4) ((rd_T66 l0_2 x3_1).f5) ((rd_T66 l0_2 x3_1).f6)))) else (skiarearef10_runs.j1 k1 x3_1 true l0_0 l0_1 l0_2 l0_3 ((rd_T66 l0_2 x3_1).f0) ((rd_T66 l0_2 x3_1).f1) ((rd_T66 l0_2 x3_1).f2) ((rd_T66 l0_2 x3_1).f3) ((rd_T66 l0_2 x3_1).f4) ((rd_T66 l0_2 x3_1).f5) ((rd_T66 l0_2 x3_1).f6)))) = some r := by rw [if_pos rfl] at H; exact H
        clear H
        have H := H1
        clear H1
        replace H := Option.bind_eq_some_iff.mp H
        obtain ⟨t180, A140, H⟩ := H
        replace H : (if t180 = true then ((skiarearef10_in.f ((rd_T66 l0_2 x3_1).f5) 1 32).bind fun t181 => (if t181 = true then ((skiarearef10_in.f ((rd_T66 l0_2 x3_1).f6) 10 20000).bind fun t182 => (skiarearef10_runs.j1 k1 x3_1 (!t182) l0_0 l0_1 l0_2 l0_3 ((rd_T66 l0_2 x3_1).f0) ((rd_T66 l0_2 x3_1).f1) ((rd_T66 l0_2 x3_1).f2) ((rd_T66 l0_2 x3_1).f3) ((rd_T66 l0_2 x3_1).f4) ((rd_T66 l0_2 x3_1).f5) ((rd_T66 l0_2 x3_1).f6))) else (skiarearef10_runs.j1 k1 x3_1 true l0_0 l0_1 l0_2 l0_3 ((rd_T66 l0_2 x3_1).f0) ((rd_T66 l0_2 x3_1).f1) ((rd_T66 l0_2 x3_1).f2) ((rd_T66 l0_2 x3_1).f3) ((rd_T66 l0_2 x3_1).f4) ((rd_T66 l0_2 x3_1).f5) ((rd_T66 l0_2 x3_1).f6)))) else (skiarearef10_runs.j1 k1 x3_1 true l0_0 l0_1 l0_2 l0_3 ((rd_T66 l0_2 x3_1).f0) ((rd_T66 l0_2 x3_1).f1) ((rd_T66 l0_2 x3_1).f2) ((rd_T66 l0_2 x3_1).f3) ((rd_T66 l0_2 x3_1).f4) ((rd_T66 l0_2 x3_1).f5) ((rd_T66 l0_2 x3_1).f6))) = some r := H
        have A14 := Aside0.mk A140
        clear A140
        by_cases c15 : t180 = true
        ·subst c15
         have H1 : ((skiarearef10_in.f ((rd_T66 l0_2 x3_1).f5) 1 32).bind fun t181 => (if t181 = true then ((skiarearef10_in.f ((rd_T66 l0_2 x3_1).f6) 10 20000).bind fun t182 => (skiarearef10_runs.j1 k1 x3_1 (!t182) l0_0 l0_1 l0_2 l0_3 ((rd_T66 l0_2 x3_1).f0) ((rd_T66 l0_2 x3_1).f1) ((rd_T66 l0_2 x3_1).f2) ((rd_T66 l0_2 x3_1).f3) ((rd_T66 l0_2 x3_1).f4) ((rd_T66 l0_2 x3_1).f5) ((rd_T66 l0_2 x3_1).f6))) else (skiarearef10_runs.j1 k1 x3_1 true l0_0 l0_1 l0_2 l0_3 ((rd_T66 l0_2 x3_1).f0) ((rd_T66 l0_2 x3_1).f1) ((rd_T66 l0_2 x3_1).f2) ((rd_T66 l0_2 x3_1).f3) ((rd_T66 l0_2 x3_1).f4) ((rd_T66 l0_2 x3_1).f5) ((rd_T66 l0_2 x3_1).f6)))) = some r := by rw [if_pos rfl] at H; exact H
         clear H
         have H := H1
         clear H1
         replace H := Option.bind_eq_some_iff.mp H
         obtain ⟨t181, A160, H⟩ := H
         replace H : (if t181 = true then ((skiarearef10_in.f ((rd_T66 l0_2 x3_1).f6) 10 20000).bind fun t182 => (skiarearef10_runs.j1 k1 x3_1 (!t182) l0_0 l0_1 l0_2 l0_3 ((rd_T66 l0_2 x3_1).f0) ((rd_T66 l0_2 x3_1).f1) ((rd_T66 l0_2 x3_1).f2) ((rd_T66 l0_2 x3_1).f3) ((rd_T66 l0_2 x3_1).f4) ((rd_T66 l0_2 x3_1).f5) ((rd_T66 l0_2 x3_1).f6))) else (skiarearef10_runs.j1 k1 x3_1 true l0_0 l0_1 l0_2 l0_3 ((rd_T66 l0_2 x3_1).f0) ((rd_T66 l0_2 x3_1).f1) ((rd_T66 l0_2 x3_1).f2) ((rd_T66 l0_2 x3_1).f3) ((rd_T66 l0_2 x3_1).f4) ((rd_T66 l0_2 x3_1).f5) ((rd_T66 l0_2 x3_1).f6))) = some r := H
         have A16 := Aside0.mk A160
         clear A160
         by_cases c17 : t181 = true
         ·subst c17
          have H1 : ((skiarearef10_in.f ((rd_T66 l0_2 x3_1).f6) 10 20000).bind fun t182 => (skiarearef10_runs.j1 k1 x3_1 (!t182) l0_0 l0_1 l0_2 l0_3 ((rd_T66 l0_2 x3_1).f0) ((rd_T66 l0_2 x3_1).f1) ((rd_T66 l0_2 x3_1).f2) ((rd_T66 l0_2 x3_1).f3) ((rd_T66 l0_2 x3_1).f4) ((rd_T66 l0_2 x3_1).f5) ((rd_T66 l0_2 x3_1).f6))) = some r := by rw [if_pos rfl] at H; exact H
          clear H
          have H := H1
          clear H1
          replace H := Option.bind_eq_some_iff.mp H
          obtain ⟨t182, A180, H⟩ := H
          replace H : (skiarearef10_runs.j1 k1 x3_1 (!t182) l0_0 l0_1 l0_2 l0_3 ((rd_T66 l0_2 x3_1).f0) ((rd_T66 l0_2 x3_1).f1) ((rd_T66 l0_2 x3_1).f2) ((rd_T66 l0_2 x3_1).f3) ((rd_T66 l0_2 x3_1).f4) ((rd_T66 l0_2 x3_1).f5) ((rd_T66 l0_2 x3_1).f6)) = some r := H
          have A18 := Aside0.mk A180
          clear A180
          have H' := Aside0.mk H
          clear H
          have hnb19 := NB177_175.out
          have hnc19 := NB175_177.out
          have hcz20_0 : w7.cell? ⟨gb177, 0, none⟩ = some (.int .i64 0) := (blk_cell BK177.out 0).trans rfl
          have hcz20_1 : w7.cell? ⟨gb177, 1, none⟩ = some (.int .i64 0) := (blk_cell BK177.out 1).trans rfl
          have hcz20_2 : w7.cell? ⟨gb177, 2, none⟩ = some (.int .i64 0) := (blk_cell BK177.out 2).trans rfl
          have hcz20_3 : w7.cell? ⟨gb177, 3, none⟩ = some (.int .i64 0) := (blk_cell BK177.out 3).trans rfl
          have hcz20_4 : w7.cell? ⟨gb177, 4, none⟩ = some (.int .i64 0) := (blk_cell BK177.out 4).trans rfl
          have hcz20_5 : w7.cell? ⟨gb177, 5, none⟩ = some (.int .i64 0) := (blk_cell BK177.out 5).trans rfl
          have hcz20_6 : w7.cell? ⟨gb177, 6, none⟩ = some (.int .i64 0) := (blk_cell BK177.out 6).trans rfl
          have hfz20_0 := blk_frozen BK177.out 0
          have hfz20_1 := blk_frozen BK177.out 1
          have hfz20_2 := blk_frozen BK177.out 2
          have hfz20_3 := blk_frozen BK177.out 3
          have hfz20_4 := blk_frozen BK177.out 4
          have hfz20_5 := blk_frozen BK177.out 5
          have hfz20_6 := blk_frozen BK177.out 6
          go_wp2_with (first | (go_at_call 38; (with_reducible refine (skiarearef10_in.calls ((rd_T66 l0_2 x3_1).f0) 1 9999 true _ A10.out).mono ?_); rintro e w' ⟨rfl, ⟨nd, rfl⟩⟩; (try first | exact ⟨rfl, _, World.drewN_drewN _ _ _⟩ | exact ⟨rfl, _, Eq.trans (World.drewN_drewN _ _ _) (congrArg (World.drewN _) (Nat.add_assoc _ _ _))⟩)) | (go_at_call 38; (with_reducible refine (skiarearef10_in.calls ((rd_T66 l0_2 x3_1).f1) 1 8 true _ A12.out).mono ?_); rintro e w' ⟨rfl, ⟨nd, rfl⟩⟩; (try first | exact ⟨rfl, _, World.drewN_drewN _ _ _⟩ | exact ⟨rfl, _, Eq.trans (World.drewN_drewN _ _ _) (congrArg (World.drewN _) (Nat.add_assoc _ _ _))⟩)) | (go_at_call 38; (with_reducible refine (skiarearef10_in.calls ((rd_T66 l0_2 x3_1).f4) 1 4 true _ A14.out).mono ?_); rintro e w' ⟨rfl, ⟨nd, rfl⟩⟩; (try first | exact ⟨rfl, _, World.drewN_drewN _ _ _⟩ | exact ⟨rfl, _, Eq.trans (World.drewN_drewN _ _ _) (congrArg (World.drewN _) (Nat.add_assoc _ _ _))⟩)) | (go_at_call 38; (with_reducible refine (skiarearef10_in.calls ((rd_T66 l0_2 x3_1).f5) 1 32 true _ A16.out).mono ?_); rintro e w' ⟨rfl, ⟨nd, rfl⟩⟩; (try first | exact ⟨rfl, _, World.drewN_drewN _ _ _⟩ | exact ⟨rfl, _, Eq.trans (World.drewN_drewN _ _ _) (congrArg (World.drewN _) (Nat.add_assoc _ _ _))⟩)) | (go_at_call 38; (with_reducible refine (skiarearef10_in.calls ((rd_T66 l0_2 x3_1).f6) 10 20000 t182 _ A18.out).mono ?_); rintro e w' ⟨rfl, ⟨nd, rfl⟩⟩; (try first | exact ⟨rfl, _, World.drewN_drewN _ _ _⟩ | exact ⟨rfl, _, Eq.trans (World.drewN_drewN _ _ _) (congrArg (World.drewN _) (Nat.add_assoc _ _ _))⟩)))
          repeat (go_quiet (first | (go_at_call 38; (with_reducible refine (skiarearef10_in.calls ((rd_T66 l0_2 x3_1).f0) 1 9999 true _ A10.out).mono ?_); rintro e w' ⟨rfl, ⟨nd, rfl⟩⟩; (try first | exact ⟨rfl, _, World.drewN_drewN _ _ _⟩ | exact ⟨rfl, _, Eq.trans (World.drewN_drewN _ _ _) (congrArg (World.drewN _) (Nat.add_assoc _ _ _))⟩)) | (go_at_call 38; (with_reducible refine (skiarearef10_in.calls ((rd_T66 l0_2 x3_1).f1) 1 8 true _ A12.out).mono ?_); rintro e w' ⟨rfl, ⟨nd, rfl⟩⟩; (try first | exact ⟨rfl, _, World.drewN_drewN _ _ _⟩ | exact ⟨rfl, _, Eq.trans (World.drewN_drewN _ _ _) (congrArg (World.drewN _) (Nat.add_assoc _ _ _))⟩)) | (go_at_call 38; (with_reducible refine (skiarearef10_in.calls ((rd_T66 l0_2 x3_1).f4) 1 4 true _ A14.out).mono ?_); rintro e w' ⟨rfl, ⟨nd, rfl⟩⟩; (try first | exact ⟨rfl, _, World.drewN_drewN _ _ _⟩ | exact ⟨rfl, _, Eq.trans (World.drewN_drewN _ _ _) (congrArg (World.drewN _) (Nat.add_assoc _ _ _))⟩)) | (go_at_call 38; (with_reducible refine (skiarearef10_in.calls ((rd_T66 l0_2 x3_1).f5) 1 32 true _ A16.out).mono ?_); rintro e w' ⟨rfl, ⟨nd, rfl⟩⟩; (try first | exact ⟨rfl, _, World.drewN_drewN _ _ _⟩ | exact ⟨rfl, _, Eq.trans (World.drewN_drewN _ _ _) (congrArg (World.drewN _) (Nat.add_assoc _ _ _))⟩)) | (go_at_call 38; (with_reducible refine (skiarearef10_in.calls ((rd_T66 l0_2 x3_1).f6) 10 20000 t182 _ A18.out).mono ?_); rintro e w' ⟨rfl, ⟨nd, rfl⟩⟩; (try first | exact ⟨rfl, _, World.drewN_drewN _ _ _⟩ | exact ⟨rfl, _, Eq.trans (World.drewN_drewN _ _ _) (congrArg (World.drewN _) (Nat.add_assoc _ _ _))⟩))); try go_wp2_with (first | (go_at_call 38; (with_reducible refine (skiarearef10_in.calls ((rd_T66 l0_2 x3_1).f0) 1 9999 true _ A10.out).mono ?_); rintro e w' ⟨rfl, ⟨nd, rfl⟩⟩; (try first | exact ⟨rfl, _, World.drewN_drewN _ _ _⟩ | exact ⟨rfl, _, Eq.trans (World.drewN_drewN _ _ _) (congrArg (World.drewN _) (Nat.add_assoc _ _ _))⟩)) | (go_at_call 38; (with_reducible refine (skiarearef10_in.calls ((rd_T66 l0_2 x3_1).f1) 1 8 true _ A12.out).mono ?_); rintro e w' ⟨rfl, ⟨nd, rfl⟩⟩; (try first | exact ⟨rfl, _, World.drewN_drewN _ _ _⟩ | exact ⟨rfl, _, Eq.trans (World.drewN_drewN _ _ _) (congrArg (World.drewN _) (Nat.add_assoc _ _ _))⟩)) | (go_at_call 38; (with_reducible refine (skiarearef10_in.calls ((rd_T66 l0_2 x3_1).f4) 1 4 true _ A14.out).mono ?_); rintro e w' ⟨rfl, ⟨nd, rfl⟩⟩; (try first | exact ⟨rfl, _, World.drewN_drewN _ _ _⟩ | exact ⟨rfl, _, Eq.trans (World.drewN_drewN _ _ _) (congrArg (World.drewN _) (Nat.add_assoc _ _ _))⟩)) | (go_at_call 38; (with_reducible refine (skiarearef10_in.calls ((rd_T66 l0_2 x3_1).f5) 1 32 true _ A16.out).mono ?_); rintro e w' ⟨rfl, ⟨nd, rfl⟩⟩; (try first | exact ⟨rfl, _, World.drewN_drewN _ _ _⟩ | exact ⟨rfl, _, Eq.trans (World.drewN_drewN _ _ _) (congrArg (World.drewN _) (Nat.add_assoc _ _ _))⟩)) | (go_at_call 38; (with_reducible refine (skiarearef10_in.calls ((rd_T66 l0_2 x3_1).f6) 10 20000 t182 _ A18.out).mono ?_); rintro e w' ⟨rfl, ⟨nd, rfl⟩⟩; (try first | exact ⟨rfl, _, World.drewN_drewN _ _ _⟩ | exact ⟨rfl, _, Eq.trans (World.drewN_drewN _ _ _) (congrArg (World.drewN _) (Nat.add_assoc _ _ _))⟩))))
          go_meet
          case rel => exact ⟨_, (!t182), (by first | rfl | (simp; done) | (simp [*]; done)), H', ⟨by have := HK1.out; first | omega | exact Nat.le_refl _⟩, ⟨by (with_reducible repeat (first | refine blk_drewN ?_ _ | refine blk_drew ?_ | refine blk_alloc ?_ _)); refine blk_far ?_ NB175_177.out _; (with_reducible repeat (first | refine blk_drewN ?_ _ | refine blk_drew ?_ | refine blk_alloc ?_ _)); refine blk_far ?_ NB175_177.out _; (with_reducible repeat (first | refine blk_drewN ?_ _ | refine blk_drew ?_ | refine blk_alloc ?_ _)); refine blk_far ?_ NB175_177.out _; (with_reducible repeat (first | refine blk_drewN ?_ _ | refine blk_drew ?_ | refine blk_alloc ?_ _)); refine blk_far ?_ NB175_177.out _; (with_reducible repeat (first | refine blk_drewN ?_ _ | refine blk_drew ?_ | refine blk_alloc ?_ _)); refine blk_far ?_ NB175_177.out _; (with_reducible repeat (first | refine blk_drewN ?_ _ | refine blk_drew ?_ | refine blk_alloc ?_ _)); refine blk_far ?_ NB175_177.out _; (with_reducible repeat (first | refine blk_drewN ?_ _ | refine blk_drew ?_ | refine blk_alloc ?_ _)); refine blk_far ?_ NB175_177.out _; (with_reducible repeat (first | refine blk_drewN ?_ _ | refine blk_drew ?_ | refine blk_alloc ?_ _)); exact BK175.out⟩, ⟨by (with_reducible repeat (first | refine blk_drewN ?_ _ | refine blk_drew ?_ | refine blk_alloc ?_ _)); refine blk_put (cs := #[.int .i64 ((rd_T66 l0_2 x3_1).f0), .int .i64 ((rd_T66 l0_2 x3_1).f1), .int .i64 ((rd_T66 l0_2 x3_1).f2), .int .i64 ((rd_T66 l0_2 x3_1).f3), .int .i64 ((rd_T66 l0_2 x3_1).f4), .int .i64 ((rd_T66 l0_2 x3_1).f5), .int .i64 0]) ?_ 6 _ rfl; (with_reducible repeat (first | refine blk_drewN ?_ _ | refine blk_drew ?_ | refine blk_alloc ?_ _)); refine blk_put (cs := #[.int .i64 ((rd_T66 l0_2 x3_1).f0), .int .i64 ((rd_T66 l0_2 x3_1).f1), .int .i64 ((rd_T66 l0_2 x3_1).f2), .int .i64 ((rd_T66 l0_2 x3_1).f3), .int .i64 ((rd_T66 l0_2 x3_1).f4), .int .i64 0, .int .i64 0]) ?_ 5 _ rfl; (with_reducible repeat (first | refine blk_drewN ?_ _ | refine blk_drew ?_ | refine blk_alloc ?_ _)); refine blk_put (cs := #[.int .i64 ((rd_T66 l0_2 x3_1).f0), .int .i64 ((rd_T66 l0_2 x3_1).f1), .int .i64 ((rd_T66 l0_2 x3_1).f2), .int .i64 ((rd_T66 l0_2 x3_1).f3), .int .i64 0, .int .i64 0, .int .i64 0]) ?_ 4 _ rfl; (with_reducible repeat (first | refine blk_drewN ?_ _ | refine blk_drew ?_ | refine blk_alloc ?_ _)); refine blk_put (cs := #[.int .i64 ((rd_T66 l0_2 x3_1).f0), .int .i64 ((rd_T66 l0_2 x3_1).f1), .int .i64 ((rd_T66 l0_2 x3_1).f2), .int .i64 0, .int .i64 0, .int .i64 0, .int .i64 0]) ?_ 3 _ rfl; (with_reducible repeat (first | refine blk_drewN ?_ _ | refine blk_drew ?_ | refine blk_alloc ?_ _)); refine blk_put (cs := #[.int .i64 ((rd_T66 l0_2 x3_1).f0), .int .i64 ((rd_T66 l0_2 x3_1).f1), .int .i64 0, .int .i64 0, .int .i64 0, .int .i64 0, .int .i64 0]) ?_ 2 _ rfl; (with_reducible repeat (first | refine blk_drewN ?_ _ | refine blk_drew ?_ | refine blk_alloc ?_ _)); refine blk_put (cs := #[.int .i64 ((rd_T66 l0_2 x3_1).f0), .int .i64 0, .int .i64 0, .int .i64 0, .int .i64 0, .int .i64 0, .int .i64 0]) ?_ 1 _ rfl; (with_reducible repeat (first | refine blk_drewN ?_ _ | refine blk_drew ?_ | refine blk_alloc ?_ _)); refine blk_put (cs := #[.int .i64 0, .int .i64 0, .int .i64 0, .int .i64 0, .int .i64 0, .int .i64 0, .int .i64 0]) ?_ 0 _ rfl; (with_reducible repeat (first | refine blk_drewN ?_ _ | refine blk_drew ?_ | refine blk_alloc ?_ _)); exact BK177.out⟩, ⟨by repeat (first | (with_reducible first | exact HB.out | apply below_alloc | apply pw_below_drewN | apply below_drew1 | refine below_set ?_ GE175.out | refine below_set ?_ GE177.out) | exact HB.out)⟩⟩
         ·replace c17 := Bool.eq_false_iff.mpr c17
          subst c17
          have H1 : (skiarearef10_runs.j1 k1 x3_1 true l0_0 l0_1 l0_2 l0_3 ((rd_T66 l0_2 x3_1).f0) ((rd_T66 l0_2 x3_1).f1) ((rd_T66 l0_2 x3_1).f2) ((rd_T66 l0_2 x3_1).f3) ((rd_T66 l0_2 x3_1).f4) ((rd_T66 l0_2 x3_1).f5) ((rd_T66 l0_2 x3_1).f6)) = some r := by rw [if_neg (show ¬ (false = true) by decide)] at H; exact H
          clear H
          have H := H1
          clear H1
          have H' := Aside0.mk H
          clear H
          have hnb21 := NB177_175.out
          have hnc21 := NB175_177.out
          have hcz22_0 : w7.cell? ⟨gb177, 0, none⟩ = some (.int .i64 0) := (blk_cell BK177.out 0).trans rfl
          have hcz22_1 : w7.cell? ⟨gb177, 1, none⟩ = some (.int .i64 0) := (blk_cell BK177.out 1).trans rfl
          have hcz22_2 : w7.cell? ⟨gb177, 2, none⟩ = some (.int .i64 0) := (blk_cell BK177.out 2).trans rfl
          have hcz22_3 : w7.cell? ⟨gb177, 3, none⟩ = some (.int .i64 0) := (blk_cell BK177.out 3).trans rfl
          have hcz22_4 : w7.cell? ⟨gb177, 4, none⟩ = some (.int .i64 0) := (blk_cell BK177.out 4).trans rfl
          have hcz22_5 : w7.cell? ⟨gb177, 5, none⟩ = some (.int .i64 0) := (blk_cell BK177.out 5).trans rfl
          have hcz22_6 : w7.cell? ⟨gb177, 6, none⟩ = some (.int .i64 0) := (blk_cell BK177.out 6).trans rfl
          have hfz22_0 := blk_frozen BK177.out 0
          have hfz22_1 := blk_frozen BK177.out 1
          have hfz22_2 := blk_frozen BK177.out 2
          have hfz22_3 := blk_frozen BK177.out 3
          have hfz22_4 := blk_frozen BK177.out 4
          have hfz22_5 := blk_frozen BK177.out 5
          have hfz22_6 := blk_frozen BK177.out 6
          go_wp2_with (first | (go_at_call 38; (with_reducible refine (skiarearef10_in.calls ((rd_T66 l0_2 x3_1).f0) 1 9999 true _ A10.out).mono ?_); rintro e w' ⟨rfl, ⟨nd, rfl⟩⟩; (try first | exact ⟨rfl, _, World.drewN_drewN _ _ _⟩ | exact ⟨rfl, _, Eq.trans (World.drewN_drewN _ _ _) (congrArg (World.drewN _) (Nat.add_assoc _ _ _))⟩)) | (go_at_call 38; (with_reducible refine (skiarearef10_in.calls ((rd_T66 l0_2 x3_1).f1) 1 8 true _ A12.out).mono ?_); rintro e w' ⟨rfl, ⟨nd, rfl⟩⟩; (try first | exact ⟨rfl, _, World.drewN_drewN _ _ _⟩ | exact ⟨rfl, _, Eq.trans (World.drewN_drewN _ _ _) (congrArg (World.drewN _) (Nat.add_assoc _ _ _))⟩)) | (go_at_call 38; (with_reducible refine (skiarearef10_in.calls ((rd_T66 l0_2 x3_1).f4) 1 4 true _ A14.out).mono ?_); rintro e w' ⟨rfl, ⟨nd, rfl⟩⟩; (try first | exact ⟨rfl, _, World.drewN_drewN _ _ _⟩ | exact ⟨rfl, _, Eq.trans (World.drewN_drewN _ _ _) (congrArg (World.drewN _) (Nat.add_assoc _ _ _))⟩)) | (go_at_call 38; (with_reducible refine (skiarearef10_in.calls ((rd_T66 l0_2 x3_1).f5) 1 32 false _ A16.out).mono ?_); rintro e w' ⟨rfl, ⟨nd, rfl⟩⟩; (try first | exact ⟨rfl, _, World.drewN_drewN _ _ _⟩ | exact ⟨rfl, _, Eq.trans (World.drewN_drewN _ _ _) (congrArg (World.drewN _) (Nat.add_assoc _ _ _))⟩)))
          repeat (go_quiet (first | (go_at_call 38; (with_reducible refine (skiarearef10_in.calls ((rd_T66 l0_2 x3_1).f0) 1 9999 true _ A10.out).mono ?_); rintro e w' ⟨rfl, ⟨nd, rfl⟩⟩; (try first | exact ⟨rfl, _, World.drewN_drewN _ _ _⟩ | exact ⟨rfl, _, Eq.trans (World.drewN_drewN _ _ _) (congrArg (World.drewN _) (Nat.add_assoc _ _ _))⟩)) | (go_at_call 38; (with_reducible refine (skiarearef10_in.calls ((rd_T66 l0_2 x3_1).f1) 1 8 true _ A12.out).mono ?_); rintro e w' ⟨rfl, ⟨nd, rfl⟩⟩; (try first | exact ⟨rfl, _, World.drewN_drewN _ _ _⟩ | exact ⟨rfl, _, Eq.trans (World.drewN_drewN _ _ _) (congrArg (World.drewN _) (Nat.add_assoc _ _ _))⟩)) | (go_at_call 38; (with_reducible refine (skiarearef10_in.calls ((rd_T66 l0_2 x3_1).f4) 1 4 true _ A14.out).mono ?_); rintro e w' ⟨rfl, ⟨nd, rfl⟩⟩; (try first | exact ⟨rfl, _, World.drewN_drewN _ _ _⟩ | exact ⟨rfl, _, Eq.trans (World.drewN_drewN _ _ _) (congrArg (World.drewN _) (Nat.add_assoc _ _ _))⟩)) | (go_at_call 38; (with_reducible refine (skiarearef10_in.calls ((rd_T66 l0_2 x3_1).f5) 1 32 false _ A16.out).mono ?_); rintro e w' ⟨rfl, ⟨nd, rfl⟩⟩; (try first | exact ⟨rfl, _, World.drewN_drewN _ _ _⟩ | exact ⟨rfl, _, Eq.trans (World.drewN_drewN _ _ _) (congrArg (World.drewN _) (Nat.add_assoc _ _ _))⟩))); try go_wp2_with (first | (go_at_call 38; (with_reducible refine (skiarearef10_in.calls ((rd_T66 l0_2 x3_1).f0) 1 9999 true _ A10.out).mono ?_); rintro e w' ⟨rfl, ⟨nd, rfl⟩⟩; (try first | exact ⟨rfl, _, World.drewN_drewN _ _ _⟩ | exact ⟨rfl, _, Eq.trans (World.drewN_drewN _ _ _) (congrArg (World.drewN _) (Nat.add_assoc _ _ _))⟩)) | (go_at_call 38; (with_reducible refine (skiarearef10_in.calls ((rd_T66 l0_2 x3_1).f1) 1 8 true _ A12.out).mono ?_); rintro e w' ⟨rfl, ⟨nd, rfl⟩⟩; (try first | exact ⟨rfl, _, World.drewN_drewN _ _ _⟩ | exact ⟨rfl, _, Eq.trans (World.drewN_drewN _ _ _) (congrArg (World.drewN _) (Nat.add_assoc _ _ _))⟩)) | (go_at_call 38; (with_reducible refine (skiarearef10_in.calls ((rd_T66 l0_2 x3_1).f4) 1 4 true _ A14.out).mono ?_); rintro e w' ⟨rfl, ⟨nd, rfl⟩⟩; (try first | exact ⟨rfl, _, World.drewN_drewN _ _ _⟩ | exact ⟨rfl, _, Eq.trans (World.drewN_drewN _ _ _) (congrArg (World.drewN _) (Nat.add_assoc _ _ _))⟩)) | (go_at_call 38; (with_reducible refine (skiarearef10_in.calls ((rd_T66 l0_2 x3_1).f5) 1 32 false _ A16.out).mono ?_); rintro e w' ⟨rfl, ⟨nd, rfl⟩⟩; (try first | exact ⟨rfl, _, World.drewN_drewN _ _ _⟩ | exact ⟨rfl, _, Eq.trans (World.drewN_drewN _ _ _) (congrArg (World.drewN _) (Nat.add_assoc _ _ _))⟩))))
          go_meet
          case rel => exact ⟨_, (true), (by first | rfl | (simp; done) | (simp [*]; done)), H', ⟨by have := HK1.out; first | omega | exact Nat.le_refl _⟩, ⟨by (with_reducible repeat (first | refine blk_drewN ?_ _ | refine blk_drew ?_ | refine blk_alloc ?_ _)); refine blk_far ?_ NB175_177.out _; (with_reducible repeat (first | refine blk_drewN ?_ _ | refine blk_drew ?_ | refine blk_alloc ?_ _)); refine blk_far ?_ NB175_177.out _; (with_reducible repeat (first | refine blk_drewN ?_ _ | refine blk_drew ?_ | refine blk_alloc ?_ _)); refine blk_far ?_ NB175_177.out _; (with_reducible repeat (first | refine blk_drewN ?_ _ | refine blk_drew ?_ | refine blk_alloc ?_ _)); refine blk_far ?_ NB175_177.out _; (with_reducible repeat (first | refine blk_drewN ?_ _ | refine blk_drew ?_ | refine blk_alloc ?_ _)); refine blk_far ?_ NB175_177.out _; (with_reducible repeat (first | refine blk_drewN ?_ _ | refine blk_drew ?_ | refine blk_alloc ?_ _)); refine blk_far ?_ NB175_177.out _; (with_reducible repeat (first | refine blk_drewN ?_ _ | refine blk_drew ?_ | refine blk_alloc ?_ _)); refine blk_far ?_ NB175_177.out _; (with_reducible repeat (first | refine blk_drewN ?_ _ | refine blk_drew ?_ | refine blk_alloc ?_ _)); exact BK175.out⟩, ⟨by (with_reducible repeat (first | refine blk_drewN ?_ _ | refine blk_drew ?_ | refine blk_alloc ?_ _)); refine blk_put (cs := #[.int .i64 ((rd_T66 l0_2 x3_1).f0), .int .i64 ((rd_T66 l0_2 x3_1).f1), .int .i64 ((rd_T66 l0_2 x3_1).f2), .int .i64 ((rd_T66 l0_2 x3_1).f3), .int .i64 ((rd_T66 l0_2 x3_1).f4), .int .i64 ((rd_T66 l0_2 x3_1).f5), .int .i64 0]) ?_ 6 _ rfl; (with_reducible repeat (first | refine blk_drewN ?_ _ | refine blk_drew ?_ | refine blk_alloc ?_ _)); refine blk_put (cs := #[.int .i64 ((rd_T66 l0_2 x3_1).f0), .int .i64 ((rd_T66 l0_2 x3_1).f1), .int .i64 ((rd_T66 l0_2 x3_1).f2), .int .i64 ((rd_T66 l0_2 x3_1).f3), .int .i64 ((rd_T66 l0_2 x3_1).f4), .int .i64 0, .int .i64 0]) ?_ 5 _ rfl; (with_reducible repeat (first | refine blk_drewN ?_ _ | refine blk_drew ?_ | refine blk_alloc ?_ _)); refine blk_put (cs := #[.int .i64 ((rd_T66 l0_2 x3_1).f0), .int .i64 ((rd_T66 l0_2 x3_1).f1), .int .i64 ((rd_T66 l0_2 x3_1).f2), .int .i64 ((rd_T66 l0_2 x3_1).f3), .int .i64 0, .int .i64 0, .int .i64 0]) ?_ 4 _ rfl; (with_reducible repeat (first | refine blk_drewN ?_ _ | refine blk_drew ?_ | refine blk_alloc ?_ _)); refine blk_put (cs := #[.int .i64 ((rd_T66 l0_2 x3_1).f0), .int .i64 ((rd_T66 l0_2 x3_1).f1), .int .i64 ((rd_T66 l0_2 x3_1).f2), .int .i64 0, .int .i64 0, .int .i64 0, .int .i64 0]) ?_ 3 _ rfl; (with_reducible repeat (first | refine blk_drewN ?_ _ | refine blk_drew ?_ | refine blk_alloc ?_ _)); refine blk_put (cs := #[.int .i64 ((rd_T66 l0_2 x3_1).f0), .int .i64 ((rd_T66 l0_2 x3_1).f1), .int .i64 0, .int .i64 0, .int .i64 0, .int .i64 0, .int .i64 0]) ?_ 2 _ rfl; (with_reducible repeat (first | refine blk_drewN ?_ _ | refine blk_drew ?_ | refine blk_alloc ?_ _)); refine blk_put (cs := #[.int .i64 ((rd_T66 l0_2 x3_1).f0), .int .i64 0, .int .i64 0, .int .i64 0, .int .i64 0, .int .i64 0, .int .i64 0]) ?_ 1 _ rfl; (with_reducible repeat (first | refine blk_drewN ?_ _ | refine blk_drew ?_ | refine blk_alloc ?_ _)); refine blk_put (cs := #[.int .i64 0, .int .i64 0, .int .i64 0, .int .i64 0, .int .i64 0, .int .i64 0, .int .i64 0]) ?_ 0 _ rfl; (with_reducible repeat (first | refine blk_drewN ?_ _ | refine blk_drew ?_ | refine blk_alloc ?_ _)); exact BK177.out⟩, ⟨by repeat (first | (with_reducible first | exact HB.out | apply below_alloc | apply pw_below_drewN | apply below_drew1 | refine below_set ?_ GE175.out | refine below_set ?_ GE177.out) | exact HB.out)⟩⟩
        ·replace c15 := Bool.eq_false_iff.mpr c15
         subst c15
         have H1 : (skiarearef10_runs.j1 k1 x3_1 true l0_0 l0_1 l0_2 l0_3 ((rd_T66 l0_2 x3_1).f0) ((rd_T66 l0_2 x3_1).f1) ((rd_T66 l0_2 x3_1).f2) ((rd_T66 l0_2 x3_1).f3) ((rd_T66 l0_2 x3_1).f4) ((rd_T66 l0_2 x3_1).f5) ((rd_T66 l0_2 x3_1).f6)) = some r := by rw [if_neg (show ¬ (false = true) by decide)] at H; exact H
         clear H
         have H := H1
         clear H1
         have H' := Aside0.mk H
         clear H
         have hnb23 := NB177_175.out
         have hnc23 := NB175_177.out
         have hcz24_0 : w7.cell? ⟨gb177, 0, none⟩ = some (.int .i64 0) := (blk_cell BK177.out 0).trans rfl
         have hcz24_1 : w7.cell? ⟨gb177, 1, none⟩ = some (.int .i64 0) := (blk_cell BK177.out 1).trans rfl
         have hcz24_2 : w7.cell? ⟨gb177, 2, none⟩ = some (.int .i64 0) := (blk_cell BK177.out 2).trans rfl
         have hcz24_3 : w7.cell? ⟨gb177, 3, none⟩ = some (.int .i64 0) := (blk_cell BK177.out 3).trans rfl
         have hcz24_4 : w7.cell? ⟨gb177, 4, none⟩ = some (.int .i64 0) := (blk_cell BK177.out 4).trans rfl
         have hcz24_5 : w7.cell? ⟨gb177, 5, none⟩ = some (.int .i64 0) := (blk_cell BK177.out 5).trans rfl
         have hcz24_6 : w7.cell? ⟨gb177, 6, none⟩ = some (.int .i64 0) := (blk_cell BK177.out 6).trans rfl
         have hfz24_0 := blk_frozen BK177.out 0
         have hfz24_1 := blk_frozen BK177.out 1
         have hfz24_2 := blk_frozen BK177.out 2
         have hfz24_3 := blk_frozen BK177.out 3
         have hfz24_4 := blk_frozen BK177.out 4
         have hfz24_5 := blk_frozen BK177.out 5
         have hfz24_6 := blk_frozen BK177.out 6
         go_wp2_with (first | (go_at_call 38; (with_reducible refine (skiarearef10_in.calls ((rd_T66 l0_2 x3_1).f0) 1 9999 true _ A10.out).mono ?_); rintro e w' ⟨rfl, ⟨nd, rfl⟩⟩; (try first | exact ⟨rfl, _, World.drewN_drewN _ _ _⟩ | exact ⟨rfl, _, Eq.trans (World.drewN_drewN _ _ _) (congrArg (World.drewN _) (Nat.add_assoc _ _ _))⟩)) | (go_at_call 38; (with_reducible refine (skiarearef10_in.calls ((rd_T66 l0_2 x3_1).f1) 1 8 true _ A12.out).mono ?_); rintro e w' ⟨rfl, ⟨nd, rfl⟩⟩; (try first | exact ⟨rfl, _, World.drewN_drewN _ _ _⟩ | exact ⟨rfl, _, Eq.trans (World.drewN_drewN _ _ _) (congrArg (World.drewN _) (Nat.add_assoc _ _ _))⟩)) | (go_at_call 38; (with_reducible refine (skiarearef10_in.calls ((rd_T66 l0_2 x3_1).f4) 1 4 false _ A14.out).mono ?_); rintro e w' ⟨rfl, ⟨nd, rfl⟩⟩; (try first | exact ⟨rfl, _, World.drewN_drewN _ _ _⟩ | exact ⟨rfl, _, Eq.trans (World.drewN_drewN _ _ _) (congrArg (World.drewN _) (Nat.add_assoc _ _ _))⟩)))
         repeat (go_quiet (first | (go_at_call 38; (with_reducible refine (skiarearef10_in.calls ((rd_T66 l0_2 x3_1).f0) 1 9999 true _ A10.out).mono ?_); rintro e w' ⟨rfl, ⟨nd, rfl⟩⟩; (try first | exact ⟨rfl, _, World.drewN_drewN _ _ _⟩ | exact ⟨rfl, _, Eq.trans (World.drewN_drewN _ _ _) (congrArg (World.drewN _) (Nat.add_assoc _ _ _))⟩)) | (go_at_call 38; (with_reducible refine (skiarearef10_in.calls ((rd_T66 l0_2 x3_1).f1) 1 8 true _ A12.out).mono ?_); rintro e w' ⟨rfl, ⟨nd, rfl⟩⟩; (try first | exact ⟨rfl, _, World.drewN_drewN _ _ _⟩ | exact ⟨rfl, _, Eq.trans (World.drewN_drewN _ _ _) (congrArg (World.drewN _) (Nat.add_assoc _ _ _))⟩)) | (go_at_call 38; (with_reducible refine (skiarearef10_in.calls ((rd_T66 l0_2 x3_1).f4) 1 4 false _ A14.out).mono ?_); rintro e w' ⟨rfl, ⟨nd, rfl⟩⟩; (try first | exact ⟨rfl, _, World.drewN_drewN _ _ _⟩ | exact ⟨rfl, _, Eq.trans (World.drewN_drewN _ _ _) (congrArg (World.drewN _) (Nat.add_assoc _ _ _))⟩))); try go_wp2_with (first | (go_at_call 38; (with_reducible refine (skiarearef10_in.calls ((rd_T66 l0_2 x3_1).f0) 1 9999 true _ A10.out).mono ?_); rintro e w' ⟨rfl, ⟨nd, rfl⟩⟩; (try first | exact ⟨rfl, _, World.drewN_drewN _ _ _⟩ | exact ⟨rfl, _, Eq.trans (World.drewN_drewN _ _ _) (congrArg (World.drewN _) (Nat.add_assoc _ _ _))⟩)) | (go_at_call 38; (with_reducible refine (skiarearef10_in.calls ((rd_T66 l0_2 x3_1).f1) 1 8 true _ A12.out).mono ?_); rintro e w' ⟨rfl, ⟨nd, rfl⟩⟩; (try first | exact ⟨rfl, _, World.drewN_drewN _ _ _⟩ | exact ⟨rfl, _, Eq.trans (World.drewN_drewN _ _ _) (congrArg (World.drewN _) (Nat.add_assoc _ _ _))⟩)) | (go_at_call 38; (with_reducible refine (skiarearef10_in.calls ((rd_T66 l0_2 x3_1).f4) 1 4 false _ A14.out).mono ?_); rintro e w' ⟨rfl, ⟨nd, rfl⟩⟩; (try first | exact ⟨rfl, _, World.drewN_drewN _ _ _⟩ | exact ⟨rfl, _, Eq.trans (World.drewN_drewN _ _ _) (congrArg (World.drewN _) (Nat.add_assoc _ _ _))⟩))))
         go_meet
         case rel => exact ⟨_, (true), (by first | rfl | (simp; done) | (simp [*]; done)), H', ⟨by have := HK1.out; first | omega | exact Nat.le_refl _⟩, ⟨by (with_reducible repeat (first | refine blk_drewN ?_ _ | refine blk_drew ?_ | refine blk_alloc ?_ _)); refine blk_far ?_ NB175_177.out _; (with_reducible repeat (first | refine blk_drewN ?_ _ | refine blk_drew ?_ | refine blk_alloc ?_ _)); refine blk_far ?_ NB175_177.out _; (with_reducible repeat (first | refine blk_drewN ?_ _ | refine blk_drew ?_ | refine blk_alloc ?_ _)); refine blk_far ?_ NB175_177.out _; (with_reducible repeat (first | refine blk_drewN ?_ _ | refine blk_drew ?_ | refine blk_alloc ?_ _)); refine blk_far ?_ NB175_177.out _; (with_reducible repeat (first | refine blk_drewN ?_ _ | refine blk_drew ?_ | refine blk_alloc ?_ _)); refine blk_far ?_ NB175_177.out _; (with_reducible repeat (first | refine blk_drewN ?_ _ | refine blk_drew ?_ | refine blk_alloc ?_ _)); refine blk_far ?_ NB175_177.out _; (with_reducible repeat (first | refine blk_drewN ?_ _ | refine blk_drew ?_ | refine blk_alloc ?_ _)); refine blk_far ?_ NB175_177.out _; (with_reducible repeat (first | refine blk_drewN ?_ _ | refine blk_drew ?_ | refine blk_alloc ?_ _)); exact BK175.out⟩, ⟨by (with_reducible repeat (first | refine blk_drewN ?_ _ | refine blk_drew ?_ | refine blk_alloc ?_ _)); refine blk_put (cs := #[.int .i64 ((rd_T66 l0_2 x3_1).f0), .int .i64 ((rd_T66 l0_2 x3_1).f1), .int .i64 ((rd_T66 l0_2 x3_1).f2), .int .i64 ((rd_T66 l0_2 x3_1).f3), .int .i64 ((rd_T66 l0_2 x3_1).f4), .int .i64 ((rd_T66 l0_2 x3_1).f5), .int .i64 0]) ?_ 6 _ rfl; (with_reducible repeat (first | refine blk_drewN ?_ _ | refine blk_drew ?_ | refine blk_alloc ?_ _)); refine blk_put (cs := #[.int .i64 ((rd_T66 l0_2 x3_1).f0), .int .i64 ((rd_T66 l0_2 x3_1).f1), .int .i64 ((rd_T66 l0_2 x3_1).f2), .int .i64 ((rd_T66 l0_2 x3_1).f3), .int .i64 ((rd_T66 l0_2 x3_1).f4), .int .i64 0, .int .i64 0]) ?_ 5 _ rfl; (with_reducible repeat (first | refine blk_drewN ?_ _ | refine blk_drew ?_ | refine blk_alloc ?_ _)); refine blk_put (cs := #[.int .i64 ((rd_T66 l0_2 x3_1).f0), .int .i64 ((rd_T66 l0_2 x3_1).f1), .int .i64 ((rd_T66 l0_2 x3_1).f2), .int .i64 ((rd_T66 l0_2 x3_1).f3), .int .i64 0, .int .i64 0, .int .i64 0]) ?_ 4 _ rfl; (with_reducible repeat (first | refine blk_drewN ?_ _ | refine blk_drew ?_ | refine blk_alloc ?_ _)); refine blk_put (cs := #[.int .i64 ((rd_T66 l0_2 x3_1).f0), .int .i64 ((rd_T66 l0_2 x3_1).f1), .int .i64 ((rd_T66 l0_2 x3_1).f2), .int .i64 0, .int .i64 0, .int .i64 0, .int .i64 0]) ?_ 3 _ rfl; (with_reducible repeat (first | refine blk_drewN ?_ _ | refine blk_drew ?_ | refine blk_alloc ?_ _)); refine blk_put (cs := #[.int .i64 ((rd_T66 l0_2 x3_1).f0), .int .i64 ((rd_T66 l0_2 x3_1).f1), .int .i64 0, .int .i64 0, .int .i64 0, .int .i64 0, .int .i64 0]) ?_ 2 _ rfl; (with_reducible repeat (first | refine blk_drewN ?_ _ | refine blk_drew ?_ | refine blk_alloc ?_ _)); refine blk_put (cs := #[.int .i64 ((rd_T66 l0_2 x3_1).f0), .int .i64 0, .int .i64 0, .int .i64 0, .int .i64 0, .int .i64 0, .int .i64 0]) ?_ 1 _ rfl; (with_reducible repeat (first | refine blk_drewN ?_ _ | refine blk_drew ?_ | refine blk_alloc ?_ _)); refine blk_put (cs := #[.int .i64 0, .int .i64 0, .int .i64 0, .int .i64 0, .int .i64 0, .int .i64 0, .int .i64 0]) ?_ 0 _ rfl; (with_reducible repeat (first | refine blk_drewN ?_ _ | refine blk_drew ?_ | refine blk_alloc ?_ _)); exact BK177.out⟩, ⟨by repeat (first | (with_reducible first | exact HB.out | apply below_alloc | apply pw_below_drewN | apply below_drew1 | refine below_set ?_ GE175.out | refine below_set ?_ GE177.out) | exact HB.out)⟩⟩
       ·replace c13 := Bool.eq_false_iff.mpr c13
        subst c13
        have H1 : (skiarearef10_runs.j1 k1 x3_1 true l0_0 l0_1 l0_2 l0_3 ((rd_T66 l0_2 x3_1).f0) ((rd_T66 l0_2 x3_1).f1) ((rd_T66 l0_2 x3_1).f2) ((rd_T66 l0_2 x3_1).f3) ((rd_T66 l0_2 x3_1).f4) ((rd_T66 l0_2 x3_1).f5) ((rd_T66 l0_2 x3_1).f6)) = some r := by rw [if_neg (show ¬ (false = true) by decide)] at H; exact H
        clear H
        have H := H1
        clear H1
        have H' := Aside0.mk H
        clear H
        have hnb25 := NB177_175.out
        have hnc25 := NB175_177.out
        have hcz26_0 : w7.cell? ⟨gb177, 0, none⟩ = some (.int .i64 0) := (blk_cell BK177.out 0).trans rfl
        have hcz26_1 : w7.cell? ⟨gb177, 1, none⟩ = some (.int .i64 0) := (blk_cell BK177.out 1).trans rfl
        have hcz26_2 : w7.cell? ⟨gb177, 2, none⟩ = some (.int .i64 0) := (blk_cell BK177.out 2).trans rfl
        have hcz26_3 : w7.cell? ⟨gb177, 3, none⟩ = some (.int .i64 0) := (blk_cell BK177.out 3).trans rfl
        have hcz26_4 : w7.cell? ⟨gb177, 4, none⟩ = some (.int .i64 0) := (blk_cell BK177.out 4).trans rfl
        have hcz26_5 : w7.cell? ⟨gb177, 5, none⟩ = some (.int .i64 0) := (blk_cell BK177.out 5).trans rfl
        have hcz26_6 : w7.cell? ⟨gb177, 6, none⟩ = some (.int .i64 0) := (blk_cell BK177.out 6).trans rfl
        have hfz26_0 := blk_frozen BK177.out 0
        have hfz26_1 := blk_frozen BK177.out 1
        have hfz26_2 := blk_frozen BK177.out 2
        have hfz26_3 := blk_frozen BK177.out 3
        have hfz26_4 := blk_frozen BK177.out 4
        have hfz26_5 := blk_frozen BK177.out 5
        have hfz26_6 := blk_frozen BK177.out 6
        go_wp2_with (first | (go_at_call 38; (with_reducible refine (skiarearef10_in.calls ((rd_T66 l0_2 x3_1).f0) 1 9999 true _ A10.out).mono ?_); rintro e w' ⟨rfl, ⟨nd, rfl⟩⟩; (try first | exact ⟨rfl, _, World.drewN_drewN _ _ _⟩ | exact ⟨rfl, _, Eq.trans (World.drewN_drewN _ _ _) (congrArg (World.drewN _) (Nat.add_assoc _ _ _))⟩)) | (go_at_call 38; (with_reducible refine (skiarearef10_in.calls ((rd_T66 l0_2 x3_1).f1) 1 8 false _ A12.out).mono ?_); rintro e w' ⟨rfl, ⟨nd, rfl⟩⟩; (try first | exact ⟨rfl, _, World.drewN_drewN _ _ _⟩ | exact ⟨rfl, _, Eq.trans (World.drewN_drewN _ _ _) (congrArg (World.drewN _) (Nat.add_assoc _ _ _))⟩)))
        repeat (go_quiet (first | (go_at_call 38; (with_reducible refine (skiarearef10_in.calls ((rd_T66 l0_2 x3_1).f0) 1 9999 true _ A10.out).mono ?_); rintro e w' ⟨rfl, ⟨nd, rfl⟩⟩; (try first | exact ⟨rfl, _, World.drewN_drewN _ _ _⟩ | exact ⟨rfl, _, Eq.trans (World.drewN_drewN _ _ _) (congrArg (World.drewN _) (Nat.add_assoc _ _ _))⟩)) | (go_at_call 38; (with_reducible refine (skiarearef10_in.calls ((rd_T66 l0_2 x3_1).f1) 1 8 false _ A12.out).mono ?_); rintro e w' ⟨rfl, ⟨nd, rfl⟩⟩; (try first | exact ⟨rfl, _, World.drewN_drewN _ _ _⟩ | exact ⟨rfl, _, Eq.trans (World.drewN_drewN _ _ _) (congrArg (World.drewN _) (Nat.add_assoc _ _ _))⟩))); try go_wp2_with (first | (go_at_call 38; (with_reducible refine (skiarearef10_in.calls ((rd_T66 l0_2 x3_1).f0) 1 9999 true _ A10.out).mono ?_); rintro e w' ⟨rfl, ⟨nd, rfl⟩⟩; (try first | exact ⟨rfl, _, World.drewN_drewN _ _ _⟩ | exact ⟨rfl, _, Eq.trans (World.drewN_drewN _ _ _) (congrArg (World.drewN _) (Nat.add_assoc _ _ _))⟩)) | (go_at_call 38; (with_reducible refine (skiarearef10_in.calls ((rd_T66 l0_2 x3_1).f1) 1 8 false _ A12.out).mono ?_); rintro e w' ⟨rfl, ⟨nd, rfl⟩⟩; (try first | exact ⟨rfl, _, World.drewN_drewN _ _ _⟩ | exact ⟨rfl, _, Eq.trans (World.drewN_drewN _ _ _) (congrArg (World.drewN _) (Nat.add_assoc _ _ _))⟩))))
        go_meet
        case rel => exact ⟨_, (true), (by first | rfl | (simp; done) | (simp [*]; done)), H', ⟨by have := HK1.out; first | omega | exact Nat.le_refl _⟩, ⟨by (with_reducible repeat (first | refine blk_drewN ?_ _ | refine blk_drew ?_ | refine blk_alloc ?_ _)); refine blk_far ?_ NB175_177.out _; (with_reducible repeat (first | refine blk_drewN ?_ _ | refine blk_drew ?_ | refine blk_alloc ?_ _)); refine blk_far ?_ NB175_177.out _; (with_reducible repeat (first | refine blk_drewN ?_ _ | refine blk_drew ?_ | refine blk_alloc ?_ _)); refine blk_far ?_ NB175_177.out _; (with_reducible repeat (first | refine blk_drewN ?_ _ | refine blk_drew ?_ | refine blk_alloc ?_ _)); refine blk_far ?_ NB175_177.out _; (with_reducible repeat (first | refine blk_drewN ?_ _ | refine blk_drew ?_ | refine blk_alloc ?_ _)); refine blk_far ?_ NB175_177.out _; (with_reducible repeat (first | refine blk_drewN ?_ _ | refine blk_drew ?_ | refine blk_alloc ?_ _)); refine blk_far ?_ NB175_177.out _; (with_reducible repeat (first | refine blk_drewN ?_ _ | refine blk_drew ?_ | refine blk_alloc ?_ _)); refine blk_far ?_ NB175_177.out _; (with_reducible repeat (first | refine blk_drewN ?_ _ | refine blk_drew ?_ | refine blk_alloc ?_ _)); exact BK175.out⟩, ⟨by (with_reducible repeat (first | refine blk_drewN ?_ _ | refine blk_drew ?_ | refine blk_alloc ?_ _)); refine blk_put (cs := #[.int .i64 ((rd_T66 l0_2 x3_1).f0), .int .i64 ((rd_T66 l0_2 x3_1).f1), .int .i64 ((rd_T66 l0_2 x3_1).f2), .int .i64 ((rd_T66 l0_2 x3_1).f3), .int .i64 ((rd_T66 l0_2 x3_1).f4), .int .i64 ((rd_T66 l0_2 x3_1).f5), .int .i64 0]) ?_ 6 _ rfl; (with_reducible repeat (first | refine blk_drewN ?_ _ | refine blk_drew ?_ | refine blk_alloc ?_ _)); refine blk_put (cs := #[.int .i64 ((rd_T66 l0_2 x3_1).f0), .int .i64 ((rd_T66 l0_2 x3_1).f1), .int .i64 ((rd_T66 l0_2 x3_1).f2), .int .i64 ((rd_T66 l0_2 x3_1).f3), .int .i64 ((rd_T66 l0_2 x3_1).f4), .int .i64 0, .int .i64 0]) ?_ 5 _ rfl; (with_reducible repeat (first | refine blk_drewN ?_ _ | refine blk_drew ?_ | refine blk_alloc ?_ _)); refine blk_put (cs := #[.int .i64 ((rd_T66 l0_2 x3_1).f0), .int .i64 ((rd_T66 l0_2 x3_1).f1), .int .i64 ((rd_T66 l0_2 x3_1).f2), .int .i64 ((rd_T66 l0_2 x3_1).f3), .int .i64 0, .int .i64 0, .int .i64 0]) ?_ 4 _ rfl; (with_reducible repeat (first | refine blk_drewN ?_ _ | refine blk_drew ?_ | refine blk_alloc ?_ _)); refine blk_put (cs := #[.int .i64 ((rd_T66 l0_2 x3_1).f0), .int .i64 ((rd_T66 l0_2 x3_1).f1), .int .i64 ((rd_T66 l0_2 x3_1).f2), .int .i64 0, .int .i64 0, .int .i64 0, .int .i64 0]) ?_ 3 _ rfl; (with_reducible repeat (first | refine blk_drewN ?_ _ | refine blk_drew ?_ | refine blk_alloc ?_ _)); refine blk_put (cs := #[.int .i64 ((rd_T66 l0_2 x3_1).f0), .int .i64 ((rd_T66 l0_2 x3_1).f1), .int .i64 0, .int .i64 0, .int .i64 0, .int .i64 0, .int .i64 0]) ?_ 2 _ rfl; (with_reducible repeat (first | refine blk_drewN ?_ _ | refine blk_drew ?_ | refine blk_alloc ?_ _)); refine blk_put (cs := #[.int .i64 ((rd_T66 l0_2 x3_1).f0), .int .i64 0, .int .i64 0, .int .i64 0, .int .i64 0, .int .i64 0, .int .i64 0]) ?_ 1 _ rfl; (with_reducible repeat (first | refine blk_drewN ?_ _ | refine blk_drew ?_ | refine blk_alloc ?_ _)); refine blk_put (cs := #[.int .i64 0, .int .i64 0, .int .i64 0, .int .i64 0, .int .i64 0, .int .i64 0, .int .i64 0]) ?_ 0 _ rfl; (with_reducible repeat (first | refine blk_drewN ?_ _ | refine blk_drew ?_ | refine blk_alloc ?_ _)); exact BK177.out⟩, ⟨by repeat (first | (with_reducible first | exact HB.out | apply below_alloc | apply pw_below_drewN | apply below_drew1 | refine below_set ?_ GE175.out | refine below_set ?_ GE177.out) | exact HB.out)⟩⟩
      ·replace c11 := Bool.eq_false_iff.mpr c11
       subst c11
       have H1 : (skiarearef10_runs.j1 k1 x3_1 true l0_0 l0_1 l0_2 l0_3 ((rd_T66 l0_2 x3_1).f0) ((rd_T66 l0_2 x3_1).f1) ((rd_T66 l0_2 x3_1).f2) ((rd_T66 l0_2 x3_1).f3) ((rd_T66 l0_2 x3_1).f4) ((rd_T66 l0_2 x3_1).f5) ((rd_T66 l0_2 x3_1).f6)) = some r := by rw [if_neg (show ¬ (false = true) by decide)] at H; exact H
       clear H
       have H := H1
       clear H1
       have H' := Aside0.mk H
       clear H
       have hnb27 := NB177_175.out
       have hnc27 := NB175_177.out
       have hcz28_0 : w7.cell? ⟨gb177, 0, none⟩ = some (.int .i64 0) := (blk_cell BK177.out 0).trans rfl
       have hcz28_1 : w7.cell? ⟨gb177, 1, none⟩ = some (.int .i64 0) := (blk_cell BK177.out 1).trans rfl
       have hcz28_2 : w7.cell? ⟨gb177, 2, none⟩ = some (.int .i64 0) := (blk_cell BK177.out 2).trans rfl
       have hcz28_3 : w7.cell? ⟨gb177, 3, none⟩ = some (.int .i64 0) := (blk_cell BK177.out 3).trans rfl
       have hcz28_4 : w7.cell? ⟨gb177, 4, none⟩ = some (.int .i64 0) := (blk_cell BK177.out 4).trans rfl
       have hcz28_5 : w7.cell? ⟨gb177, 5, none⟩ = some (.int .i64 0) := (blk_cell BK177.out 5).trans rfl
       have hcz28_6 : w7.cell? ⟨gb177, 6, none⟩ = some (.int .i64 0) := (blk_cell BK177.out 6).trans rfl
       have hfz28_0 := blk_frozen BK177.out 0
       have hfz28_1 := blk_frozen BK177.out 1
       have hfz28_2 := blk_frozen BK177.out 2
       have hfz28_3 := blk_frozen BK177.out 3
       have hfz28_4 := blk_frozen BK177.out 4
       have hfz28_5 := blk_frozen BK177.out 5
       have hfz28_6 := blk_frozen BK177.out 6
       go_wp2_with (first | (go_at_call 38; (with_reducible refine (skiarearef10_in.calls ((rd_T66 l0_2 x3_1).f0) 1 9999 false _ A10.out).mono ?_); rintro e w' ⟨rfl, ⟨nd, rfl⟩⟩; (try first | exact ⟨rfl, _, World.drewN_drewN _ _ _⟩ | exact ⟨rfl, _, Eq.trans (World.drewN_drewN _ _ _) (congrArg (World.drewN _) (Nat.add_assoc _ _ _))⟩)))
       repeat (go_quiet (first | (go_at_call 38; (with_reducible refine (skiarearef10_in.calls ((rd_T66 l0_2 x3_1).f0) 1 9999 false _ A10.out).mono ?_); rintro e w' ⟨rfl, ⟨nd, rfl⟩⟩; (try first | exact ⟨rfl, _, World.drewN_drewN _ _ _⟩ | exact ⟨rfl, _, Eq.trans (World.drewN_drewN _ _ _) (congrArg (World.drewN _) (Nat.add_assoc _ _ _))⟩))); try go_wp2_with (first | (go_at_call 38; (with_reducible refine (skiarearef10_in.calls ((rd_T66 l0_2 x3_1).f0) 1 9999 false _ A10.out).mono ?_); rintro e w' ⟨rfl, ⟨nd, rfl⟩⟩; (try first | exact ⟨rfl, _, World.drewN_drewN _ _ _⟩ | exact ⟨rfl, _, Eq.trans (World.drewN_drewN _ _ _) (congrArg (World.drewN _) (Nat.add_assoc _ _ _))⟩))))
       go_meet
       case rel => exact ⟨_, (true), (by first | rfl | (simp; done) | (simp [*]; done)), H', ⟨by have := HK1.out; first | omega | exact Nat.le_refl _⟩, ⟨by (with_reducible repeat (first | refine blk_drewN ?_ _ | refine blk_drew ?_ | refine blk_alloc ?_ _)); refine blk_far ?_ NB175_177.out _; (with_reducible repeat (first | refine blk_drewN ?_ _ | refine blk_drew ?_ | refine blk_alloc ?_ _)); refine blk_far ?_ NB175_177.out _; (with_reducible repeat (first | refine blk_drewN ?_ _ | refine blk_drew ?_ | refine blk_alloc ?_ _)); refine blk_far ?_ NB175_177.out _; (with_reducible repeat (first | refine blk_drewN ?_ _ | refine blk_drew ?_ | refine blk_alloc ?_ _)); refine blk_far ?_ NB175_177.out _; (with_reducible repeat (first | refine blk_drewN ?_ _ | refine blk_drew ?_ | refine blk_alloc ?_ _)); refine blk_far ?_ NB175_177.out _; (with_reducible repeat (first | refine blk_drewN ?_ _ | refine blk_drew ?_ | refine blk_alloc ?_ _)); refine blk_far ?_ NB175_177.out _; (with_reducible repeat (first | refine blk_drewN ?_ _ | refine blk_drew ?_ | refine blk_alloc ?_ _)); refine blk_far ?_ NB175_177.out _; (with_reducible repeat (first | refine blk_drewN ?_ _ | refine blk_drew ?_ | refine blk_alloc ?_ _)); exact BK175.out⟩, ⟨by (with_reducible repeat (first | refine blk_drewN ?_ _ | refine blk_drew ?_ | refine blk_alloc ?_ _)); refine blk_put (cs := #[.int .i64 ((rd_T66 l0_2 x3_1).f0), .int .i64 ((rd_T66 l0_2 x3_1).f1), .int .i64 ((rd_T66 l0_2 x3_1).f2), .int .i64 ((rd_T66 l0_2 x3_1).f3), .int .i64 ((rd_T66 l0_2 x3_1).f4), .int .i64 ((rd_T66 l0_2 x3_1).f5), .int .i64 0]) ?_ 6 _ rfl; (with_reducible repeat (first | refine blk_drewN ?_ _ | refine blk_drew ?_ | refine blk_alloc ?_ _)); refine blk_put (cs := #[.int .i64 ((rd_T66 l0_2 x3_1).f0), .int .i64 ((rd_T66 l0_2 x3_1).f1), .int .i64 ((rd_T66 l0_2 x3_1).f2), .int .i64 ((rd_T66 l0_2 x3_1).f3), .int .i64 ((rd_T66 l0_2 x3_1).f4), .int .i64 0, .int .i64 0]) ?_ 5 _ rfl; (with_reducible repeat (first | refine blk_drewN ?_ _ | refine blk_drew ?_ | refine blk_alloc ?_ _)); refine blk_put (cs := #[.int .i64 ((rd_T66 l0_2 x3_1).f0), .int .i64 ((rd_T66 l0_2 x3_1).f1), .int .i64 ((rd_T66 l0_2 x3_1).f2), .int .i64 ((rd_T66 l0_2 x3_1).f3), .int .i64 0, .int .i64 0, .int .i64 0]) ?_ 4 _ rfl; (with_reducible repeat (first | refine blk_drewN ?_ _ | refine blk_drew ?_ | refine blk_alloc ?_ _)); refine blk_put (cs := #[.int .i64 ((rd_T66 l0_2 x3_1).f0), .int .i64 ((rd_T66 l0_2 x3_1).f1), .int .i64 ((rd_T66 l0_2 x3_1).f2), .int .i64 0, .int .i64 0, .int .i64 0, .int .i64 0]) ?_ 3 _ rfl; (with_reducible repeat (first | refine blk_drewN ?_ _ | refine blk_drew ?_ | refine blk_alloc ?_ _)); refine blk_put (cs := #[.int .i64 ((rd_T66 l0_2 x3_1).f0), .int .i64 ((rd_T66 l0_2 x3_1).f1), .int .i64 0, .int .i64 0, .int .i64 0, .int .i64 0, .int .i64 0]) ?_ 2 _ rfl; (with_reducible repeat (first | refine blk_drewN ?_ _ | refine blk_drew ?_ | refine blk_alloc ?_ _)); refine blk_put (cs := #[.int .i64 ((rd_T66 l0_2 x3_1).f0), .int .i64 0, .int .i64 0, .int .i64 0, .int .i64 0, .int .i64 0, .int .i64 0]) ?_ 1 _ rfl; (with_reducible repeat (first | refine blk_drewN ?_ _ | refine blk_drew ?_ | refine blk_alloc ?_ _)); refine blk_put (cs := #[.int .i64 0, .int .i64 0, .int .i64 0, .int .i64 0, .int .i64 0, .int .i64 0, .int .i64 0]) ?_ 0 _ rfl; (with_reducible repeat (first | refine blk_drewN ?_ _ | refine blk_drew ?_ | refine blk_alloc ?_ _)); exact BK177.out⟩, ⟨by repeat (first | (with_reducible first | exact HB.out | apply below_alloc | apply pw_below_drewN | apply below_drew1 | refine below_set ?_ GE175.out | refine below_set ?_ GE177.out) | exact HB.out)⟩⟩
     case rest =>
      clear HC5
      try clear c1
      try clear p1
      try clear q1
      try clear hx1
      try clear c2
      try clear p2
      try clear c3
      try clear c3b0
      try clear c4
      try clear c4b0
      try clear c8
      try clear c11
      try clear c13
      try clear c15
      try clear c17
      try clear p17
      try clear q17
      try clear hx17
      try clear c19
      try clear c21
      try clear c23
      try clear c25
      try clear c27
      try clear hcz20_0
      try clear hcz20_1
      try clear hcz20_2
      try clear hcz20_3
      try clear hcz20_4
      try clear hcz20_5
      try clear hcz20_6
      try clear hcz22_0
      try clear hcz22_1
      try clear hcz22_2
      try clear hcz22_3
      try clear hcz22_4
      try clear hcz22_5
      try clear hcz22_6
      try clear hcz24_0
      try clear hcz24_1
      try clear hcz24_2
      try clear hcz24_3
      try clear hcz24_4
      try clear hcz24_5
      try clear hcz24_6
      try clear hcz26_0
      try clear hcz26_1
      try clear hcz26_2
      try clear hcz26_3
      try clear hcz26_4
      try clear hcz26_5
      try clear hcz26_6
      try clear hcz28_0
      try clear hcz28_1
      try clear hcz28_2
      try clear hcz28_3
      try clear hcz28_4
      try clear hcz28_5
      try clear hcz28_6
      try clear hcz6_0
      try clear hcz6_1
      try clear hcz6_2
      try clear hcz6_3
      try clear hcz9_0
      try clear hcz9_1
      try clear hcz9_2
      try clear hcz9_3
      try clear hcz9_4
      try clear hcz9_5
      try clear hcz9_6
      try clear hfz20_0
      try clear hfz20_1
      try clear hfz20_2
      try clear hfz20_3
      try clear hfz20_4
      try clear hfz20_5
      try clear hfz20_6
      try clear hfz22_0
      try clear hfz22_1
      try clear hfz22_2
      try clear hfz22_3
      try clear hfz22_4
      try clear hfz22_5
      try clear hfz22_6
      try clear hfz24_0
      try clear hfz24_1
      try clear hfz24_2
      try clear hfz24_3
      try clear hfz24_4
      try clear hfz24_5
      try clear hfz24_6
      try clear hfz26_0
      try clear hfz26_1
      try clear hfz26_2
      try clear hfz26_3
      try clear hfz26_4
      try clear hfz26_5
      try clear hfz26_6
      try clear hfz28_0
      try clear hfz28_1
      try clear hfz28_2
      try clear hfz28_3
      try clear hfz28_4
      try clear hfz28_5
      try clear hfz28_6
      try clear hfz6_0
      try clear hfz6_1
      try clear hfz6_2
      try clear hfz6_3
      try clear hfz9_0
      try clear hfz9_1
      try clear hfz9_2
      try clear hfz9_3
      try clear hfz9_4
      try clear hfz9_5
      try clear hfz9_6
      try clear hx176_0
      try clear hx176_1
      try clear hx176_2
      try clear hx176_3
      try clear hx176_4
      try clear hx176_5
      try clear hx176_6
      try clear p176
      try clear p2
      try clear q176
      obtain ⟨kq, x45_4, rfl, HA, HJ4, BK175, BK177, HB⟩ := hcut
      cases kq with
      | zero => exact absurd HA.out (by simp [skiarearef10_runs.j1])
      | succ kj4 =>
       have H := HA.out
       clear HA
       simp only [skiarearef10_runs.j1] at H
       by_cases c29 : x45_4 = true
       ·subst c29
        have H1 : (some 2) = some r := by rw [if_pos rfl] at H; exact H
        clear H
        have H := H1
        clear H1
        obtain rfl := Option.some.inj H
        go_wp2
        repeat (go_quiet (fail); try go_wp2)
        go_ret
        exact ⟨by first | rfl | (simp [errW_none, errW_some] <;> rfl) | (simp [*, errW_none, errW_some] <;> rfl), by repeat (first | (with_reducible first | exact HB.out | apply below_alloc | apply pw_below_drewN | apply below_drew1 | refine below_set ?_ GE175.out | refine below_set ?_ GE177.out) | exact HB.out)⟩
       ·replace c29 := Bool.eq_false_iff.mpr c29
        subst c29
        have H1 : (if x3_1 > 0 then (if 0 ≤ (wrap64 (x3_1 - 1)) then (if (wrap64 (x3_1 - 1)) < (l0_2.length : Int) then (skiarearef10_runs.j2 kj4 x3_1 (decide (((rd_T66 l0_2 x3_1).f0) ≤ ((rd_T66 l0_2 (wrap64 (x3_1 - 1))).f0))) l0_0 l0_1 l0_2 l0_3 ((rd_T66 l0_2 x3_1).f0) ((rd_T66 l0_2 x3_1).f1) ((rd_T66 l0_2 x3_1).f2) ((rd_T66 l0_2 x3_1).f3) ((rd_T66 l0_2 x3_1).f4) ((rd_T66 l0_2 x3_1).f5) ((rd_T66 l0_2 x3_1).f6)) else (none)) else (none)) else (skiarearef10_runs.j2 kj4 x3_1 false l0_0 l0_1 l0_2 l0_3 ((rd_T66 l0_2 x3_1).f0) ((rd_T66 l0_2 x3_1).f1) ((rd_T66 l0_2 x3_1).f2) ((rd_T66 l0_2 x3_1).f3) ((rd_T66 l0_2 x3_1).f4) ((rd_T66 l0_2 x3_1).f5) ((rd_T66 l0_2 x3_1).f6))) = some r := by rw [if_neg (show ¬ (false = true) by decide)] at H; exact H
        clear H
        have H := H1
        clear H1
        have HC30 := Aside0.mk H
        clear H
        go_upto_region 7 with (fail)
        repeat (go_quiet (fail); go_upto_region 7 with (fail))
        go_cut [59] (fun v59 wc => ∃ (kq : Nat) (x59_29 : Bool), v59 = .bool x59_29 ∧ Aside0 (skiarearef10_runs.j2 kq x3_1 x59_29 l0_0 l0_1 l0_2 l0_3 ((rd_T66 l0_2 x3_1).f0) ((rd_T66 l0_2 x3_1).f1) ((rd_T66 l0_2 x3_1).f2) ((rd_T66 l0_2 x3_1).f3) ((rd_T66 l0_2 x3_1).f4) ((rd_T66 l0_2 x3_1).f5) ((rd_T66 l0_2 x3_1).f6) = some r) ∧ Aside0 (kq ≤ kj4) ∧ Aside0 (wc.heap[gb175]? = some (.cells #[(.slice A0_0 l0_0.length c0_0), (.slice A0_1 l0_1.length c0_1), (.slice (some ad176) l0_2.length c0_2), (.slice A0_3 l0_3.length c0_3)] 36 (0, 0))) ∧ Aside0 (wc.heap[gb177]? = some (.cells #[.int .i64 ((rd_T66 l0_2 x3_1).f0), .int .i64 ((rd_T66 l0_2 x3_1).f1), .int .i64 ((rd_T66 l0_2 x3_1).f2), .int .i64 ((rd_T66 l0_2 x3_1).f3), .int .i64 ((rd_T66 l0_2 x3_1).f4), .int .i64 ((rd_T66 l0_2 x3_1).f5), .int .i64 ((rd_T66 l0_2 x3_1).f6)] 66 (0, 0))) ∧ Aside0 (Below w.heap.size w wc))
        case first =>
         have H := HC30.out
         clear HC30
         by_cases c31 : x3_1 > 0
         ·rw [if_pos c31] at H
          have c31b0 : decide (0 < x3_1) = true := decide_eq_true c31
          clear c31
          (first | rw [c31b0] | (simp only [i64_w, i32_w]; rw [c31b0]) | skip)
          obtain ⟨ji32, hji32⟩ : ∃ j_ : Int, (wrap64 (x3_1 - 1)) = j_ := ⟨_, rfl⟩
          replace H : (if 0 ≤ (ji32) then (if (ji32) < (l0_2.length : Int) then (skiarearef10_runs.j2 kj4 x3_1 (decide (((rd_T66 l0_2 x3_1).f0) ≤ ((rd_T66 l0_2 (ji32)).f0))) l0_0 l0_1 l0_2 l0_3 ((rd_T66 l0_2 x3_1).f0) ((rd_T66 l0_2 x3_1).f1) ((rd_T66 l0_2 x3_1).f2) ((rd_T66 l0_2 x3_1).f3) ((rd_T66 l0_2 x3_1).f4) ((rd_T66 l0_2 x3_1).f5) ((rd_T66 l0_2 x3_1).f6)) else (none)) else (none)) = some r := by first | (rw [hji32] at H; exact H) | (simp only [hji32] at H ⊢; exact H)
          have hji32w : (IntKind.i64.wrap (x3_1 - 1)) = ji32 := (i64_w _).trans hji32
          by_cases c33 : 0 ≤ (ji32)
          ·rw [if_pos c33] at H
           have c33b0 : decide (0 ≤ (ji32)) = true := decide_eq_true c33
           clear c33
           by_cases c34 : (ji32) < (l0_2.length : Int)
           ·rw [if_pos c34] at H
            have c34b0 : decide ((ji32) < (l0_2.length : Int)) = true := decide_eq_true c34
            clear c34
            have H' := Aside0.mk H
            clear H
            have hnb35 := NB177_175.out
            have hnc35 := NB175_177.out
            have hcz36_0 : wc.cell? ⟨gb177, 0, none⟩ = some (.int .i64 ((rd_T66 l0_2 x3_1).f0)) := (blk_cell BK177.out 0).trans rfl
            have hcz36_1 : wc.cell? ⟨gb177, 1, none⟩ = some (.int .i64 ((rd_T66 l0_2 x3_1).f1)) := (blk_cell BK177.out 1).trans rfl
            have hcz36_2 : wc.cell? ⟨gb177, 2, none⟩ = some (.int .i64 ((rd_T66 l0_2 x3_1).f2)) := (blk_cell BK177.out 2).trans rfl
            have hcz36_3 : wc.cell? ⟨gb177, 3, none⟩ = some (.int .i64 ((rd_T66 l0_2 x3_1).f3)) := (blk_cell BK177.out 3).trans rfl
            have hcz36_4 : wc.cell? ⟨gb177, 4, none⟩ = some (.int .i64 ((rd_T66 l0_2 x3_1).f4)) := (blk_cell BK177.out 4).trans rfl
            have hcz36_5 : wc.cell? ⟨gb177, 5, none⟩ = some (.int .i64 ((rd_T66 l0_2 x3_1).f5)) := (blk_cell BK177.out 5).trans rfl
            have hcz36_6 : wc.cell? ⟨gb177, 6, none⟩ = some (.int .i64 ((rd_T66 l0_2 x3_1).f6)) := (blk_cell BK177.out 6).trans rfl
            have hfz36_0 := blk_frozen BK177.out 0
            have hfz36_1 := blk_frozen BK177.out 1
            have hfz36_2 := blk_frozen BK177.out 2
            have hfz36_3 := blk_frozen BK177.out 3
            have hfz36_4 := blk_frozen BK177.out 4
            have hfz36_5 := blk_frozen BK177.out 5
            have hfz36_6 := blk_frozen BK177.out 6
            have hcz37_0 : wc.cell? ⟨gb175, 0, none⟩ = some (.slice A0_0 l0_0.length c0_0) := (blk_cell BK175.out 0).trans rfl
            have hcz37_1 : wc.cell? ⟨gb175, 1, none⟩ = some (.slice A0_1 l0_1.length c0_1) := (blk_cell BK175.out 1).trans rfl
            have hcz37_2 : wc.cell? ⟨gb175, 2, none⟩ = some (.slice (some ad176) l0_2.length c0_2) := (blk_cell BK175.out 2).trans rfl
            have hcz37_3 : wc.cell? ⟨gb175, 3, none⟩ = some (.slice A0_3 l0_3.length c0_3) := (blk_cell BK175.out 3).trans rfl
            have hfz37_0 := blk_frozen BK175.out 0
            have hfz37_1 := blk_frozen BK175.out 1
            have hfz37_2 := blk_frozen BK175.out 2
            have hfz37_3 := blk_frozen BK175.out 3
            have p183 : 0 ≤ ((ji32) : Int) := of_decide_eq_true (by first | (with_reducible assumption) | assumption)
            have q183 : (ji32) < (l0_2.length : Int) := of_decide_eq_true (by first | (with_reducible assumption) | assumption)
            obtain ⟨ad183, e183, hx183_0, hx183_1, hx183_2, hx183_3, hx183_4, hx183_5, hx183_6⟩ := at_T66 HR0_2.out (ji32) p183 q183
            obtain rfl : ad176 = ad183 := (by injection e183)
            replace hx183_0 := (HB.out.cell (World.block_lt_of_cell? w _ hx183_0)).trans hx183_0
            replace hx183_1 := (HB.out.cell (World.block_lt_of_cell? w _ hx183_1)).trans hx183_1
            replace hx183_2 := (HB.out.cell (World.block_lt_of_cell? w _ hx183_2)).trans hx183_2
            replace hx183_3 := (HB.out.cell (World.block_lt_of_cell? w _ hx183_3)).trans hx183_3
            replace hx183_4 := (HB.out.cell (World.block_lt_of_cell? w _ hx183_4)).trans hx183_4
            replace hx183_5 := (HB.out.cell (World.block_lt_of_cell? w _ hx183_5)).trans hx183_5
            replace hx183_6 := (HB.out.cell (World.block_lt_of_cell? w _ hx183_6)).trans hx183_6
            replace p183 := eq_true p183
            replace q183 := eq_true q183
            go_wp2
            repeat (go_quiet (fail); try go_wp2)
            go_meet
            case rel => exact ⟨_, (decide (((rd_T66 l0_2 x3_1).f0) ≤ ((rd_T66 l0_2 (ji32)).f0))), (by first | rfl | (simp; done) | (simp only [← hji32] <;> (first | rfl | simp)) | (simp [*]; done)), H', ⟨by have := HK1.out; have := HJ4.out; first | omega | exact Nat.le_refl _⟩, ⟨by (with_reducible repeat (first | refine blk_drewN ?_ _ | refine blk_drew ?_ | refine blk_alloc ?_ _)); exact BK175.out⟩, ⟨by (with_reducible repeat (first | refine blk_drewN ?_ _ | refine blk_drew ?_ | refine blk_alloc ?_ _)); exact BK177.out⟩, ⟨by repeat (first | (with_reducible first | exact HB.out | apply below_alloc | apply pw_below_drewN | apply below_drew1 | refine below_set ?_ GE175.out | refine below_set ?_ GE177.out) | exact HB.out)⟩⟩
           ·rw [if_neg c34] at H
            exact absurd H (by simp)
          ·rw [if_neg c33] at H
           exact absurd H (by simp)
         ·rw [if_neg c31] at H
          have c31b0 : decide (0 < x3_1) = false := decide_eq_false c31
          clear c31
          (first | rw [c31b0] | (simp only [i64_w, i32_w]; rw [c31b0]) | skip)
          have H' := Aside0.mk H
          clear H
          go_wp2
          repeat (go_quiet (fail); try go_wp2)
          go_meet
          case rel => exact ⟨_, (false), (by first | rfl | (simp; done) | (simp [*]; done)), H', ⟨by have := HK1.out; have := HJ4.out; first | omega | exact Nat.le_refl _⟩, ⟨by (with_reducible repeat (first | refine blk_drewN ?_ _ | refine blk_drew ?_ | refine blk_alloc ?_ _)); exact BK175.out⟩, ⟨by (with_reducible repeat (first | refine blk_drewN ?_ _ | refine blk_drew ?_ | refine blk_alloc ?_ _)); exact BK177.out⟩, ⟨by repeat (first | (with_reducible first | exact HB.out | apply below_alloc | apply pw_below_drewN | apply below_drew1 | refine below_set ?_ GE175.out | refine below_set ?_ GE177.out) | exact HB.out)⟩⟩
        case rest =>
         clear HC30
         try clear c1
         try clear p1
         try clear q1
         try clear hx1
         try clear c2
         try clear p2
         try clear c3
         try clear c3b0
         try clear c4
         try clear c4b0
         try clear p6
         try clear c8
         try clear c11
         try clear c13
         try clear c15
         try clear c17
         try clear p17
         try clear q17
         try clear hx17
         try clear p18
         try clear q18
         try clear hx18
         try clear c19
         try clear c21
         try clear c23
         try clear c25
         try clear c27
         try clear c29
         try clear c31
         try clear c31b0
         try clear c33
         try clear c33b0
         try clear c34
         try clear c34b0
         try clear c35
         try clear hcz20_0
         try clear hcz20_1
         try clear hcz20_2
         try clear hcz20_3
         try clear hcz20_4
         try clear hcz20_5
         try clear hcz20_6
         try clear hcz22_0
         try clear hcz22_1
         try clear hcz22_2
         try clear hcz22_3
         try clear hcz22_4
         try clear hcz22_5
         try clear hcz22_6
         try clear hcz24_0
         try clear hcz24_1
         try clear hcz24_2
         try clear hcz24_3
         try clear hcz24_4
         try clear hcz24_5
         try clear hcz24_6
         try clear hcz26_0
         try clear hcz26_1
         try clear hcz26_2
         try clear hcz26_3
         try clear hcz26_4
         try clear hcz26_5
         try clear hcz26_6
         try clear hcz28_0
         try clear hcz28_1
         try clear hcz28_2
         try clear hcz28_3
         try clear hcz28_4
         try clear hcz28_5
         try clear hcz28_6
         try clear hcz36_0
         try clear hcz36_1
         try clear hcz36_2
         try clear hcz36_3
         try clear hcz36_4
         try clear hcz36_5
         try clear hcz36_6
         try clear hcz37_0
         try clear hcz37_1
         try clear hcz37_2
         try clear hcz37_3
         try clear hcz6_0
         try clear hcz6_1
         try clear hcz6_2
         try clear hcz6_3
         try clear hcz9_0
         try clear hcz9_1
         try clear hcz9_2
         try clear hcz9_3
         try clear hcz9_4
         try clear hcz9_5
         try clear hcz9_6
         try clear hfz20_0
         try clear hfz20_1
         try clear hfz20_2
         try clear hfz20_3
         try clear hfz20_4
         try clear hfz20_5
         try clear hfz20_6
         try clear hfz22_0
         try clear hfz22_1
         try clear hfz22_2
         try clear hfz22_3
         try clear hfz22_4
         try clear hfz22_5
         try clear hfz22_6
         try clear hfz24_0
         try clear hfz24_1
         try clear hfz24_2
         try clear hfz24_3
         try clear hfz24_4
         try clear hfz24_5
         try clear hfz24_6
         try clear hfz26_0
         try clear hfz26_1
         try clear hfz26_2
         try clear hfz26_3
         try clear hfz26_4
         try clear hfz26_5
         try clear hfz26_6
         try clear hfz28_0
         try clear hfz28_1
         try clear hfz28_2
         try clear hfz28_3
         try clear hfz28_4
         try clear hfz28_5
         try clear hfz28_6
         try clear hfz36_0
         try clear hfz36_1
         try clear hfz36_2
         try clear hfz36_3
         try clear hfz36_4
         try clear hfz36_5
         try clear hfz36_6
         try clear hfz37_0
         try clear hfz37_1
         try clear hfz37_2
         try clear hfz37_3
         try clear hfz6_0
         try clear hfz6_1
         try clear hfz6_2
         try clear hfz6_3
         try clear hfz9_0
         try clear hfz9_1
         try clear hfz9_2
         try clear hfz9_3
         try clear hfz9_4
         try clear hfz9_5
         try clear hfz9_6
         try clear hx176_0
         try clear hx176_1
         try clear hx176_2
         try clear hx176_3
         try clear hx176_4
         try clear hx176_5
         try clear hx176_6
         try clear hx183_0
         try clear hx183_1
         try clear hx183_2
         try clear hx183_3
         try clear hx183_4
         try clear hx183_5
         try clear hx183_6
         try clear p1
         try clear p17
         try clear p176
         try clear p183
         try clear p2
         try clear q1
         try clear q17
         try clear q176
         try clear q183
         obtain ⟨kq, x59_29, rfl, HA, HJ29, BK175, BK177, HB⟩ := hcut
         cases kq with
         | zero => exact absurd HA.out (by simp [skiarearef10_runs.j2])
         | succ kj29 =>
          have H := HA.out
          clear HA
          simp only [skiarearef10_runs.j2] at H
          by_cases c38 : x59_29 = true
          ·subst c38
           have H1 : (some 7) = some r := by rw [if_pos rfl] at H; exact H
           clear H
           have H := H1
           clear H1
           obtain rfl := Option.some.inj H
           go_wp2
           repeat (go_quiet (fail); try go_wp2)
           go_ret
           exact ⟨by first | rfl | (simp [errW_none, errW_some] <;> rfl) | (simp [*, errW_none, errW_some] <;> rfl), by repeat (first | (with_reducible first | exact HB.out | apply below_alloc | apply pw_below_drewN | apply below_drew1 | refine below_set ?_ GE175.out | refine below_set ?_ GE177.out) | exact HB.out)⟩
          ·replace c38 := Bool.eq_false_iff.mpr c38
           subst c38
           have H1 : ((skiarearef10_rises.f kj29 l0_0 l0_1 l0_2 l0_3 ((rd_T66 l0_2 x3_1).f3) ((rd_T66 l0_2 x3_1).f2)).bind fun t184 => (if t184 = 0 then (skiarearef10_runs.l0 kj29 (wrap64 (x3_1 + 1)) l0_0 l0_1 l0_2 l0_3) else (some t184))) = some r := by rw [if_neg (show ¬ (false = true) by decide)] at H; exact H
           clear H
           have H := H1
           clear H1
           replace H := Option.bind_eq_some_iff.mp H
           obtain ⟨t184, A390, H⟩ := H
           replace H : (if t184 = 0 then (skiarearef10_runs.l0 kj29 (wrap64 (x3_1 + 1)) l0_0 l0_1 l0_2 l0_3) else (some t184)) = some r := H
           have A39 := Aside0.mk A390
           clear A390
           by_cases c40 : t184 = 0
           ·rw [if_pos c40] at H
            have c40b0 : (t184 == 0) = true := beq_iff_eq.mpr c40
            have c40b1 : (t184 != 0) = false := bne_eq_false_iff_eq.mpr c40
            clear c40
            have H' := Aside0.mk H
            clear H
            have hnb41 := NB175_177.out
            have hnc41 := NB177_175.out
            have hcz42_0 : wc.cell? ⟨gb175, 0, none⟩ = some (.slice A0_0 l0_0.length c0_0) := (blk_cell BK175.out 0).trans rfl
            have hcz42_1 : wc.cell? ⟨gb175, 1, none⟩ = some (.slice A0_1 l0_1.length c0_1) := (blk_cell BK175.out 1).trans rfl
            have hcz42_2 : wc.cell? ⟨gb175, 2, none⟩ = some (.slice (some ad176) l0_2.length c0_2) := (blk_cell BK175.out 2).trans rfl
            have hcz42_3 : wc.cell? ⟨gb175, 3, none⟩ = some (.slice A0_3 l0_3.length c0_3) := (blk_cell BK175.out 3).trans rfl
            have hfz42_0 := blk_frozen BK175.out 0
            have hfz42_1 := blk_frozen BK175.out 1
            have hfz42_2 := blk_frozen BK175.out 2
            have hfz42_3 := blk_frozen BK175.out 3
            have hcz43_0 : wc.cell? ⟨gb177, 0, none⟩ = some (.int .i64 ((rd_T66 l0_2 x3_1).f0)) := (blk_cell BK177.out 0).trans rfl
            have hcz43_1 : wc.cell? ⟨gb177, 1, none⟩ = some (.int .i64 ((rd_T66 l0_2 x3_1).f1)) := (blk_cell BK177.out 1).trans rfl
            have hcz43_2 : wc.cell? ⟨gb177, 2, none⟩ = some (.int .i64 ((rd_T66 l0_2 x3_1).f2)) := (blk_cell BK177.out 2).trans rfl
            have hcz43_3 : wc.cell? ⟨gb177, 3, none⟩ = some (.int .i64 ((rd_T66 l0_2 x3_1).f3)) := (blk_cell BK177.out 3).trans rfl
            have hcz43_4 : wc.cell? ⟨gb177, 4, none⟩ = some (.int .i64 ((rd_T66 l0_2 x3_1).f4)) := (blk_cell BK177.out 4).trans rfl
            have hcz43_5 : wc.cell? ⟨gb177, 5, none⟩ = some (.int .i64 ((rd_T66 l0_2 x3_1).f5)) := (blk_cell BK177.out 5).trans rfl
            have hcz43_6 : wc.cell? ⟨gb177, 6, none⟩ = some (.int .i64 ((rd_T66 l0_2 x3_1).f6)) := (blk_cell BK177.out 6).trans rfl
            have hfz43_0 := blk_frozen BK177.out 0
            have hfz43_1 := blk_frozen BK177.out 1
            have hfz43_2 := blk_frozen BK177.out 2
            have hfz43_3 := blk_frozen BK177.out 3
            have hfz43_4 := blk_frozen BK177.out 4
            have hfz43_5 := blk_frozen BK177.out 5
            have hfz43_6 := blk_frozen BK177.out 6
            go_wp2_with (first | (go_at_call 39; (with_reducible refine (skiarearef10_rises.calls kj29 _ _ l0_0 _ _ l0_1 _ _ l0_2 _ _ l0_3 ((rd_T66 l0_2 x3_1).f3) ((rd_T66 l0_2 x3_1).f2) t184 _ ?side1 ?side2 ?side3 ?side4 ?side5 ?side6 ?side7 ?side8 A39.out).mono ?_); (case side1 => repeat (first | exact (Kd.C_below HR0_0.out HB.out) | (with_reducible refine Kd.C_alloc ?_ _) | (with_reducible refine Kd.C_drewN ?_ _) | (with_reducible refine Kd.C_drew ?_))); (case side2 => exact HC0_0.out); (case side3 => repeat (first | exact (Kd.C_below HR0_1.out HB.out) | (with_reducible refine Kd.C_alloc ?_ _) | (with_reducible refine Kd.C_drewN ?_ _) | (with_reducible refine Kd.C_drew ?_))); (case side4 => exact HC0_1.out); (case side5 => repeat (first | exact (Kd.C_below HR0_2.out HB.out) | (with_reducible refine Kd.C_alloc ?_ _) | (with_reducible refine Kd.C_drewN ?_ _) | (with_reducible refine Kd.C_drew ?_))); (case side6 => exact HC0_2.out); (case side7 => repeat (first | exact (Kd.C_below HR0_3.out HB.out) | (with_reducible refine Kd.C_alloc ?_ _) | (with_reducible refine Kd.C_drewN ?_ _) | (with_reducible refine Kd.C_drew ?_))); (case side8 => exact HC0_3.out); rintro e w44 ⟨rfl, hb⟩; have n0_ := Aside0.mk (blk_below (g := gb175) (o := .cells #[.slice A0_0 l0_0.length c0_0, .slice A0_1 l0_1.length c0_1, .slice (some ad176) l0_2.length c0_2, .slice A0_3 l0_3.length c0_3] 36 (0, 0)) (by (with_reducible repeat (first | refine blk_drewN ?_ _ | refine blk_drew ?_ | refine blk_alloc ?_ _)); exact BK175.out) hb); have n1_ := Aside0.mk (blk_below (g := gb177) (o := .cells #[.int .i64 ((rd_T66 l0_2 x3_1).f0), .int .i64 ((rd_T66 l0_2 x3_1).f1), .int .i64 ((rd_T66 l0_2 x3_1).f2), .int .i64 ((rd_T66 l0_2 x3_1).f3), .int .i64 ((rd_T66 l0_2 x3_1).f4), .int .i64 ((rd_T66 l0_2 x3_1).f5), .int .i64 ((rd_T66 l0_2 x3_1).f6)] 66 (0, 0)) (by (with_reducible repeat (first | refine blk_drewN ?_ _ | refine blk_drew ?_ | refine blk_alloc ?_ _)); exact BK177.out) hb); have n2_ := Aside0.mk (below_step (by repeat (first | (with_reducible first | exact HB.out | apply below_alloc | apply pw_below_drewN | apply below_drew1 | refine below_set ?_ GE175.out | refine below_set ?_ GE177.out) | exact HB.out)) hb); clear BK175; clear BK177; clear HB; have BK175 := n0_; have BK177 := n1_; have HB := n2_; clear n0_ n1_ n2_; (try clear hb); (try clear hb2); (try clear hk); (try clear hi)))
            repeat (go_quiet (first | (go_at_call 39; (with_reducible refine (skiarearef10_rises.calls kj29 _ _ l0_0 _ _ l0_1 _ _ l0_2 _ _ l0_3 ((rd_T66 l0_2 x3_1).f3) ((rd_T66 l0_2 x3_1).f2) t184 _ ?side1 ?side2 ?side3 ?side4 ?side5 ?side6 ?side7 ?side8 A39.out).mono ?_); (case side1 => repeat (first | exact (Kd.C_below HR0_0.out HB.out) | (with_reducible refine Kd.C_alloc ?_ _) | (with_reducible refine Kd.C_drewN ?_ _) | (with_reducible refine Kd.C_drew ?_))); (case side2 => exact HC0_0.out); (case side3 => repeat (first | exact (Kd.C_below HR0_1.out HB.out) | (with_reducible refine Kd.C_alloc ?_ _) | (with_reducible refine Kd.C_drewN ?_ _) | (with_reducible refine Kd.C_drew ?_))); (case side4 => exact HC0_1.out); (case side5 => repeat (first | exact (Kd.C_below HR0_2.out HB.out) | (with_reducible refine Kd.C_alloc ?_ _) | (with_reducible refine Kd.C_drewN ?_ _) | (with_reducible refine Kd.C_drew ?_))); (case side6 => exact HC0_2.out); (case side7 => repeat (first | exact (Kd.C_below HR0_3.out HB.out) | (with_reducible refine Kd.C_alloc ?_ _) | (with_reducible refine Kd.C_drewN ?_ _) | (with_reducible refine Kd.C_drew ?_))); (case side8 => exact HC0_3.out); rintro e w44 ⟨rfl, hb⟩; have n0_ := Aside0.mk (blk_below (g := gb175) (o := .cells #[.slice A0_0 l0_0.length c0_0, .slice A0_1 l0_1.length c0_1, .slice (some ad176) l0_2.length c0_2, .slice A0_3 l0_3.length c0_3] 36 (0, 0)) (by (with_reducible repeat (first | refine blk_drewN ?_ _ | refine blk_drew ?_ | refine blk_alloc ?_ _)); exact BK175.out) hb); have n1_ := Aside0.mk (blk_below (g := gb177) (o := .cells #[.int .i64 ((rd_T66 l0_2 x3_1).f0), .int .i64 ((rd_T66 l0_2 x3_1).f1), .int .i64 ((rd_T66 l0_2 x3_1).f2), .int .i64 ((rd_T66 l0_2 x3_1).f3), .int .i64 ((rd_T66 l0_2 x3_1).f4), .int .i64 ((rd_T66 l0_2 x3_1).f5), .int .i64 ((rd_T66 l0_2 x3_1).f6)] 66 (0, 0)) (by (with_reducible repeat (first | refine blk_drewN ?_ _ | refine blk_drew ?_ | refine blk_alloc ?_ _)); exact BK177.out) hb); have n2_ := Aside0.mk (below_step (by repeat (first | (with_reducible first | exact HB.out | apply below_alloc | apply pw_below_drewN | apply below_drew1 | refine below_set ?_ GE175.out | refine below_set ?_ GE177.out) | exact HB.out)) hb); clear BK175; clear BK177; clear HB; have BK175 := n0_; have BK177 := n1_; have HB := n2_; clear n0_ n1_ n2_; (try clear hb); (try clear hb2); (try clear hk); (try clear hi))); try go_wp2_with (first | (go_at_call 39; (with_reducible refine (skiarearef10_rises.calls kj29 _ _ l0_0 _ _ l0_1 _ _ l0_2 _ _ l0_3 ((rd_T66 l0_2 x3_1).f3) ((rd_T66 l0_2 x3_1).f2) t184 _ ?side1 ?side2 ?side3 ?side4 ?side5 ?side6 ?side7 ?side8 A39.out).mono ?_); (case side1 => repeat (first | exact (Kd.C_below HR0_0.out HB.out) | (with_reducible refine Kd.C_alloc ?_ _) | (with_reducible refine Kd.C_drewN ?_ _) | (with_reducible refine Kd.C_drew ?_))); (case side2 => exact HC0_0.out); (case side3 => repeat (first | exact (Kd.C_below HR0_1.out HB.out) | (with_reducible refine Kd.C_alloc ?_ _) | (with_reducible refine Kd.C_drewN ?_ _) | (with_reducible refine Kd.C_drew ?_))); (case side4 => exact HC0_1.out); (case side5 => repeat (first | exact (Kd.C_below HR0_2.out HB.out) | (with_reducible refine Kd.C_alloc ?_ _) | (with_reducible refine Kd.C_drewN ?_ _) | (with_reducible refine Kd.C_drew ?_))); (case side6 => exact HC0_2.out); (case side7 => repeat (first | exact (Kd.C_below HR0_3.out HB.out) | (with_reducible refine Kd.C_alloc ?_ _) | (with_reducible refine Kd.C_drewN ?_ _) | (with_reducible refine Kd.C_drew ?_))); (case side8 => exact HC0_3.out); rintro e w44 ⟨rfl, hb⟩; have n0_ := Aside0.mk (blk_below (g := gb175) (o := .cells #[.slice A0_0 l0_0.length c0_0, .slice A0_1 l0_1.length c0_1, .slice (some ad176) l0_2.length c0_2, .slice A0_3 l0_3.length c0_3] 36 (0, 0)) (by (with_reducible repeat (first | refine blk_drewN ?_ _ | refine blk_drew ?_ | refine blk_alloc ?_ _)); exact BK175.out) hb); have n1_ := Aside0.mk (blk_below (g := gb177) (o := .cells #[.int .i64 ((rd_T66 l0_2 x3_1).f0), .int .i64 ((rd_T66 l0_2 x3_1).f1), .int .i64 ((rd_T66 l0_2 x3_1).f2), .int .i64 ((rd_T66 l0_2 x3_1).f3), .int .i64 ((rd_T66 l0_2 x3_1).f4), .int .i64 ((rd_T66 l0_2 x3_1).f5), .int .i64 ((rd_T66 l0_2 x3_1).f6)] 66 (0, 0)) (by (with_reducible repeat (first | refine blk_drewN ?_ _ | refine blk_drew ?_ | refine blk_alloc ?_ _)); exact BK177.out) hb); have n2_ := Aside0.mk (below_step (by repeat (first | (with_reducible first | exact HB.out | apply below_alloc | apply pw_below_drewN | apply below_drew1 | refine below_set ?_ GE175.out | refine below_set ?_ GE177.out) | exact HB.out)) hb); clear BK175; clear BK177; clear HB; have BK175 := n0_; have BK177 := n1_; have HB := n2_; clear n0_ n1_ n2_; (try clear hb); (try clear hb2); (try clear hk); (try clear hi))))
            go_roundg kj29
            case measure => have := HK1.out; have := HJ4.out; have := HJ29.out; omega
            case rel => exact ⟨(wrap64 (x3_1 + 1)), (by first | rfl | (simp; done) | (simp [*]; done)), H', ⟨by have := HK1.out; have := HJ4.out; have := HJ29.out; omega⟩, ⟨by (with_reducible repeat (first | refine blk_drewN ?_ _ | refine blk_drew ?_ | refine blk_alloc ?_ _)); exact BK175.out⟩, ⟨by repeat (first | (with_reducible first | exact HB.out | apply below_alloc | apply pw_below_drewN | apply below_drew1 | refine below_set ?_ GE175.out | refine below_set ?_ GE177.out) | exact HB.out)⟩⟩
           ·rw [if_neg c40] at H
            have c40b0 : (t184 == 0) = false := beq_eq_false_iff_ne.mpr c40
            have c40b1 : (t184 != 0) = true := bne_iff_ne.mpr c40
            obtain rfl := Option.some.inj H
            have hnb45 := NB175_177.out
            have hnc45 := NB177_175.out
            have hcz46_0 : wc.cell? ⟨gb175, 0, none⟩ = some (.slice A0_0 l0_0.length c0_0) := (blk_cell BK175.out 0).trans rfl
            have hcz46_1 : wc.cell? ⟨gb175, 1, none⟩ = some (.slice A0_1 l0_1.length c0_1) := (blk_cell BK175.out 1).trans rfl
            have hcz46_2 : wc.cell? ⟨gb175, 2, none⟩ = some (.slice (some ad176) l0_2.length c0_2) := (blk_cell BK175.out 2).trans rfl
            have hcz46_3 : wc.cell? ⟨gb175, 3, none⟩ = some (.slice A0_3 l0_3.length c0_3) := (blk_cell BK175.out 3).trans rfl
            have hfz46_0 := blk_frozen BK175.out 0
            have hfz46_1 := blk_frozen BK175.out 1
            have hfz46_2 := blk_frozen BK175.out 2
            have hfz46_3 := blk_frozen BK175.out 3
            have hcz47_0 : wc.cell? ⟨gb177, 0, none⟩ = some (.int .i64 ((rd_T66 l0_2 x3_1).f0)) := (blk_cell BK177.out 0).trans rfl
            have hcz47_1 : wc.cell? ⟨gb177, 1, none⟩ = some (.int .i64 ((rd_T66 l0_2 x3_1).f1)) := (blk_cell BK177.out 1).trans rfl
            have hcz47_2 : wc.cell? ⟨gb177, 2, none⟩ = some (.int .i64 ((rd_T66 l0_2 x3_1).f2)) := (blk_cell BK177.out 2).trans rfl
            have hcz47_3 : wc.cell? ⟨gb177, 3, none⟩ = some (.int .i64 ((rd_T66 l0_2 x3_1).f3)) := (blk_cell BK177.out 3).trans rfl
            have hcz47_4 : wc.cell? ⟨gb177, 4, none⟩ = some (.int .i64 ((rd_T66 l0_2 x3_1).f4)) := (blk_cell BK177.out 4).trans rfl
            have hcz47_5 : wc.cell? ⟨gb177, 5, none⟩ = some (.int .i64 ((rd_T66 l0_2 x3_1).f5)) := (blk_cell BK177.out 5).trans rfl
            have hcz47_6 : wc.cell? ⟨gb177, 6, none⟩ = some (.int .i64 ((rd_T66 l0_2 x3_1).f6)) := (blk_cell BK177.out 6).trans rfl
            have hfz47_0 := blk_frozen BK177.out 0
            have hfz47_1 := blk_frozen BK177.out 1
            have hfz47_2 := blk_frozen BK177.out 2
            have hfz47_3 := blk_frozen BK177.out 3
            have hfz47_4 := blk_frozen BK177.out 4
            have hfz47_5 := blk_frozen BK177.out 5
            have hfz47_6 := blk_frozen BK177.out 6
            go_wp2_with (first | (go_at_call 39; (with_reducible refine (skiarearef10_rises.calls kj29 _ _ l0_0 _ _ l0_1 _ _ l0_2 _ _ l0_3 ((rd_T66 l0_2 x3_1).f3) ((rd_T66 l0_2 x3_1).f2) t184 _ ?side1 ?side2 ?side3 ?side4 ?side5 ?side6 ?side7 ?side8 A39.out).mono ?_); (case side1 => repeat (first | exact (Kd.C_below HR0_0.out HB.out) | (with_reducible refine Kd.C_alloc ?_ _) | (with_reducible refine Kd.C_drewN ?_ _) | (with_reducible refine Kd.C_drew ?_))); (case side2 => exact HC0_0.out); (case side3 => repeat (first | exact (Kd.C_below HR0_1.out HB.out) | (with_reducible refine Kd.C_alloc ?_ _) | (with_reducible refine Kd.C_drewN ?_ _) | (with_reducible refine Kd.C_drew ?_))); (case side4 => exact HC0_1.out); (case side5 => repeat (first | exact (Kd.C_below HR0_2.out HB.out) | (with_reducible refine Kd.C_alloc ?_ _) | (with_reducible refine Kd.C_drewN ?_ _) | (with_reducible refine Kd.C_drew ?_))); (case side6 => exact HC0_2.out); (case side7 => repeat (first | exact (Kd.C_below HR0_3.out HB.out) | (with_reducible refine Kd.C_alloc ?_ _) | (with_reducible refine Kd.C_drewN ?_ _) | (with_reducible refine Kd.C_drew ?_))); (case side8 => exact HC0_3.out); rintro e w48 ⟨rfl, hb⟩; have n0_ := Aside0.mk (blk_below (g := gb175) (o := .cells #[.slice A0_0 l0_0.length c0_0, .slice A0_1 l0_1.length c0_1, .slice (some ad176) l0_2.length c0_2, .slice A0_3 l0_3.length c0_3] 36 (0, 0)) (by (with_reducible repeat (first | refine blk_drewN ?_ _ | refine blk_drew ?_ | refine blk_alloc ?_ _)); exact BK175.out) hb); have n1_ := Aside0.mk (blk_below (g := gb177) (o := .cells #[.int .i64 ((rd_T66 l0_2 x3_1).f0), .int .i64 ((rd_T66 l0_2 x3_1).f1), .int .i64 ((rd_T66 l0_2 x3_1).f2), .int .i64 ((rd_T66 l0_2 x3_1).f3), .int .i64 ((rd_T66 l0_2 x3_1).f4), .int .i64 ((rd_T66 l0_2 x3_1).f5), .int .i64 ((rd_T66 l0_2 x3_1).f6)] 66 (0, 0)) (by (with_reducible repeat (first | refine blk_drewN ?_ _ | refine blk_drew ?_ | refine blk_alloc ?_ _)); exact BK177.out) hb); have n2_ := Aside0.mk (below_step (by repeat (first | (with_reducible first | exact HB.out | apply below_alloc | apply pw_below_drewN | apply below_drew1 | refine below_set ?_ GE175.out | refine below_set ?_ GE177.out) | exact HB.out)) hb); clear BK175; clear BK177; clear HB; have BK175 := n0_; have BK177 := n1_; have HB := n2_; clear n0_ n1_ n2_; (try clear hb); (try clear hb2); (try clear hk); (try clear hi)))
            repeat (go_quiet (first | (go_at_call 39; (with_reducible refine (skiarearef10_rises.calls kj29 _ _ l0_0 _ _ l0_1 _ _ l0_2 _ _ l0_3 ((rd_T66 l0_2 x3_1).f3) ((rd_T66 l0_2 x3_1).f2) t184 _ ?side1 ?side2 ?side3 ?side4 ?side5 ?side6 ?side7 ?side8 A39.out).mono ?_); (case side1 => repeat (first | exact (Kd.C_below HR0_0.out HB.out) | (with_reducible refine Kd.C_alloc ?_ _) | (with_reducible refine Kd.C_drewN ?_ _) | (with_reducible refine Kd.C_drew ?_))); (case side2 => exact HC0_0.out); (case side3 => repeat (first | exact (Kd.C_below HR0_1.out HB.out) | (with_reducible refine Kd.C_alloc ?_ _) | (with_reducible refine Kd.C_drewN ?_ _) | (with_reducible refine Kd.C_drew ?_))); (case side4 => exact HC0_1.out); (case side5 => repeat (first | exact (Kd.C_below HR0_2.out HB.out) | (with_reducible refine Kd.C_alloc ?_ _) | (with_reducible refine Kd.C_drewN ?_ _) | (with_reducible refine Kd.C_drew ?_))); (case side6 => exact HC0_2.out); (case side7 => repeat (first | exact (Kd.C_below HR0_3.out HB.out) | (with_reducible refine Kd.C_alloc ?_ _) | (with_reducible refine Kd.C_drewN ?_ _) | (with_reducible refine Kd.C_drew ?_))); (case side8 => exact HC0_3.out); rintro e w48 ⟨rfl, hb⟩; have n0_ := Aside0.mk (blk_below (g := gb175) (o := .cells #[.slice A0_0 l0_0.length c0_0, .slice A0_1 l0_1.length c0_1, .slice (some ad176) l0_2.length c0_2, .slice A0_3 l0_3.length c0_3] 36 (0, 0)) (by (with_reducible repeat (first | refine blk_drewN ?_ _ | refine blk_drew ?_ | refine blk_alloc ?_ _)); exact BK175.out) hb); have n1_ := Aside0.mk (blk_below (g := gb177) (o := .cells #[.int .i64 ((rd_T66 l0_2 x3_1).f0), .int .i64 ((rd_T66 l0_2 x3_1).f1), .int .i64 ((rd_T66 l0_2 x3_1).f2), .int .i64 ((rd_T66 l0_2 x3_1).f3), .int .i64 ((rd_T66 l0_2 x3_1).f4), .int .i64 ((rd_T66 l0_2 x3_1).f5), .int .i64 ((rd_T66 l0_2 x3_1).f6)] 66 (0, 0)) (by (with_reducible repeat (first | refine blk_drewN ?_ _ | refine blk_drew ?_ | refine blk_alloc ?_ _)); exact BK177.out) hb); have n2_ := Aside0.mk (below_step (by repeat (first | (with_reducible first | exact HB.out | apply below_alloc | apply pw_below_drewN | apply below_drew1 | refine below_set ?_ GE175.out | refine below_set ?_ GE177.out) | exact HB.out)) hb); clear BK175; clear BK177; clear HB; have BK175 := n0_; have BK177 := n1_; have HB := n2_; clear n0_ n1_ n2_; (try clear hb); (try clear hb2); (try clear hk); (try clear hi))); try go_wp2_with (first | (go_at_call 39; (with_reducible refine (skiarearef10_rises.calls kj29 _ _ l0_0 _ _ l0_1 _ _ l0_2 _ _ l0_3 ((rd_T66 l0_2 x3_1).f3) ((rd_T66 l0_2 x3_1).f2) t184 _ ?side1 ?side2 ?side3 ?side4 ?side5 ?side6 ?side7 ?side8 A39.out).mono ?_); (case side1 => repeat (first | exact (Kd.C_below HR0_0.out HB.out) | (with_reducible refine Kd.C_alloc ?_ _) | (with_reducible refine Kd.C_drewN ?_ _) | (with_reducible refine Kd.C_drew ?_))); (case side2 => exact HC0_0.out); (case side3 => repeat (first | exact (Kd.C_below HR0_1.out HB.out) | (with_reducible refine Kd.C_alloc ?_ _) | (with_reducible refine Kd.C_drewN ?_ _) | (with_reducible refine Kd.C_drew ?_))); (case side4 => exact HC0_1.out); (case side5 => repeat (first | exact (Kd.C_below HR0_2.out HB.out) | (with_reducible refine Kd.C_alloc ?_ _) | (with_reducible refine Kd.C_drewN ?_ _) | (with_reducible refine Kd.C_drew ?_))); (case side6 => exact HC0_2.out); (case side7 => repeat (first | exact (Kd.C_below HR0_3.out HB.out) | (with_reducible refine Kd.C_alloc ?_ _) | (with_reducible refine Kd.C_drewN ?_ _) | (with_reducible refine Kd.C_drew ?_))); (case side8 => exact HC0_3.out); rintro e w48 ⟨rfl, hb⟩; have n0_ := Aside0.mk (blk_below (g := gb175) (o := .cells #[.slice A0_0 l0_0.length c0_0, .slice A0_1 l0_1.length c0_1, .slice (some ad176) l0_2.length c0_2, .slice A0_3 l0_3.length c0_3] 36 (0, 0)) (by (with_reducible repeat (first | refine blk_drewN ?_ _ | refine blk_drew ?_ | refine blk_alloc ?_ _)); exact BK175.out) hb); have n1_ := Aside0.mk (blk_below (g := gb177) (o := .cells #[.int .i64 ((rd_T66 l0_2 x3_1).f0), .int .i64 ((rd_T66 l0_2 x3_1).f1), .int .i64 ((rd_T66 l0_2 x3_1).f2), .int .i64 ((rd_T66 l0_2 x3_1).f3), .int .i64 ((rd_T66 l0_2 x3_1).f4), .int .i64 ((rd_T66 l0_2 x3_1).f5), .int .i64 ((rd_T66 l0_2 x3_1).f6)] 66 (0, 0)) (by (with_reducible repeat (first | refine blk_drewN ?_ _ | refine blk_drew ?_ | refine blk_alloc ?_ _)); exact BK177.out) hb); have n2_ := Aside0.mk (below_step (by repeat (first | (with_reducible first | exact HB.out | apply below_alloc | apply pw_below_drewN | apply below_drew1 | refine below_set ?_ GE175.out | refine below_set ?_ GE177.out) | exact HB.out)) hb); clear BK175; clear BK177; clear HB; have BK175 := n0_; have BK177 := n1_; have HB := n2_; clear n0_ n1_ n2_; (try clear hb); (try clear hb2); (try clear hk); (try clear hi))))
            go_ret
            exact ⟨by first | rfl | (simp [errW_none, errW_some] <;> rfl) | (simp [*, errW_none, errW_some] <;> rfl), by repeat (first | (with_reducible first | exact HB.out | apply below_alloc | apply pw_below_drewN | apply below_drew1 | refine below_set ?_ GE175.out | refine below_set ?_ GE177.out) | exact HB.out)⟩
    ·rw [if_neg c4] at H
     exact absurd H (by simp)
   ·rw [if_neg c3] at H
    have c3b0 : decide (x3_1 < (l0_2.length : Int)) = false := decide_eq_false c3
    clear c3
    obtain rfl := Option.some.inj H
    have hcz49_0 : wr.cell? ⟨gb175, 0, none⟩ = some (.slice A0_0 l0_0.length c0_0) := (blk_cell BK175.out 0).trans rfl
    have hcz49_1 : wr.cell? ⟨gb175, 1, none⟩ = some (.slice A0_1 l0_1.length c0_1) := (blk_cell BK175.out 1).trans rfl
    have hcz49_2 : wr.cell? ⟨gb175, 2, none⟩ = some (.slice A0_2 l0_2.length c0_2) := (blk_cell BK175.out 2).trans rfl
    have hcz49_3 : wr.cell? ⟨gb175, 3, none⟩ = some (.slice A0_3 l0_3.length c0_3) := (blk_cell BK175.out 3).trans rfl
    have hfz49_0 := blk_frozen BK175.out 0
    have hfz49_1 := blk_frozen BK175.out 1
    have hfz49_2 := blk_frozen BK175.out 2
    have hfz49_3 := blk_frozen BK175.out 3
    go_wp2
    repeat (go_quiet (fail); try go_wp2)
    go_ret
    exact ⟨by first | rfl | (simp [errW_none, errW_some] <;> rfl) | (simp [*, errW_none, errW_some] <;> rfl), by repeat (first | (with_reducible first | exact HB.out | apply below_alloc | apply pw_below_drewN | apply below_drew1 | refine below_set ?_ GE175.out) | exact HB.out)⟩

end Go.Proofs.Ytfabkiacmbkpmaa.A
