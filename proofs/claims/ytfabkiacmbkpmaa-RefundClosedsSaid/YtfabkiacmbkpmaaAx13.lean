-- PRINTED by print.py (a twelfth state) out of the translation. Not trusted: Lean checks it.
import Derived.Test.YtfabkiacmbkpmaaAx0
import Derived.Test.YtfabkiacmbkpmaaAx9
import Derived.Test.YtfabkiacmbkpmaaAx12
namespace Go.Proofs.Ytfabkiacmbkpmaa.A
open Go.RowKit Go.Proofs.YtfabkiacmbkpmaaW.PrintWords Go.Proofs.YtfabkiacmbkpmaaW.PrintLast Go.Proofs.YtfabkiacmbkpmaaW.PrintMore
attribute [local go_sem] max2_int min2_int max_two min_two max_three min_three max_four min_four   -- for this text's walks alone
set_option linter.unusedVariables false
set_option linter.unusedSimpArgs false

/-! ### skiarearef10_lifts: function 30 -/
mutual
def skiarearef10_lifts.l0 : Nat → Int → List (S53) → List (S50) → List (S66) → List Int → Option (Int)
 | 0, _, _, _, _, _ => none
 | k + 1, x3, x164000, x164001, x164002, x164003 => if x3 < (x164001.length : Int) then (if 0 ≤ x3 then ((skiarearef10_in.f ((rd_T50 x164001 x3).f0) 1 9999).bind fun t166 => (if t166 = true then ((skiarearef10_in.f ((rd_T50 x164001 x3).f1) 1 8).bind fun t167 => (if t167 = true then ((skiarearef10_in.f ((rd_T50 x164001 x3).f4) 10 6000).bind fun t168 => (if t168 = true then ((skiarearef10_in.f ((rd_T50 x164001 x3).f5) 500 12000).bind fun t169 => (if t169 = true then ((skiarearef10_in.f ((rd_T50 x164001 x3).f6) 1 16).bind fun t170 => (if t170 = true then ((skiarearef10_in.f ((rd_T50 x164001 x3).f7) 5 1000).bind fun t171 => (skiarearef10_lifts.j1 k x3 (!t171) x164000 x164001 x164002 x164003 ((rd_T50 x164001 x3).f0) ((rd_T50 x164001 x3).f1) ((rd_T50 x164001 x3).f2) ((rd_T50 x164001 x3).f3) ((rd_T50 x164001 x3).f4) ((rd_T50 x164001 x3).f5) ((rd_T50 x164001 x3).f6) ((rd_T50 x164001 x3).f7))) else (skiarearef10_lifts.j1 k x3 true x164000 x164001 x164002 x164003 ((rd_T50 x164001 x3).f0) ((rd_T50 x164001 x3).f1) ((rd_T50 x164001 x3).f2) ((rd_T50 x164001 x3).f3) ((rd_T50 x164001 x3).f4) ((rd_T50 x164001 x3).f5) ((rd_T50 x164001 x3).f6) ((rd_T50 x164001 x3).f7)))) else (skiarearef10_lifts.j1 k x3 true x164000 x164001 x164002 x164003 ((rd_T50 x164001 x3).f0) ((rd_T50 x164001 x3).f1) ((rd_T50 x164001 x3).f2) ((rd_T50 x164001 x3).f3) ((rd_T50 x164001 x3).f4) ((rd_T50 x164001 x3).f5) ((rd_T50 x164001 x3).f6) ((rd_T50 x164001 x3).f7)))) else (skiarearef10_lifts.j1 k x3 true x164000 x164001 x164002 x164003 ((rd_T50 x164001 x3).f0) ((rd_T50 x164001 x3).f1) ((rd_T50 x164001 x3).f2) ((rd_T50 x164001 x3).f3) ((rd_T50 x164001 x3).f4) ((rd_T50 x164001 x3).f5) ((rd_T50 x164001 x3).f6) ((rd_T50 x164001 x3).f7)))) else (skiarearef10_lifts.j1 k x3 true x164000 x164001 x164002 x164003 ((rd_T50 x164001 x3).f0) ((rd_T50 x164001 x3).f1) ((rd_T50 x164001 x3).f2) ((rd_T50 x164001 x3).f3) ((rd_T50 x164001 x3).f4) ((rd_T50 x164001 x3).f5) ((rd_T50 x164001 x3).f6) ((rd_T50 x164001 x3).f7)))) else (skiarearef10_lifts.j1 k x3 true x164000 x164001 x164002 x164003 ((rd_T50 x164001 x3).f0) ((rd_T50 x164001 x3).f1) ((rd_T50 x164001 x3).f2) ((rd_T50 x164001 x3).f3) ((rd_T50 x164001 x3).f4) ((rd_T50 x164001 x3).f5) ((rd_T50 x164001 x3).f6) ((rd_T50 x164001 x3).f7)))) else (none)) else (some 0)
def skiarearef10_lifts.j1 : Nat → Int → Bool → List (S53) → List (S50) → List (S66) → List Int → Int → Int → Int → Int → Int → Int → Int → Int → Option (Int)
 | 0, _, _, _, _, _, _, _, _, _, _, _, _, _, _ => none
 | k + 1, x3, x51, x164000, x164001, x164002, x164003, x166000, x166001, x166002, x166003, x166004, x166005, x166006, x166007 => if x51 = true then (some 2) else (if x3 > 0 then (if 0 ≤ (wrap64 (x3 - 1)) then (if (wrap64 (x3 - 1)) < (x164001.length : Int) then (skiarearef10_lifts.j2 k x3 (decide (x166000 ≤ ((rd_T50 x164001 (wrap64 (x3 - 1))).f0))) x164000 x164001 x164002 x164003 x166000 x166001 x166002 x166003 x166004 x166005 x166006 x166007) else (none)) else (none)) else (skiarearef10_lifts.j2 k x3 false x164000 x164001 x164002 x164003 x166000 x166001 x166002 x166003 x166004 x166005 x166006 x166007))
def skiarearef10_lifts.j2 : Nat → Int → Bool → List (S53) → List (S50) → List (S66) → List Int → Int → Int → Int → Int → Int → Int → Int → Int → Option (Int)
 | 0, _, _, _, _, _, _, _, _, _, _, _, _, _, _ => none
 | k + 1, x3, x65, x164000, x164001, x164002, x164003, x166000, x166001, x166002, x166003, x166004, x166005, x166006, x166007 => if x65 = true then (some 7) else ((skiarearef10_rises.f k x164000 x164001 x164002 x164003 x166002 x166003).bind fun t173 => (if t173 = 0 then ((skiarearef10_carriers.f x166000 x166001 x166002 x166003 x166004 x166005 x166006 x166007).bind fun t174 => (if t174 = true then (skiarearef10_lifts.l0 k (wrap64 (x3 + 1)) x164000 x164001 x164002 x164003) else (some 1))) else (some t173)))
end
def skiarearef10_lifts.f (k : Nat) (l0_0 : List (S53)) (l0_1 : List (S50)) (l0_2 : List (S66)) (l0_3 : List Int) : Option (Int) := skiarearef10_lifts.l0 k 0 l0_0 l0_1 l0_2 l0_3
theorem skiarearef10_lifts.mono_l : ∀ k, (∀ y0 y1 y2 y3 y4, LeO (skiarearef10_lifts.l0 k y0 y1 y2 y3 y4) (skiarearef10_lifts.l0 (k + 1) y0 y1 y2 y3 y4)) ∧ (∀ y0 y1 y2 y3 y4 y5 y6 y7 y8 y9 y10 y11 y12 y13, LeO (skiarearef10_lifts.j1 k y0 y1 y2 y3 y4 y5 y6 y7 y8 y9 y10 y11 y12 y13) (skiarearef10_lifts.j1 (k + 1) y0 y1 y2 y3 y4 y5 y6 y7 y8 y9 y10 y11 y12 y13)) ∧ (∀ y0 y1 y2 y3 y4 y5 y6 y7 y8 y9 y10 y11 y12 y13, LeO (skiarearef10_lifts.j2 k y0 y1 y2 y3 y4 y5 y6 y7 y8 y9 y10 y11 y12 y13) (skiarearef10_lifts.j2 (k + 1) y0 y1 y2 y3 y4 y5 y6 y7 y8 y9 y10 y11 y12 y13))
 | 0 => ⟨fun _ _ _ _ _ r h => by simp [skiarearef10_lifts.l0] at h, fun _ _ _ _ _ _ _ _ _ _ _ _ _ _ r h => by simp [skiarearef10_lifts.j1] at h, fun _ _ _ _ _ _ _ _ _ _ _ _ _ _ r h => by simp [skiarearef10_lifts.j2] at h⟩
 | k + 1 => by
  obtain ⟨ih0, ih1, ih2⟩ := skiarearef10_lifts.mono_l k
  refine ⟨?_, ?_, ?_⟩
  ·intro y0 y1 y2 y3 y4
   unfold skiarearef10_lifts.l0
   repeat' first
   | (with_reducible exact ih0 _ _ _ _ _)
   | (with_reducible exact ih1 _ _ _ _ _ _ _ _ _ _ _ _ _ _)
   | (with_reducible exact ih2 _ _ _ _ _ _ _ _ _ _ _ _ _ _)
   | (with_reducible exact skiarearef10_rises.mono _ _ _ _ _ _ _)
   | (with_reducible exact LeO.refl _)
   | (with_reducible exact LeO.none _)
   | (with_reducible refine LeO.ite ?_ ?_)
   | (with_reducible refine LeO.bind ?_ (fun _ => ?_))
   | exact ih0 _ _ _ _ _
   | exact ih1 _ _ _ _ _ _ _ _ _ _ _ _ _ _
   | exact ih2 _ _ _ _ _ _ _ _ _ _ _ _ _ _
   | exact skiarearef10_rises.mono _ _ _ _ _ _ _
   | exact LeO.none _
   | refine LeO.ite ?_ ?_
   | refine LeO.bind ?_ (fun _ => ?_)
  ·intro y0 y1 y2 y3 y4 y5 y6 y7 y8 y9 y10 y11 y12 y13
   unfold skiarearef10_lifts.j1
   repeat' first
   | (with_reducible exact ih0 _ _ _ _ _)
   | (with_reducible exact ih1 _ _ _ _ _ _ _ _ _ _ _ _ _ _)
   | (with_reducible exact ih2 _ _ _ _ _ _ _ _ _ _ _ _ _ _)
   | (with_reducible exact skiarearef10_rises.mono _ _ _ _ _ _ _)
   | (with_reducible exact LeO.refl _)
   | (with_reducible exact LeO.none _)
   | (with_reducible refine LeO.ite ?_ ?_)
   | (with_reducible refine LeO.bind ?_ (fun _ => ?_))
   | exact ih0 _ _ _ _ _
   | exact ih1 _ _ _ _ _ _ _ _ _ _ _ _ _ _
   | exact ih2 _ _ _ _ _ _ _ _ _ _ _ _ _ _
   | exact skiarearef10_rises.mono _ _ _ _ _ _ _
   | exact LeO.none _
   | refine LeO.ite ?_ ?_
   | refine LeO.bind ?_ (fun _ => ?_)
  ·intro y0 y1 y2 y3 y4 y5 y6 y7 y8 y9 y10 y11 y12 y13
   unfold skiarearef10_lifts.j2
   repeat' first
   | (with_reducible exact ih0 _ _ _ _ _)
   | (with_reducible exact ih1 _ _ _ _ _ _ _ _ _ _ _ _ _ _)
   | (with_reducible exact ih2 _ _ _ _ _ _ _ _ _ _ _ _ _ _)
   | (with_reducible exact skiarearef10_rises.mono _ _ _ _ _ _ _)
   | (with_reducible exact LeO.refl _)
   | (with_reducible exact LeO.none _)
   | (with_reducible refine LeO.ite ?_ ?_)
   | (with_reducible refine LeO.bind ?_ (fun _ => ?_))
   | exact ih0 _ _ _ _ _
   | exact ih1 _ _ _ _ _ _ _ _ _ _ _ _ _ _
   | exact ih2 _ _ _ _ _ _ _ _ _ _ _ _ _ _
   | exact skiarearef10_rises.mono _ _ _ _ _ _ _
   | exact LeO.none _
   | refine LeO.ite ?_ ?_
   | refine LeO.bind ?_ (fun _ => ?_)
theorem skiarearef10_lifts.mono : ∀ a0 a1 a2 a3 k, LeO (skiarearef10_lifts.f k a0 a1 a2 a3) (skiarearef10_lifts.f (k + 1) a0 a1 a2 a3) := by
 intro a0 a1 a2 a3 k
 obtain ⟨ih0, ih1, ih2⟩ := skiarearef10_lifts.mono_l k
 unfold skiarearef10_lifts.f
 repeat' first
   | (with_reducible exact ih0 _ _ _ _ _)
   | (with_reducible exact ih1 _ _ _ _ _ _ _ _ _ _ _ _ _ _)
   | (with_reducible exact ih2 _ _ _ _ _ _ _ _ _ _ _ _ _ _)
   | (with_reducible exact skiarearef10_rises.mono _ _ _ _ _ _ _)
   | (with_reducible exact LeO.refl _)
   | (with_reducible exact LeO.none _)
   | (with_reducible refine LeO.ite ?_ ?_)
   | (with_reducible refine LeO.bind ?_ (fun _ => ?_))
   | exact ih0 _ _ _ _ _
   | exact ih1 _ _ _ _ _ _ _ _ _ _ _ _ _ _
   | exact ih2 _ _ _ _ _ _ _ _ _ _ _ _ _ _
   | exact skiarearef10_rises.mono _ _ _ _ _ _ _
   | exact LeO.none _
   | refine LeO.ite ?_ ?_
   | refine LeO.bind ?_ (fun _ => ?_)
set_option maxHeartbeats 8000000 in
set_option maxRecDepth 100000 in
theorem skiarearef10_lifts.calls (k : Nat) (A0_0 : Option Addr) (c0_0 : Nat) (l0_0 : List (S53)) (A0_1 : Option Addr) (c0_1 : Nat) (l0_1 : List (S50)) (A0_2 : Option Addr) (c0_2 : Nat) (l0_2 : List (S66)) (A0_3 : Option Addr) (c0_3 : Nat) (l0_3 : List Int) (r : Int) (w : World) (hr0_0 : Kd.C k53 w A0_0 l0_0.length l0_0) (hc0_0 : l0_0.length ≤ c0_0) (hr0_1 : Kd.C k50 w A0_1 l0_1.length l0_1) (hc0_1 : l0_1.length ≤ c0_1) (hr0_2 : Kd.C k66 w A0_2 l0_2.length l0_2) (hc0_2 : l0_2.length ≤ c0_2) (hr0_3 : Kd.C (Kd.int .i64) w A0_3 l0_3.length l0_3) (hc0_3 : l0_3.length ≤ c0_3) (h : skiarearef10_lifts.f k l0_0 l0_1 l0_2 l0_3 = some r) :
  Calls Try.prog 30 #[.agg #[.slice A0_0 l0_0.length c0_0, .slice A0_1 l0_1.length c0_1, .slice A0_2 l0_2.length c0_2, .slice A0_3 l0_3.length c0_3]] w fun e w' => e = .returned (.int .i64 r) ∧ Below w.heap.size w w' := by
 have hu36 := Try.underlying36
 have hu50 := Try.underlying50
 have HR0_0 := Aside0.mk hr0_0
 have HC0_0 := Aside0.mk hc0_0
 clear hr0_0 hc0_0
 have HR0_1 := Aside0.mk hr0_1
 have HC0_1 := Aside0.mk hc0_1
 clear hr0_1 hc0_1
 have HR0_2 := Aside0.mk hr0_2
 have HC0_2 := Aside0.mk hc0_2
 clear hr0_2 hc0_2
 have HR0_3 := Aside0.mk hr0_3
 have HC0_3 := Aside0.mk hc0_3
 clear hr0_3 hc0_3
 have HB := Aside0.mk (Below.refl w.heap.size w)
 have H : (skiarearef10_lifts.l0 k 0 l0_0 l0_1 l0_2 l0_3) = some r := h
 clear h
 have H' := Aside0.mk H
 clear H
 go_enter Try.func30, Try.ntmps30
 go_wp2_with (first | ((with_reducible refine gate_dst (N := 1) rfl ?_); refine box_event ?hg (N := 1) ?hd (cs := #[.slice A0_0 l0_0.length c0_0, .slice A0_1 l0_1.length c0_1, .slice A0_2 l0_2.length c0_2, .slice A0_3 l0_3.length c0_3]) (t := 36) ?hr ?_; (case hd => rfl); (case hg => rfl); (case hr => first | (go_simp; done) | (go_simp; rfl)); intro gb163 hg w2 hbox hb; have n0_ := Aside0.mk (below_step (by repeat (first | (with_reducible first | exact HB.out | apply below_alloc | apply pw_below_drewN | apply below_drew1) | exact HB.out)) hb); have n1_ := Aside0.mk (hbox); have n2_ := Aside0.mk ((by rw [hg]; exact (below_size (by repeat (first | (with_reducible first | exact HB.out | apply below_alloc | apply pw_below_drewN | apply below_drew1) | exact HB.out))) : w.heap.size ≤ gb163)); have n3_ := Aside0.mk ((by rw [hg]; exact (below_size (by repeat (first | (with_reducible first | exact HB.out | apply below_alloc | apply pw_below_drewN | apply below_drew1) | exact HB.out))) : w.heap.size ≤ gb163)); clear HB; have HB := n0_; have BK163 := n1_; have GW163 := n2_; have GE163 := n3_; clear n0_ n1_ n2_ n3_; clear hb hbox hg))
 repeat (go_quiet (first | ((with_reducible refine gate_dst (N := 1) rfl ?_); refine box_event ?hg (N := 1) ?hd (cs := #[.slice A0_0 l0_0.length c0_0, .slice A0_1 l0_1.length c0_1, .slice A0_2 l0_2.length c0_2, .slice A0_3 l0_3.length c0_3]) (t := 36) ?hr ?_; (case hd => rfl); (case hg => rfl); (case hr => first | (go_simp; done) | (go_simp; rfl)); intro gb163 hg w2 hbox hb; have n0_ := Aside0.mk (below_step (by repeat (first | (with_reducible first | exact HB.out | apply below_alloc | apply pw_below_drewN | apply below_drew1) | exact HB.out)) hb); have n1_ := Aside0.mk (hbox); have n2_ := Aside0.mk ((by rw [hg]; exact (below_size (by repeat (first | (with_reducible first | exact HB.out | apply below_alloc | apply pw_below_drewN | apply below_drew1) | exact HB.out))) : w.heap.size ≤ gb163)); have n3_ := Aside0.mk ((by rw [hg]; exact (below_size (by repeat (first | (with_reducible first | exact HB.out | apply below_alloc | apply pw_below_drewN | apply below_drew1) | exact HB.out))) : w.heap.size ≤ gb163)); clear HB; have HB := n0_; have BK163 := n1_; have GW163 := n2_; have GE163 := n3_; clear n0_ n1_ n2_ n3_; clear hb hbox hg)); try go_wp2_with (first | ((with_reducible refine gate_dst (N := 1) rfl ?_); refine box_event ?hg (N := 1) ?hd (cs := #[.slice A0_0 l0_0.length c0_0, .slice A0_1 l0_1.length c0_1, .slice A0_2 l0_2.length c0_2, .slice A0_3 l0_3.length c0_3]) (t := 36) ?hr ?_; (case hd => rfl); (case hg => rfl); (case hr => first | (go_simp; done) | (go_simp; rfl)); intro gb163 hg w2 hbox hb; have n0_ := Aside0.mk (below_step (by repeat (first | (with_reducible first | exact HB.out | apply below_alloc | apply pw_below_drewN | apply below_drew1) | exact HB.out)) hb); have n1_ := Aside0.mk (hbox); have n2_ := Aside0.mk ((by rw [hg]; exact (below_size (by repeat (first | (with_reducible first | exact HB.out | apply below_alloc | apply pw_below_drewN | apply below_drew1) | exact HB.out))) : w.heap.size ≤ gb163)); have n3_ := Aside0.mk ((by rw [hg]; exact (below_size (by repeat (first | (with_reducible first | exact HB.out | apply below_alloc | apply pw_below_drewN | apply below_drew1) | exact HB.out))) : w.heap.size ≤ gb163)); clear HB; have HB := n0_; have BK163 := n1_; have GW163 := n2_; have GE163 := n3_; clear n0_ n1_ n2_ n3_; clear hb hbox hg)))
 go_loopg [3] k (fun kq v3 w' => ∃ (x3_1 : Int), v3 = .int .i64 x3_1 ∧ Aside0 (skiarearef10_lifts.l0 kq x3_1 l0_0 l0_1 l0_2 l0_3 = some r) ∧ Aside0 (kq ≤ k) ∧ Aside0 (w'.heap[gb163]? = some (.cells #[(.slice A0_0 l0_0.length c0_0), (.slice A0_1 l0_1.length c0_1), (.slice A0_2 l0_2.length c0_2), (.slice A0_3 l0_3.length c0_3)] 36 (0, 0))) ∧ Aside0 (Below w.heap.size w w'))
 case atStart => exact ⟨(0), (by first | rfl | (simp; done) | (simp [*]; done)), H', ⟨Nat.le_refl _⟩, ⟨by (with_reducible repeat (first | refine blk_drewN ?_ _ | refine blk_drew ?_ | refine blk_alloc ?_ _)); exact BK163.out⟩, ⟨by repeat (first | (with_reducible first | exact HB.out | apply below_alloc | apply pw_below_drewN | apply below_drew1 | refine below_set ?_ GE163.out) | exact HB.out)⟩⟩
 case round =>
  clear H'
  try clear p2
  obtain ⟨x3_1, rfl, HA, HK1, BK163, HB⟩ := hrel
  cases gk with
  | zero => exact absurd HA.out (by simp [skiarearef10_lifts.l0])
  | succ k1 =>
   have H := HA.out
   clear HA
   simp only [skiarearef10_lifts.l0] at H
   by_cases c3 : x3_1 < (l0_1.length : Int)
   ·rw [if_pos c3] at H
    have c3b0 : decide (x3_1 < (l0_1.length : Int)) = true := decide_eq_true c3
    clear c3
    by_cases c4 : 0 ≤ x3_1
    ·rw [if_pos c4] at H
     have c4b0 : decide (0 ≤ x3_1) = true := decide_eq_true c4
     clear c4
     have HC5 := Aside0.mk H
     clear H
     have hcz6_0 : wr.cell? ⟨gb163, 0, none⟩ = some (.slice A0_0 l0_0.length c0_0) := (blk_cell BK163.out 0).trans rfl
     have hcz6_1 : wr.cell? ⟨gb163, 1, none⟩ = some (.slice A0_1 l0_1.length c0_1) := (blk_cell BK163.out 1).trans rfl
     have hcz6_2 : wr.cell? ⟨gb163, 2, none⟩ = some (.slice A0_2 l0_2.length c0_2) := (blk_cell BK163.out 2).trans rfl
     have hcz6_3 : wr.cell? ⟨gb163, 3, none⟩ = some (.slice A0_3 l0_3.length c0_3) := (blk_cell BK163.out 3).trans rfl
     have hfz6_0 := blk_frozen BK163.out 0
     have hfz6_1 := blk_frozen BK163.out 1
     have hfz6_2 := blk_frozen BK163.out 2
     have hfz6_3 := blk_frozen BK163.out 3
     have p164 : 0 ≤ (x3_1 : Int) := of_decide_eq_true (by first | (with_reducible assumption) | assumption)
     have q164 : x3_1 < (l0_1.length : Int) := of_decide_eq_true (by first | (with_reducible assumption) | assumption)
     obtain ⟨ad164, e164, hx164_0, hx164_1, hx164_2, hx164_3, hx164_4, hx164_5, hx164_6, hx164_7⟩ := at_T50 HR0_1.out x3_1 p164 q164
     cases e164
     replace hx164_0 := (HB.out.cell (World.block_lt_of_cell? w _ hx164_0)).trans hx164_0
     replace hx164_1 := (HB.out.cell (World.block_lt_of_cell? w _ hx164_1)).trans hx164_1
     replace hx164_2 := (HB.out.cell (World.block_lt_of_cell? w _ hx164_2)).trans hx164_2
     replace hx164_3 := (HB.out.cell (World.block_lt_of_cell? w _ hx164_3)).trans hx164_3
     replace hx164_4 := (HB.out.cell (World.block_lt_of_cell? w _ hx164_4)).trans hx164_4
     replace hx164_5 := (HB.out.cell (World.block_lt_of_cell? w _ hx164_5)).trans hx164_5
     replace hx164_6 := (HB.out.cell (World.block_lt_of_cell? w _ hx164_6)).trans hx164_6
     replace hx164_7 := (HB.out.cell (World.block_lt_of_cell? w _ hx164_7)).trans hx164_7
     replace p164 := eq_true p164
     replace q164 := eq_true q164
     go_upto_region 5 with (first | ((with_reducible refine gate_dst (N := 4) rfl ?_); refine box_event ?hg (N := 4) ?hd (cs := #[.int .i64 0, .int .i64 0, .int .i64 0, .int .i64 0, .int .i64 0, .int .i64 0, .int .i64 0, .int .i64 0]) (t := 50) ?hr ?_; (case hd => rfl); (case hg => rfl); (case hr => first | (go_simp; done) | (go_simp; rfl)); intro gb165 hg w7 hbox hb; have n0_ := Aside0.mk (blk_below (g := gb163) (o := .cells #[.slice A0_0 l0_0.length c0_0, .slice (some ad164) l0_1.length c0_1, .slice A0_2 l0_2.length c0_2, .slice A0_3 l0_3.length c0_3] 36 (0, 0)) (by (with_reducible repeat (first | refine blk_drewN ?_ _ | refine blk_drew ?_ | refine blk_alloc ?_ _)); exact BK163.out) hb); have n1_ := Aside0.mk (below_step (by repeat (first | (with_reducible first | exact HB.out | apply below_alloc | apply pw_below_drewN | apply below_drew1 | refine below_set ?_ GE163.out) | exact HB.out)) hb); have n2_ := Aside0.mk (hbox); have n3_ := Aside0.mk ((by rw [hg]; exact (below_size (by repeat (first | (with_reducible first | exact HB.out | apply below_alloc | apply pw_below_drewN | apply below_drew1 | refine below_set ?_ GE163.out) | exact HB.out))) : w.heap.size ≤ gb165)); have n4_ := Aside0.mk ((by rw [hg]; exact (below_size (by repeat (first | (with_reducible first | exact HB.out | apply below_alloc | apply pw_below_drewN | apply below_drew1 | refine below_set ?_ GE163.out) | exact HB.out))) : w.heap.size ≤ gb165)); have n5_ := Aside0.mk ((by rw [hg]; exact Nat.ne_of_lt (blk_lt (g := gb163) (o := .cells #[.slice A0_0 l0_0.length c0_0, .slice (some ad164) l0_1.length c0_1, .slice A0_2 l0_2.length c0_2, .slice A0_3 l0_3.length c0_3] 36 (0, 0)) (by (with_reducible repeat (first | refine blk_drewN ?_ _ | refine blk_drew ?_ | refine blk_alloc ?_ _)); exact BK163.out)) : gb163 ≠ gb165)); have n6_ := Aside0.mk ((by rw [hg]; exact Nat.ne_of_gt (blk_lt (g := gb163) (o := .cells #[.slice A0_0 l0_0.length c0_0, .slice (some ad164) l0_1.length c0_1, .slice A0_2 l0_2.length c0_2, .slice A0_3 l0_3.length c0_3] 36 (0, 0)) (by (with_reducible repeat (first | refine blk_drewN ?_ _ | refine blk_drew ?_ | refine blk_alloc ?_ _)); exact BK163.out)) : gb165 ≠ gb163)); clear BK163; clear HB; have BK163 := n0_; have HB := n1_; have BK165 := n2_; have GW165 := n3_; have GE165 := n4_; have NB163_165 := n5_; have NB165_163 := n6_; clear n0_ n1_ n2_ n3_ n4_ n5_ n6_; clear hb hbox hg; have hnb8 := NB165_163.out; have hnc8 := NB163_165.out; have hcz9_0 : w7.cell? ⟨gb165, 0, none⟩ = some (.int .i64 0) := (blk_cell BK165.out 0).trans rfl; have hcz9_1 : w7.cell? ⟨gb165, 1, none⟩ = some (.int .i64 0) := (blk_cell BK165.out 1).trans rfl; have hcz9_2 : w7.cell? ⟨gb165, 2, none⟩ = some (.int .i64 0) := (blk_cell BK165.out 2).trans rfl; have hcz9_3 : w7.cell? ⟨gb165, 3, none⟩ = some (.int .i64 0) := (blk_cell BK165.out 3).trans rfl; have hcz9_4 : w7.cell? ⟨gb165, 4, none⟩ = some (.int .i64 0) := (blk_cell BK165.out 4).trans rfl; have hcz9_5 : w7.cell? ⟨gb165, 5, none⟩ = some (.int .i64 0) := (blk_cell BK165.out 5).trans rfl; have hcz9_6 : w7.cell? ⟨gb165, 6, none⟩ = some (.int .i64 0) := (blk_cell BK165.out 6).trans rfl; have hcz9_7 : w7.cell? ⟨gb165, 7, none⟩ = some (.int .i64 0) := (blk_cell BK165.out 7).trans rfl; have hfz9_0 := blk_frozen BK165.out 0; have hfz9_1 := blk_frozen BK165.out 1; have hfz9_2 := blk_frozen BK165.out 2; have hfz9_3 := blk_frozen BK165.out 3; have hfz9_4 := blk_frozen BK165.out 4; have hfz9_5 := blk_frozen BK165.out 5; have hfz9_6 := blk_frozen BK165.out 6; have hfz9_7 := blk_frozen BK165.out 7))
     repeat (go_quiet (first | ((with_reducible refine gate_dst (N := 4) rfl ?_); refine box_event ?hg (N := 4) ?hd (cs := #[.int .i64 0, .int .i64 0, .int .i64 0, .int .i64 0, .int .i64 0, .int .i64 0, .int .i64 0, .int .i64 0]) (t := 50) ?hr ?_; (case hd => rfl); (case hg => rfl); (case hr => first | (go_simp; done) | (go_simp; rfl)); intro gb165 hg w7 hbox hb; have n0_ := Aside0.mk (blk_below (g := gb163) (o := .cells #[.slice A0_0 l0_0.length c0_0, .slice (some ad164) l0_1.length c0_1, .slice A0_2 l0_2.length c0_2, .slice A0_3 l0_3.length c0_3] 36 (0, 0)) (by (with_reducible repeat (first | refine blk_drewN ?_ _ | refine blk_drew ?_ | refine blk_alloc ?_ _)); exact BK163.out) hb); have n1_ := Aside0.mk (below_step (by repeat (first | (with_reducible first | exact HB.out | apply below_alloc | apply pw_below_drewN | apply below_drew1 | refine below_set ?_ GE163.out) | exact HB.out)) hb); have n2_ := Aside0.mk (hbox); have n3_ := Aside0.mk ((by rw [hg]; exact (below_size (by repeat (first | (with_reducible first | exact HB.out | apply below_alloc | apply pw_below_drewN | apply below_drew1 | refine below_set ?_ GE163.out) | exact HB.out))) : w.heap.size ≤ gb165)); have n4_ := Aside0.mk ((by rw [hg]; exact (below_size (by repeat (first | (with_reducible first | exact HB.out | apply below_alloc | apply pw_below_drewN | apply below_drew1 | refine below_set ?_ GE163.out) | exact HB.out))) : w.heap.size ≤ gb165)); have n5_ := Aside0.mk ((by rw [hg]; exact Nat.ne_of_lt (blk_lt (g := gb163) (o := .cells #[.slice A0_0 l0_0.length c0_0, .slice (some ad164) l0_1.length c0_1, .slice A0_2 l0_2.length c0_2, .slice A0_3 l0_3.length c0_3] 36 (0, 0)) (by (with_reducible repeat (first | refine blk_drewN ?_ _ | refine blk_drew ?_ | refine blk_alloc ?_ _)); exact BK163.out)) : gb163 ≠ gb165)); have n6_ := Aside0.mk ((by rw [hg]; exact Nat.ne_of_gt (blk_lt (g := gb163) (o := .cells #[.slice A0_0 l0_0.length c0_0, .slice (some ad164) l0_1.length c0_1, .slice A0_2 l0_2.length c0_2, .slice A0_3 l0_3.length c0_3] 36 (0, 0)) (by (with_reducible repeat (first | refine blk_drewN ?_ _ | refine blk_drew ?_ | refine blk_alloc ?_ _)); exact BK163.out)) : gb165 ≠ gb163)); clear BK163; clear HB; have BK163 := n0_; have HB := n1_; have BK165 := n2_; have GW165 := n3_; have GE165 := n4_; have NB163_165 := n5_; have NB165_163 := n6_; clear n0_ n1_ n2_ n3_ n4_ n5_ n6_; clear hb hbox hg; have hnb8 := NB165_163.out; have hnc8 := NB163_165.out; have hcz9_0 : w7.cell? ⟨gb165, 0, none⟩ = some (.int .i64 0) := (blk_cell BK165.out 0).trans rfl; have hcz9_1 : w7.cell? ⟨gb165, 1, none⟩ = some (.int .i64 0) := (blk_cell BK165.out 1).trans rfl; have hcz9_2 : w7.cell? ⟨gb165, 2, none⟩ = some (.int .i64 0) := (blk_cell BK165.out 2).trans rfl; have hcz9_3 : w7.cell? ⟨gb165, 3, none⟩ = some (.int .i64 0) := (blk_cell BK165.out 3).trans rfl; have hcz9_4 : w7.cell? ⟨gb165, 4, none⟩ = some (.int .i64 0) := (blk_cell BK165.out 4).trans rfl; have hcz9_5 : w7.cell? ⟨gb165, 5, none⟩ = some (.int .i64 0) := (blk_cell BK165.out 5).trans rfl; have hcz9_6 : w7.cell? ⟨gb165, 6, none⟩ = some (.int .i64 0) := (blk_cell BK165.out 6).trans rfl; have hcz9_7 : w7.cell? ⟨gb165, 7, none⟩ = some (.int .i64 0) := (blk_cell BK165.out 7).trans rfl; have hfz9_0 := blk_frozen BK165.out 0; have hfz9_1 := blk_frozen BK165.out 1; have hfz9_2 := blk_frozen BK165.out 2; have hfz9_3 := blk_frozen BK165.out 3; have hfz9_4 := blk_frozen BK165.out 4; have hfz9_5 := blk_frozen BK165.out 5; have hfz9_6 := blk_frozen BK165.out 6; have hfz9_7 := blk_frozen BK165.out 7)); go_upto_region 5 with (first | ((with_reducible refine gate_dst (N := 4) rfl ?_); refine box_event ?hg (N := 4) ?hd (cs := #[.int .i64 0, .int .i64 0, .int .i64 0, .int .i64 0, .int .i64 0, .int .i64 0, .int .i64 0, .int .i64 0]) (t := 50) ?hr ?_; (case hd => rfl); (case hg => rfl); (case hr => first | (go_simp; done) | (go_simp; rfl)); intro gb165 hg w7 hbox hb; have n0_ := Aside0.mk (blk_below (g := gb163) (o := .cells #[.slice A0_0 l0_0.length c0_0, .slice (some ad164) l0_1.length c0_1, .slice A0_2 l0_2.length c0_2, .slice A0_3 l0_3.length c0_3] 36 (0, 0)) (by (with_reducible repeat (first | refine blk_drewN ?_ _ | refine blk_drew ?_ | refine blk_alloc ?_ _)); exact BK163.out) hb); have n1_ := Aside0.mk (below_step (by repeat (first | (with_reducible first | exact HB.out | apply below_alloc | apply pw_below_drewN | apply below_drew1 | refine below_set ?_ GE163.out) | exact HB.out)) hb); have n2_ := Aside0.mk (hbox); have n3_ := Aside0.mk ((by rw [hg]; exact (below_size (by repeat (first | (with_reducible first | exact HB.out | apply below_alloc | apply pw_below_drewN | apply below_drew1 | refine below_set ?_ GE163.out) | exact HB.out))) : w.heap.size ≤ gb165)); have n4_ := Aside0.mk ((by rw [hg]; exact (below_size (by repeat (first | (with_reducible first | exact HB.out | apply below_alloc | apply pw_below_drewN | apply below_drew1 | refine below_set ?_ GE163.out) | exact HB.out))) : w.heap.size ≤ gb165)); have n5_ := Aside0.mk ((by rw [hg]; exact Nat.ne_of_lt (blk_lt (g := gb163) (o := .cells #[.slice A0_0 l0_0.length c0_0, .slice (some ad164) l0_1.length c0_1, .slice A0_2 l0_2.length c0_2, .slice A0_3 l0_3.length c0_3] 36 (0, 0)) (by (with_reducible repeat (first | refine blk_drewN ?_ _ | refine blk_drew ?_ | refine blk_alloc ?_ _)); exact BK163.out)) : gb163 ≠ gb165)); have n6_ := Aside0.mk ((by rw [hg]; exact Nat.ne_of_gt (blk_lt (g := gb163) (o := .cells #[.slice A0_0 l0_0.length c0_0, .slice (some ad164) l0_1.length c0_1, .slice A0_2 l0_2.length c0_2, .slice A0_3 l0_3.length c0_3] 36 (0, 0)) (by (with_reducible repeat (first | refine blk_drewN ?_ _ | refine blk_drew ?_ | refine blk_alloc ?_ _)); exact BK163.out)) : gb165 ≠ gb163)); clear BK163; clear HB; have BK163 := n0_; have HB := n1_; have BK165 := n2_; have GW165 := n3_; have GE165 := n4_; have NB163_165 := n5_; have NB165_163 := n6_; clear n0_ n1_ n2_ n3_ n4_ n5_ n6_; clear hb hbox hg; have hnb8 := NB165_163.out; have hnc8 := NB163_165.out; have hcz9_0 : w7.cell? ⟨gb165, 0, none⟩ = some (.int .i64 0) := (blk_cell BK165.out 0).trans rfl; have hcz9_1 : w7.cell? ⟨gb165, 1, none⟩ = some (.int .i64 0) := (blk_cell BK165.out 1).trans rfl; have hcz9_2 : w7.cell? ⟨gb165, 2, none⟩ = some (.int .i64 0) := (blk_cell BK165.out 2).trans rfl; have hcz9_3 : w7.cell? ⟨gb165, 3, none⟩ = some (.int .i64 0) := (blk_cell BK165.out 3).trans rfl; have hcz9_4 : w7.cell? ⟨gb165, 4, none⟩ = some (.int .i64 0) := (blk_cell BK165.out 4).trans rfl; have hcz9_5 : w7.cell? ⟨gb165, 5, none⟩ = some (.int .i64 0) := (blk_cell BK165.out 5).trans rfl; have hcz9_6 : w7.cell? ⟨gb165, 6, none⟩ = some (.int .i64 0) := (blk_cell BK165.out 6).trans rfl; have hcz9_7 : w7.cell? ⟨gb165, 7, none⟩ = some (.int .i64 0) := (blk_cell BK165.out 7).trans rfl; have hfz9_0 := blk_frozen BK165.out 0; have hfz9_1 := blk_frozen BK165.out 1; have hfz9_2 := blk_frozen BK165.out 2; have hfz9_3 := blk_frozen BK165.out 3; have hfz9_4 := blk_frozen BK165.out 4; have hfz9_5 := blk_frozen BK165.out 5; have hfz9_6 := blk_frozen BK165.out 6; have hfz9_7 := blk_frozen BK165.out 7)))
     (try simp only [Act.put, List.setIfInBounds_toArray, List.set_cons_zero, List.set_cons_succ])
     go_cut [51] (fun v51 wc => ∃ (kq : Nat) (x51_4 : Bool), v51 = .bool x51_4 ∧ Aside0 (skiarearef10_lifts.j1 kq x3_1 x51_4 l0_0 l0_1 l0_2 l0_3 ((rd_T50 l0_1 x3_1).f0) ((rd_T50 l0_1 x3_1).f1) ((rd_T50 l0_1 x3_1).f2) ((rd_T50 l0_1 x3_1).f3) ((rd_T50 l0_1 x3_1).f4) ((rd_T50 l0_1 x3_1).f5) ((rd_T50 l0_1 x3_1).f6) ((rd_T50 l0_1 x3_1).f7) = some r) ∧ Aside0 (kq ≤ k1) ∧ Aside0 (wc.heap[gb163]? = some (.cells #[(.slice A0_0 l0_0.length c0_0), (.slice (some ad164) l0_1.length c0_1), (.slice A0_2 l0_2.length c0_2), (.slice A0_3 l0_3.length c0_3)] 36 (0, 0))) ∧ Aside0 (wc.heap[gb165]? = some (.cells #[.int .i64 ((rd_T50 l0_1 x3_1).f0), .int .i64 ((rd_T50 l0_1 x3_1).f1), .int .i64 ((rd_T50 l0_1 x3_1).f2), .int .i64 ((rd_T50 l0_1 x3_1).f3), .int .i64 ((rd_T50 l0_1 x3_1).f4), .int .i64 ((rd_T50 l0_1 x3_1).f5), .int .i64 ((rd_T50 l0_1 x3_1).f6), .int .i64 ((rd_T50 l0_1 x3_1).f7)] 50 (0, 0))) ∧ Aside0 (Below w.heap.size w wc))
     case first =>
      have H := HC5.out
      clear HC5
      replace H := Option.bind_eq_some_iff.mp H
      obtain ⟨t166, A100, H⟩ := H
      replace H : (if t166 = true then ((skiarearef10_in.f ((rd_T50 l0_1 x3_1).f1) 1 8).bind fun t167 => (if t167 = true then ((skiarearef10_in.f ((rd_T50 l0_1 x3_1).f4) 10 6000).bind fun t168 => (if t168 = true then ((skiarearef10_in.f ((rd_T50 l0_1 x3_1).f5) 500 12000).bind fun t169 => (if t169 = true then ((skiarearef10_in.f ((rd_T50 l0_1 x3_1).f6) 1 16).bind fun t170 => (if t170 = true then ((skiarearef10_in.f ((rd_T50 l0_1 x3_1).f7) 5 1000).bind fun t171 => (skiarearef10_lifts.j1 k1 x3_1 (!t171) l0_0 l0_1 l0_2 l0_3 ((rd_T50 l0_1 x3_1).f0) ((rd_T50 l0_1 x3_1).f1) ((rd_T50 l0_1 x3_1).f2) ((rd_T50 l0_1 x3_1).f3) ((rd_T50 l0_1 x3_1).f4) ((rd_T50 l0_1 x3_1).f5) ((rd_T50 l0_1 x3_1).f6) ((rd_T50 l0_1 x3_1).f7))) else (skiarearef10_lifts.j1 k1 x3_1 true l0_0 l0_1 l0_2 l0_3 ((rd_T50 l0_1 x3_1).f0) ((rd_T50 l0_1 x3_1).f1) ((rd_T50 l0_1 x3_1).f2) ((rd_T50 l0_1 x3_1).f3) ((rd_T50 l0_1 x3_1).f4) ((rd_T50 l0_1 x3_1).f5) ((rd_T50 l0_1 x3_1).f6) ((rd_T50 l0_1 x3_1).f7)))) else (skiarearef10_lifts.j1 k1 x3_1 true l0_0 l0_1 l0_2 l0_3 ((rd_T50 l0_1 x3_1).f0) ((rd_T50 l0_1 x3_1).f1) ((rd_T50 l0_1 x3_1).f2) ((rd_T50 l0_1 x3_1).f3) ((rd_T50 l0_1 x3_1).f4) ((rd_T50 l0_1 x3_1).f5) ((rd_T50 l0_1 x3_1).f6) ((rd_T50 l0_1 x3_1).f7)))) else (skiarearef10_lifts.j1 k1 x3_1 true l0_0 l0_1 l0_2 l0_3 ((rd_T50 l0_1 x3_1).f0) ((rd_T50 l0_1 x3_1).f1) ((rd_T50 l0_1 x3_1).f2) ((rd_T50 l0_1 x3_1).f3) ((rd_T50 l0_1 x3_1).f4) ((rd_T50 l0_1 x3_1).f5) ((rd_T50 l0_1 x3_1).f6) ((rd_T50 l0_1 x3_1).f7)))) else (skiarearef10_lifts.j1 k1 x3_1 true l0_0 l0_1 l0_2 l0_3 ((rd_T50 l0_1 x3_1).f0) ((rd_T50 l0_1 x3_1).f1) ((rd_T50 l0_1 x3_1).f2) ((rd_T50 l0_1 x3_1).f3) ((rd_T50 l0_1 x3_1).f4) ((rd_T50 l0_1 x3_1).f5) ((rd_T50 l0_1 x3_1).f6) ((rd_T50 l0_1 x3_1).f7)))) else (skiarearef10_lifts.j1 k1 x3_1 true l0_0 l0_1 l0_2 l0_3 ((rd_T50 l0_1 x3_1).f0) ((rd_T50 l0_1 x3_1).f1) ((rd_T50 l0_1 x3_1).f2) ((rd_T50 l0_1 x3_1).f3) ((rd_T50 l0_1 x3_1).f4) ((rd_T50 l0_1 x3_1).f5) ((rd_T50 l0_1 x3_1).f6) ((rd_T50 l0_1 x3_1).f7))) = some r := H
      have A10 := Aside0.mk A100
      clear A100
      by_cases c11 : t166 = true
      ·subst c11
       have H1 : ((skiarearef10_in.f ((rd_T50 l0_1 x3_1).f1) 1 8).bind fun t167 => (if t167 = true then ((skiarearef10_in.f ((rd_T50 l0_1 x3_1).f4) 10 6000).bind fun t168 => (if t168 = true then ((skiarearef10_in.f ((rd_T50 l0_1 x3_1).f5) 500 12000).bind fun t169 => (if t169 = true then ((skiarearef10_in.f ((rd_T50 l0_1 x3_1).f6) 1 16).bind fun t170 => (if t170 = true then ((skiarearef10_in.f ((rd_T50 l0_1 x3_1).f7) 5 1000).bind fun t171 => (skiarearef10_lifts.j1 k1 x3_1 (!t171) l0_0 l0_1 l0_2 l0_3 ((rd_T50 l0_1 x3_1).f0) ((rd_T50 l0_1 x3_1).f1) ((rd_T50 l0_1 x3_1).f2) ((rd_T50 l0_1 x3_1).f3) ((rd_T50 l0_1 x3_1).f4) ((rd_T50 l0_1 x3_1).f5) ((rd_T50 l0_1 x3_1).f6) ((rd_T50 l0_1 x3_1).f7))) else (skiarearef10_lifts.j1 k1 x3_1 true l0_0 l0_1 l0_2 l0_3 ((rd_T50 l0_1 x3_1).f0) ((rd_T50 l0_1 x3_1).f1) ((rd_T50 l0_1 x3_1).f2) ((rd_T50 l0_1 x3_1).f3) ((rd_T50 l0_1 x3_1).f4) ((rd_T50 l0_1 x3_1).f5) ((rd_T50 l0_1 x3_1).f6) ((rd_T50 l0_1 x3_1).f7)))) else (skiarearef10_lifts.j1 k1 x3_1 true l0_0 l0_1 l0_2 l0_3 ((rd_T50 l0_1 x3_1).f0) ((rd_T50 l0_1 x3_1).f1) ((rd_T50 l0_1 x3_1).f2) ((rd_T50 l0_1 x3_1).f3) ((rd_T50 l0_1 x3_1).f4) ((rd_T50 l0_1 x3_1).f5) ((rd_T50 l0_1 x3_1).f6) ((rd_T50 l0_1 x3_1).f7)))) else (skiarearef10_lifts.j1 k1 x3_1 true l0_0 l0_1 l0_2 l0_3 ((rd_T50 l0_1 x3_1).f0) ((rd_T50 l0_1 x3_1).f1) ((rd_T50 l0_1 x3_1).f2) ((rd_T50 l0_1 x3_1).f3) ((rd_T50 l0_1 x3_1).f4) ((rd_T50 l0_1 x3_1).f5) ((rd_T50 l0_1 x3_1).f6) ((rd_T50 l0_1 x3_1).f7)))) else (skiarearef10_lifts.j1 k1 x3_1 true l0_0 l0_1 l0_2 l0_3 ((rd_T50 l0_1 x3_1).f0) ((rd_T50 l0_1 x3_1).f1) ((rd_T50 l0_1 x3_1).f2) ((rd_T50 l0_1 x3_1).f3) ((rd_T50 l0_1 x3_1).f4) ((rd_T50 l0_1 x3_1).f5) ((rd_T50 l0_1 x3_1).f6) ((rd_T50 l0_1 x3_1).f7)))) = some r := by rw [if_pos rfl] at H; exact H
       clear H
       have H := H1
       clear H1
       replace H := Option.bind_eq_some_iff.mp H
       obtain ⟨t167, A120, H⟩ := H
       replace H : (if t167 = true then ((skiarearef10_in.f ((rd_T50 l0_1 x3_1).f4) 10 6000).bind fun t168 => (if t168 = true then ((skiarearef10_in.f ((rd_T50 l0_1 x3_1).f5) 500 12000).bind fun t169 => (if t169 = true then ((skiarearef10_in.f ((rd_T50 l0_1 x3_1).f6) 1 16).bind fun t170 => (if t170 = true then ((skiarearef10_in.f ((rd_T50 l0_1 x3_1).f7) 5 1000).bind fun t171 => (skiarearef10_lifts.j1 k1 x3_1 (!t171) l0_0 l0_1 l0_2 l0_3 ((rd_T50 l0_1 x3_1).f0) ((rd_T50 l0_1 x3_1).f1) ((rd_T50 l0_1 x3_1).f2) ((rd_T50 l0_1 x3_1).f3) ((rd_T50 l0_1 x3_1).f4) ((rd_T50 l0_1 x3_1).f5) ((rd_T50 l0_1 x3_1).f6) ((rd_T50 l0_1 x3_1).f7))) else (skiarearef10_lifts.j1 k1 x3_1 true l0_0 l0_1 l0_2 l0_3 ((rd_T50 l0_1 x3_1).f0) ((rd_T50 l0_1 x3_1).f1) ((rd_T50 l0_1 x3_1).f2) ((rd_T50 l0_1 x3_1).f3) ((rd_T50 l0_1 x3_1).f4) ((rd_T50 l0_1 x3_1).f5) ((rd_T50 l0_1 x3_1).f6) ((rd_T50 l0_1 x3_1).f7)))) else (skiarearef10_lifts.j1 k1 x3_1 true l0_0 l0_1 l0_2 l0_3 ((rd_T50 l0_1 x3_1).f0) ((rd_T50 l0_1 x3_1).f1) ((rd_T50 l0_1 x3_1).f2) ((rd_T50 l0_1 x3_1).f3) ((rd_T50 l0_1 x3_1).f4) ((rd_T50 l0_1 x3_1).f5) ((rd_T50 l0_1 x3_1).f6) ((rd_T50 l0_1 x3_1).f7)))) else (skiarearef10_lifts.j1 k1 x3_1 true l0_0 l0_1 l0_2 l0_3 ((rd_T50 l0_1 x3_1).f0) ((rd_T50 l0_1 x3_1).f1) ((rd_T50 l0_1 x3_1).f2) ((rd_T50 l0_1 x3_1).f3) ((rd_T50 l0_1 x3_1).f4) ((rd_T50 l0_1 x3_1).f5) ((rd_T50 l0_1 x3_1).f6) ((rd_T50 l0_1 x3_1).f7)))) else (skiarearef10_lifts.j1 k1 x3_1 true l0_0 l0_1 l0_2 l0_3 ((rd_T50 l0_1 x3_1).f0) ((rd_T50 l0_1 x3_1).f1) ((rd_T50 l0_1 x3_1).f2) ((rd_T50 l0_1 x3_1).f3) ((rd_T50 l0_1 x3_1).f4) ((rd_T50 l0_1 x3_1).f5) ((rd_T50 l0_1 x3_1).f6) ((rd_T50 l0_1 x3_1).f7))) = some r := H
       have A12 := Aside0.mk A120
       clear A120
       by_cases c13 : t167 = true
       ·subst c13
        have H1 : ((skiarearef10_in.f ((rd_T50 l0_1 x3_1).f4) 10 6000).bind fun t168 => (if t168 = true then ((skiarearef10_in.f ((rd_T50 l0_1 x3_1).f5) 500 12000).bind fun t169 => (if t169 = true then ((skiarearef10_in.f ((rd_T50 l0_1 x3_1).f6) 1 16).bind fun t170 => (if t170 = true then ((skiarearef10_in.f ((rd_T50 l0_1 x3_1).f7) 5 1000).bind fun t171 => (skiarearef10_lifts.j1 k1 x3_1 (!t171) l0_0 l0_1 l0_2 l0_3 ((rd_T50 l0_1 x3_1).f0) ((rd_T50 l0_1 x3_1).f1) ((rd_T50 l0_1 x3_1).f2) ((rd_T50 l0_1 x3_1).f3) ((rd_T50 l0_1 x3_1).f4) ((rd_T50 l0_1 x3_1).f5) ((rd_T50 l0_1 x3_1).f6) ((rd_T50 l0_1 x3_1).f7))) else (skiarearef10_lifts.j1 k1 x3_1 true l0_0 l0_1 l0_2 l0_3 ((rd_T50 l0_1 x3_1).f0) ((rd_T50 l0_1 x3_1).f1) ((rd_T50 l0_1 x3_1).f2) ((rd_T50 l0_1 x3_1).f3) ((rd_T50 l0_1 x3_1).f4) ((rd_T50 l0_1 x3_1).f5) ((rd_T50 l0_1 x3_1).f6) ((rd_T50 l0_1 x3_1).f7)))) else (skiarearef10_lifts.j1 k1 x3_1 true l0_0 l0_1 l0_2 l0_3 ((rd_T50 l0_1 x3_1).f0) ((rd_T50 l0_1 x3_1).f1) ((rd_T50 l0_1 x3_1).f2) ((rd_T50 l0_1 x3_1).f3) ((rd_T50 l0_1 x3_1).f4) ((rd_T50 l0_1 x3_1).f5) ((rd_T50 l0_1 x3_1).f6) ((rd_T50 l0_1 x3_1).f7)))) else (skiarearef10_lifts.j1 k1 x3_1 true l0_0 l0_1 l0_2 l0_3 ((rd_T50 l0_1 x3_1).f0) ((rd_T50 l0_1 x3_1).f1) ((rd_T50 l0_1 x3_1).f2) ((rd_T50 l0_1 x3_1).f3) ((rd_T50 l0_1 x3_1).f4) ((rd_T50 l0_1 x3_1).f5) ((rd_T50 l0_1 x3_1).f6) ((rd_T50 l0_1 x3_1).f7)))) = some r := by rw [if_pos rfl] at H; exact H
        clear H
        have H := H1
        clear H1
        replace H := Option.bind_eq_some_iff.mp H
        obtain ⟨t168, A140, H⟩ := H
        replace H : (if t168 = true then ((skiarearef10_in.f ((rd_T50 l0_1 x3_1).f5) 500 12000).bind fun t169 => (if t169 = true then ((skiarearef10_in.f ((rd_T50 l0_1 x3_1).f6) 1 16).bind fun t170 => (if t170 = true then ((skiarearef10_in.f ((rd_T50 l0_1 x3_1).f7) 5 1000).bind fun t171 => (skiarearef10_lifts.j1 k1 x3_1 (!t171) l0_0 l0_1 l0_2 l0_3 ((rd_T50 l0_1 x3_1).f0) ((rd_T50 l0_1 x3_1).f1) ((rd_T50 l0_1 x3_1).f2) ((rd_T50 l0_1 x3_1).f3) ((rd_T50 l0_1 x3_1).f4) ((rd_T50 l0_1 x3_1).f5) ((rd_T50 l0_1 x3_1).f6) ((rd_T50 l0_1 x3_1).f7))) else (skiarearef10_lifts.j1 k1 x3_1 true l0_0 l0_1 l0_2 l0_3 ((rd_T50 l0_1 x3_1).f0) ((rd_T50 l0_1 x3_1).f1) ((rd_T50 l0_1 x3_1).f2) ((rd_T50 l0_1 x3_1).f3) ((rd_T50 l0_1 x3_1).f4) ((rd_T50 l0_1 x3_1).f5) ((rd_T50 l0_1 x3_1).f6) ((rd_T50 l0_1 x3_1).f7)))) else (skiarearef10_lifts.j1 k1 x3_1 true l0_0 l0_1 l0_2 l0_3 ((rd_T50 l0_1 x3_1).f0) ((rd_T50 l0_1 x3_1).f1) ((rd_T50 l0_1 x3_1).f2) ((rd_T50 l0_1 x3_1).f3) ((rd_T50 l0_1 x3_1).f4) ((rd_T50 l0_1 x3_1).f5) ((rd_T50 l0_1 x3_1).f6) ((rd_T50 l0_1 x3_1).f7)))) else (skiarearef10_lifts.j1 k1 x3_1 true l0_0 l0_1 l0_2 l0_3 ((rd_T50 l0_1 x3_1).f0) ((rd_T50 l0_1 x3_1).f1) ((rd_T50 l0_1 x3_1).f2) ((rd_T50 l0_1 x3_1).f3) ((rd_T50 l0_1 x3_1).f4) ((rd_T50 l0_1 x3_1).f5) ((rd_T50 l0_1 x3_1).f6) ((rd_T50 l0_1 x3_1).f7))) = some r := H
        have A14 := Aside0.mk A140
        clear A140
        by_cases c15 : t168 = true
        ·subst c15
         have H1 : ((skiarearef10_in.f ((rd_T50 l0_1 x3_1).f5) 500 12000).bind fun t169 => (if t169 = true then ((skiarearef10_in.f ((rd_T50 l0_1 x3_1).f6) 1 16).bind fun t170 => (if t170 = true then ((skiarearef10_in.f ((rd_T50 l0_1 x3_1).f7) 5 1000).bind fun t171 => (skiarearef10_lifts.j1 k1 x3_1 (!t171) l0_0 l0_1 l0_2 l0_3 ((rd_T50 l0_1 x3_1).f0) ((rd_T50 l0_1 x3_1).f1) ((rd_T50 l0_1 x3_1).f2) ((rd_T50 l0_1 x3_1).f3) ((rd_T50 l0_1 x3_1).f4) ((rd_T50 l0_1 x3_1).f5) ((rd_T50 l0_1 x3_1).f6) ((rd_T50 l0_1 x3_1).f7))) else (skiarearef10_lifts.j1 k1 x3_1 true l0_0 l0_1 l0_2 l0_3 ((rd_T50 l0_1 x3_1).f0) ((rd_T50 l0_1 x3_1).f1) ((rd_T50 l0_1 x3_1).f2) ((rd_T50 l0_1 x3_1).f3) ((rd_T50 l0_1 x3_1).f4) ((rd_T50 l0_1 x3_1).f5) ((rd_T50 l0_1 x3_1).f6) ((rd_T50 l0_1 x3_1).f7)))) else (skiarearef10_lifts.j1 k1 x3_1 true l0_0 l0_1 l0_2 l0_3 ((rd_T50 l0_1 x3_1).f0) ((rd_T50 l0_1 x3_1).f1) ((rd_T50 l0_1 x3_1).f2) ((rd_T50 l0_1 x3_1).f3) ((rd_T50 l0_1 x3_1).f4) ((rd_T50 l0_1 x3_1).f5) ((rd_T50 l0_1 x3_1).f6) ((rd_T50 l0_1 x3_1).f7)))) = some r := by rw [if_pos rfl] at H; exact H
         clear H
         have H := H1
         clear H1
         replace H := Option.bind_eq_some_iff.mp H
         obtain ⟨t169, A160, H⟩ := H
         replace H : (if t169 = true then ((skiarearef10_in.f ((rd_T50 l0_1 x3_1).f6) 1 16).bind fun t170 => (if t170 = true then ((skiarearef10_in.f ((rd_T50 l0_1 x3_1).f7) 5 1000).bind fun t171 => (skiarearef10_lifts.j1 k1 x3_1 (!t171) l0_0 l0_1 l0_2 l0_3 ((rd_T50 l0_1 x3_1).f0) ((rd_T50 l0_1 x3_1).f1) ((rd_T50 l0_1 x3_1).f2) ((rd_T50 l0_1 x3_1).f3) ((rd_T50 l0_1 x3_1).f4) ((rd_T50 l0_1 x3_1).f5) ((rd_T50 l0_1 x3_1).f6) ((rd_T50 l0_1 x3_1).f7))) else (skiarearef10_lifts.j1 k1 x3_1 true l0_0 l0_1 l0_2 l0_3 ((rd_T50 l0_1 x3_1).f0) ((rd_T50 l0_1 x3_1).f1) ((rd_T50 l0_1 x3_1).f2) ((rd_T50 l0_1 x3_1).f3) ((rd_T50 l0_1 x3_1).f4) ((rd_T50 l0_1 x3_1).f5) ((rd_T50 l0_1 x3_1).f6) ((rd_T50 l0_1 x3_1).f7)))) else (skiarearef10_lifts.j1 k1 x3_1 true l0_0 l0_1 l0_2 l0_3 ((rd_T50 l0_1 x3_1).f0) ((rd_T50 l0_1 x3_1).f1) ((rd_T50 l0_1 x3_1).f2) ((rd_T50 l0_1 x3_1).f3) ((rd_T50 l0_1 x3_1).f4) ((rd_T50 l0_1 x3_1).f5) ((rd_T50 l0_1 x3_1).f6) ((rd_T50 l0_1 x3_1).f7))) = some r := H
         have A16 := Aside0.mk A160
         clear A160
         by_cases c17 : t169 = true
         ·subst c17
          have H1 : ((skiarearef10_in.f ((rd_T50 l0_1 x3_1).f6) 1 16).bind fun t170 => (if t170 = true then ((skiarearef10_in.f ((rd_T50 l0_1 x3_1).f7) 5 1000).bind fun t171 => (skiarearef10_lifts.j1 k1 x3_1 (!t171) l0_0 l0_1 l0_2 l0_3 ((rd_T50 l0_1 x3_1).f0) ((rd_T50 l0_1 x3_1).f1) ((rd_T50 l0_1 x3_1).f2) ((rd_T50 l0_1 x3_1).f3) ((rd_T50 l0_1 x3_1).f4) ((rd_T50 l0_1 x3_1).f5) ((rd_T50 l0_1 x3_1).f6) ((rd_T50 l0_1 x3_1).f7))) else (skiarearef10_lifts.j1 k1 x3_1 true l0_0 l0_1 l0_2 l0_3 ((rd_T50 l0_1 x3_1).f0) ((rd_T50 l0_1 x3_1).f1) ((rd_T50 l0_1 x3_1).f2) ((rd_T50 l0_1 x3_1).f3) ((rd_T50 l0_1 x3_1).f4) ((rd_T50 l0_1 x3_1).f5) ((rd_T50 l0_1 x3_1).f6) ((rd_T50 l0_1 x3_1).f7)))) = some r := by rw [if_pos rfl] at H; exact H
          clear H
          have H := H1
          clear H1
          replace H := Option.bind_eq_some_iff.mp H
          obtain ⟨t170, A180, H⟩ := H
          replace H : (if t170 = true then ((skiarearef10_in.f ((rd_T50 l0_1 x3_1).f7) 5 1000).bind fun t171 => (skiarearef10_lifts.j1 k1 x3_1 (!t171) l0_0 l0_1 l0_2 l0_3 ((rd_T50 l0_1 x3_1).f0) ((rd_T50 l0_1 x3_1).f1) ((rd_T50 l0_1 x3_1).f2) ((rd_T50 l0_1 x3_1).f3) ((rd_T50 l0_1 x3_1).f4) ((rd_T50 l0_1 x3_1).f5) ((rd_T50 l0_1 x3_1).f6) ((rd_T50 l0_1 x3_1).f7))) else (skiarearef10_lifts.j1 k1 x3_1 true l0_0 l0_1 l0_2 l0_3 ((rd_T50 l0_1 x3_1).f0) ((rd_T50 l0_1 x3_1).f1) ((rd_T50 l0_1 x3_1).f2) ((rd_T50 l0_1 x3_1).f3) ((rd_T50 l0_1 x3_1).f4) ((rd_T50 l0_1 x3_1).f5) ((rd_T50 l0_1 x3_1).f6) ((rd_T50 l0_1 x3_1).f7))) = some r := H
          have A18 := Aside0.mk A180
          clear A180
          by_cases c19 : t170 = true
          ·subst c19
           have H1 : ((skiarearef10_in.f ((rd_T50 l0_1 x3_1).f7) 5 1000).bind fun t171 => (skiarearef10_lifts.j1 k1 x3_1 (!t171) l0_0 l0_1 l0_2 l0_3 ((rd_T50 l0_1 x3_1).f0) ((rd_T50 l0_1 x3_1).f1) ((rd_T50 l0_1 x3_1).f2) ((rd_T50 l0_1 x3_1).f3) ((rd_T50 l0_1 x3_1).f4) ((rd_T50 l0_1 x3_1).f5) ((rd_T50 l0_1 x3_1).f6) ((rd_T50 l0_1 x3_1).f7))) = some r := by rw [if_pos rfl] at H; exact H
           clear H
           have H := H1
           clear H1
           replace H := Option.bind_eq_some_iff.mp H
           obtain ⟨t171, A200, H⟩ := H
           replace H : (skiarearef10_lifts.j1 k1 x3_1 (!t171) l0_0 l0_1 l0_2 l0_3 ((rd_T50 l0_1 x3_1).f0) ((rd_T50 l0_1 x3_1).f1) ((rd_T50 l0_1 x3_1).f2) ((rd_T50 l0_1 x3_1).f3) ((rd_T50 l0_1 x3_1).f4) ((rd_T50 l0_1 x3_1).f5) ((rd_T50 l0_1 x3_1).f6) ((rd_T50 l0_1 x3_1).f7)) = some r := H
           have A20 := Aside0.mk A200
           clear A200
           have H' := Aside0.mk H
           clear H
           have hnb21 := NB165_163.out
           have hnc21 := NB163_165.out
           have hcz22_0 : w7.cell? ⟨gb165, 0, none⟩ = some (.int .i64 0) := (blk_cell BK165.out 0).trans rfl
           have hcz22_1 : w7.cell? ⟨gb165, 1, none⟩ = some (.int .i64 0) := (blk_cell BK165.out 1).trans rfl
           have hcz22_2 : w7.cell? ⟨gb165, 2, none⟩ = some (.int .i64 0) := (blk_cell BK165.out 2).trans rfl
           have hcz22_3 : w7.cell? ⟨gb165, 3, none⟩ = some (.int .i64 0) := (blk_cell BK165.out 3).trans rfl
           have hcz22_4 : w7.cell? ⟨gb165, 4, none⟩ = some (.int .i64 0) := (blk_cell BK165.out 4).trans rfl
           have hcz22_5 : w7.cell? ⟨gb165, 5, none⟩ = some (.int .i64 0) := (blk_cell BK165.out 5).trans rfl
           have hcz22_6 : w7.cell? ⟨gb165, 6, none⟩ = some (.int .i64 0) := (blk_cell BK165.out 6).trans rfl
           have hcz22_7 : w7.cell? ⟨gb165, 7, none⟩ = some (.int .i64 0) := (blk_cell BK165.out 7).trans rfl
           have hfz22_0 := blk_frozen BK165.out 0
           have hfz22_1 := blk_frozen BK165.out 1
           have hfz22_2 := blk_frozen BK165.out 2
           have hfz22_3 := blk_frozen BK165.out 3
           have hfz22_4 := blk_frozen BK165.out 4
           have hfz22_5 := blk_frozen BK165.out 5
           have hfz22_6 := blk_frozen BK165.out 6
           have hfz22_7 := blk_frozen BK165.out 7
           go_wp2_with (first | (go_at_call 38; (with_reducible refine (skiarearef10_in.calls ((rd_T50 l0_1 x3_1).f0) 1 9999 true _ A10.out).mono ?_); rintro e w' ⟨rfl, ⟨nd, rfl⟩⟩; (try first | exact ⟨rfl, _, World.drewN_drewN _ _ _⟩ | exact ⟨rfl, _, Eq.trans (World.drewN_drewN _ _ _) (congrArg (World.drewN _) (Nat.add_assoc _ _ _))⟩)) | (go_at_call 38; (with_reducible refine (skiarearef10_in.calls ((rd_T50 l0_1 x3_1).f1) 1 8 true _ A12.out).mono ?_); rintro e w' ⟨rfl, ⟨nd, rfl⟩⟩; (try first | exact ⟨rfl, _, World.drewN_drewN _ _ _⟩ | exact ⟨rfl, _, Eq.trans (World.drewN_drewN _ _ _) (congrArg (World.drewN _) (Nat.add_assoc _ _ _))⟩)) | (go_at_call 38; (with_reducible refine (skiarearef10_in.calls ((rd_T50 l0_1 x3_1).f4) 10 6000 true _ A14.out).mono ?_); rintro e w' ⟨rfl, ⟨nd, rfl⟩⟩; (try first | exact ⟨rfl, _, World.drewN_drewN _ _ _⟩ | exact ⟨rfl, _, Eq.trans (World.drewN_drewN _ _ _) (congrArg (World.drewN _) (Nat.add_assoc _ _ _))⟩)) | (go_at_call 38; (with_reducible refine (skiarearef10_in.calls ((rd_T50 l0_1 x3_1).f5) 500 12000 true _ A16.out).mono ?_); rintro e w' ⟨rfl, ⟨nd, rfl⟩⟩; (try first | exact ⟨rfl, _, World.drewN_drewN _ _ _⟩ | exact ⟨rfl, _, Eq.trans (World.drewN_drewN _ _ _) (congrArg (World.drewN _) (Nat.add_assoc _ _ _))⟩)) | (go_at_call 38; (with_reducible refine (skiarearef10_in.calls ((rd_T50 l0_1 x3_1).f6) 1 16 true _ A18.out).mono ?_); rintro e w' ⟨rfl, ⟨nd, rfl⟩⟩; (try first | exact ⟨rfl, _, World.drewN_drewN _ _ _⟩ | exact ⟨rfl, _, Eq.trans (World.drewN_drewN _ _ _) (congrArg (World.drewN _) (Nat.add_assoc _ _ _))⟩)) | (go_at_call 38; (with_reducible refine (skiarearef10_in.calls ((rd_T50 l0_1 x3_1).f7) 5 1000 t171 _ A20.out).mono ?_); rintro e w' ⟨rfl, ⟨nd, rfl⟩⟩; (try first | exact ⟨rfl, _, World.drewN_drewN _ _ _⟩ | exact ⟨rfl, _, Eq.trans (World.drewN_drewN _ _ _) (congrArg (World.drewN _) (Nat.add_assoc _ _ _))⟩)))
           repeat (go_quiet (first | (go_at_call 38; (with_reducible refine (skiarearef10_in.calls ((rd_T50 l0_1 x3_1).f0) 1 9999 true _ A10.out).mono ?_); rintro e w' ⟨rfl, ⟨nd, rfl⟩⟩; (try first | exact ⟨rfl, _, World.drewN_drewN _ _ _⟩ | exact ⟨rfl, _, Eq.trans (World.drewN_drewN _ _ _) (congrArg (World.drewN _) (Nat.add_assoc _ _ _))⟩)) | (go_at_call 38; (with_reducible refine (skiarearef10_in.calls ((rd_T50 l0_1 x3_1).f1) 1 8 true _ A12.out).mono ?_); rintro e w' ⟨rfl, ⟨nd, rfl⟩⟩; (try first | exact ⟨rfl, _, World.drewN_drewN _ _ _⟩ | exact ⟨rfl, _, Eq.trans (World.drewN_drewN _ _ _) (congrArg (World.drewN _) (Nat.add_assoc _ _ _))⟩)) | (go_at_call 38; (with_reducible refine (skiarearef10_in.calls ((rd_T50 l0_1 x3_1).f4) 10 6000 true _ A14.out).mono ?_); rintro e w' ⟨rfl, ⟨nd, rfl⟩⟩; (try first | exact ⟨rfl, _, World.drewN_drewN _ _ _⟩ | exact ⟨rfl, _, Eq.trans (World.drewN_drewN _ _ _) (congrArg (World.drewN _) (Nat.add_assoc _ _ _))⟩)) | (go_at_call 38; (with_reducible refine (skiarearef10_in.calls ((rd_T50 l0_1 x3_1).f5) 500 12000 true _ A16.out).mono ?_); rintro e w' ⟨rfl, ⟨nd, rfl⟩⟩; (try first | exact ⟨rfl, _, World.drewN_drewN _ _ _⟩ | exact ⟨rfl, _, Eq.trans (World.drewN_drewN _ _ _) (congrArg (World.drewN _) (Nat.add_assoc _ _ _))⟩)) | (go_at_call 38; (with_reducible refine (skiarearef10_in.calls ((rd_T50 l0_1 x3_1).f6) 1 16 true _ A18.out).mono ?_); rintro e w' ⟨rfl, ⟨nd, rfl⟩⟩; (try first | exact ⟨rfl, _, World.drewN_drewN _ _ _⟩ | exact ⟨rfl, _, Eq.trans (World.drewN_drewN _ _ _) (congrArg (World.drewN _) (Nat.add_assoc _ _ _))⟩)) | (go_at_call 38; (with_reducible refine (skiarearef10_in.calls ((rd_T50 l0_1 x3_1).f7) 5 1000 t171 _ A20.out).mono ?_); rintro e w' ⟨rfl, ⟨nd, rfl⟩⟩; (try first | exact ⟨rfl, _, World.drewN_drewN _ _ _⟩ | exact ⟨rfl, _, Eq.trans (World.drewN_drewN _ _ _) (congrArg (World.drewN _) (Nat.add_assoc _ _ _))⟩))); try go_wp2_with (first | (go_at_call 38; (with_reducible refine (skiarearef10_in.calls ((rd_T50 l0_1 x3_1).f0) 1 9999 true _ A10.out).mono ?_); rintro e w' ⟨rfl, ⟨nd, rfl⟩⟩; (try first | exact ⟨rfl, _, World.drewN_drewN _ _ _⟩ | exact ⟨rfl, _, Eq.trans (World.drewN_drewN _ _ _) (congrArg (World.drewN _) (Nat.add_assoc _ _ _))⟩)) | (go_at_call 38; (with_reducible refine (skiarearef10_in.calls ((rd_T50 l0_1 x3_1).f1) 1 8 true _ A12.out).mono ?_); rintro e w' ⟨rfl, ⟨nd, rfl⟩⟩; (try first | exact ⟨rfl, _, World.drewN_drewN _ _ _⟩ | exact ⟨rfl, _, Eq.trans (World.drewN_drewN _ _ _) (congrArg (World.drewN _) (Nat.add_assoc _ _ _))⟩)) | (go_at_call 38; (with_reducible refine (skiarearef10_in.calls ((rd_T50 l0_1 x3_1).f4) 10 6000 true _ A14.out).mono ?_); rintro e w' ⟨rfl, ⟨nd, rfl⟩⟩; (try first | exact ⟨rfl, _, World.drewN_drewN _ _ _⟩ | exact ⟨rfl, _, Eq.trans (World.drewN_drewN _ _ _) (congrArg (World.drewN _) (Nat.add_assoc _ _ _))⟩)) | (go_at_call 38; (with_reducible refine (skiarearef10_in.calls ((rd_T50 l0_1 x3_1).f5) 500 12000 true _ A16.out).mono ?_); rintro e w' ⟨rfl, ⟨nd, rfl⟩⟩; (try first | exact ⟨rfl, _, World.drewN_drewN _ _ _⟩ | exact ⟨rfl, _, Eq.trans (World.drewN_drewN _ _ _) (congrArg (World.drewN _) (Nat.add_assoc _ _ _))⟩)) | (go_at_call 38; (with_reducible refine (skiarearef10_in.calls ((rd_T50 l0_1 x3_1).f6) 1 16 true _ A18.out).mono ?_); rintro e w' ⟨rfl, ⟨nd, rfl⟩⟩; (try first | exact ⟨rfl, _, World.drewN_drewN _ _ _⟩ | exact ⟨rfl, _, Eq.trans (World.drewN_drewN _ _ _) (congrArg (World.drewN _) (Nat.add_assoc _ _ _))⟩)) | (go_at_call 38; (with_reducible refine (skiarearef10_in.calls ((rd_T50 l0_1 x3_1).f7) 5 1000 t171 _ A20.out).mono ?_); rintro e w' ⟨rfl, ⟨nd, rfl⟩⟩; (try first | exact ⟨rfl, _, World.drewN_drewN _ _ _⟩ | exact ⟨rfl, _, Eq.trans (World.drewN_drewN _ _ _) (congrArg (World.drewN _) (Nat.add_assoc _ _ _))⟩))))
           go_meet
           case rel => exact ⟨_, (!t171), (by first | rfl | (simp; done) | (simp [*]; done)), H', ⟨by have := HK1.out; first | omega | exact Nat.le_refl _⟩, ⟨by (with_reducible repeat (first | refine blk_drewN ?_ _ | refine blk_drew ?_ | refine blk_alloc ?_ _)); refine blk_far ?_ NB163_165.out _; (with_reducible repeat (first | refine blk_drewN ?_ _ | refine blk_drew ?_ | refine blk_alloc ?_ _)); refine blk_far ?_ NB163_165.out _; (with_reducible repeat (first | refine blk_drewN ?_ _ | refine blk_drew ?_ | refine blk_alloc ?_ _)); refine blk_far ?_ NB163_165.out _; (with_reducible repeat (first | refine blk_drewN ?_ _ | refine blk_drew ?_ | refine blk_alloc ?_ _)); refine blk_far ?_ NB163_165.out _; (with_reducible repeat (first | refine blk_drewN ?_ _ | refine blk_drew ?_ | refine blk_alloc ?_ _)); refine blk_far ?_ NB163_165.out _; (with_reducible repeat (first | refine blk_drewN ?_ _ | refine blk_drew ?_ | refine blk_alloc ?_ _)); refine blk_far ?_ NB163_165.out _; (with_reducible repeat (first | refine blk_drewN ?_ _ | refine blk_drew ?_ | refine blk_alloc ?_ _)); refine blk_far ?_ NB163_165.out _; (with_reducible repeat (first | refine blk_drewN ?_ _ | refine blk_drew ?_ | refine blk_alloc ?_ _)); refine blk_far ?_ NB163_165.out _; (with_reducible repeat (first | refine blk_drewN ?_ _ | refine blk_drew ?_ | refine blk_alloc ?_ _)); exact BK163.out⟩, ⟨by (with_reducible repeat (first | refine blk_drewN ?_ _ | refine blk_drew ?_ | refine blk_alloc ?_ _)); refine blk_put (cs := #[.int .i64 ((rd_T50 l0_1 x3_1).f0), .int .i64 ((rd_T50 l0_1 x3_1).f1), .int .i64 ((rd_T50 l0_1 x3_1).f2), .int .i64 ((rd_T50 l0_1 x3_1).f3), .int .i64 ((rd_T50 l0_1 x3_1).f4), .int .i64 ((rd_T50 l0_1 x3_1).f5), .int .i64 ((rd_T50 l0_1 x3_1).f6), .int .i64 0]) ?_ 7 _ rfl; (with_reducible repeat (first | refine blk_drewN ?_ _ | refine blk_drew ?_ | refine blk_alloc ?_ _)); refine blk_put (cs := #[.int .i64 ((rd_T50 l0_1 x3_1).f0), .int .i64 ((rd_T50 l0_1 x3_1).f1), .int .i64 ((rd_T50 l0_1 x3_1).f2), .int .i64 ((rd_T50 l0_1 x3_1).f3), .int .i64 ((rd_T50 l0_1 x3_1).f4), .int .i64 ((rd_T50 l0_1 x3_1).f5), .int .i64 0, .int .i64 0]) ?_ 6 _ rfl; (with_reducible repeat (first | refine blk_drewN ?_ _ | refine blk_drew ?_ | refine blk_alloc ?_ _)); refine blk_put (cs := #[.int .i64 ((rd_T50 l0_1 x3_1).f0), .int .i64 ((rd_T50 l0_1 x3_1).f1), .int .i64 ((rd_T50 l0_1 x3_1).f2), .int .i64 ((rd_T50 l0_1 x3_1).f3), .int .i64 ((rd_T50 l0_1 x3_1).f4), .int .i64 0, .int .i64 0, .int .i64 0]) ?_ 5 _ rfl; (with_reducible repeat (first | refine blk_drewN ?_ _ | refine blk_drew ?_ | refine blk_alloc ?_ _)); refine blk_put (cs := #[.int .i64 ((rd_T50 l0_1 x3_1).f0), .int .i64 ((rd_T50 l0_1 x3_1).f1), .int .i64 ((rd_T50 l0_1 x3_1).f2), .int .i64 ((rd_T50 l0_1 x3_1).f3), .int .i64 0, .int .i64 0, .int .i64 0, .int .i64 0]) ?_ 4 _ rfl; (with_reducible repeat (first | refine blk_drewN ?_ _ | refine blk_drew ?_ | refine blk_alloc ?_ _)); refine blk_put (cs := #[.int .i64 ((rd_T50 l0_1 x3_1).f0), .int .i64 ((rd_T50 l0_1 x3_1).f1), .int .i64 ((rd_T50 l0_1 x3_1).f2), .int .i64 0, .int .i64 0, .int .i64 0, .int .i64 0, .int .i64 0]) ?_ 3 _ rfl; (with_reducible repeat (first | refine blk_drewN ?_ _ | refine blk_drew ?_ | refine blk_alloc ?_ _)); refine blk_put (cs := #[.int .i64 ((rd_T50 l0_1 x3_1).f0), .int .i64 ((rd_T50 l0_1 x3_1).f1), .int .i64 0, .int .i64 0, .int .i64 0, .int .i64 0, .int .i64 0, .int .i64 0]) ?_ 2 _ rfl; (with_reducible repeat (first | refine blk_drewN ?_ _ | refine blk_drew ?_ | refine blk_alloc ?_ _)); refine blk_put (cs := #[.int .i64 ((rd_T50 l0_1 x3_1).f0), .int .i64 0, .int .i64 0, .int .i64 0, .int .i64 0, .int .i64 0, .int .i64 0, .int .i64 0]) ?_ 1 _ rfl; (with_reducible repeat (first | refine blk_drewN ?_ _ | refine blk_drew ?_ | refine blk_alloc ?_ _)); refine blk_put (cs := #[.int .i64 0, .int .i64 0, .int .i64 0, .int .i64 0, .int .i64 0, .int .i64 0, .int .i64 0, .int .i64 0]) ?_ 0 _ rfl; (with_reducible repeat (first | refine blk_drewN ?_ _ | refine blk_drew ?_ | refine blk_alloc ?_ _)); exact BK165.out⟩, ⟨by repeat (first | (with_reducible first | exact HB.out | apply below_alloc | apply pw_below_drewN | apply below_drew1 | refine below_set ?_ GE163.out | refine below_set ?_ GE165.out) | exact HB.out)⟩⟩
          ·replace c19 := Bool.eq_false_iff.mpr c19
           subst c19
           have H1 : (skiarearef10_lifts.j1 k1 x3_1 true l0_0 l0_1 l0_2 l0_3 ((rd_T50 l0_1 x3_1).f0) ((rd_T50 l0_1 x3_1).f1) ((rd_T50 l0_1 x3_1).f2) ((rd_T50 l0_1 x3_1).f3) ((rd_T50 l0_1 x3_1).f4) ((rd_T50 l0_1 x3_1).f5) ((rd_T50 l0_1 x3_1).f6) ((rd_T50 l0_1 x3_1).f7)) = some r := by rw [if_neg (show ¬ (false = true) by decide)] at H; exact H
           clear H
           have H := H1
           clear H1
           have H' := Aside0.mk H
           clear H
           have hnb23 := NB165_163.out
           have hnc23 := NB163_165.out
           have hcz24_0 : w7.cell? ⟨gb165, 0, none⟩ = some (.int .i64 0) := (blk_cell BK165.out 0).trans rfl
           have hcz24_1 : w7.cell? ⟨gb165, 1, none⟩ = some (.int .i64 0) := (blk_cell BK165.out 1).trans rfl
           have hcz24_2 : w7.cell? ⟨gb165, 2, none⟩ = some (.int .i64 0) := (blk_cell BK165.out 2).trans rfl
           have hcz24_3 : w7.cell? ⟨gb165, 3, none⟩ = some (.int .i64 0) := (blk_cell BK165.out 3).trans rfl
           have hcz24_4 : w7.cell? ⟨gb165, 4, none⟩ = some (.int .i64 0) := (blk_cell BK165.out 4).trans rfl
           have hcz24_5 : w7.cell? ⟨gb165, 5, none⟩ = some (.int .i64 0) := (blk_cell BK165.out 5).trans rfl
           have hcz24_6 : w7.cell? ⟨gb165, 6, none⟩ = some (.int .i64 0) := (blk_cell BK165.out 6).trans rfl
           have hcz24_7 : w7.cell? ⟨gb165, 7, none⟩ = some (.int .i64 0) := (blk_cell BK165.out 7).trans rfl
           have hfz24_0 := blk_frozen BK165.out 0
           have hfz24_1 := blk_frozen BK165.out 1
           have hfz24_2 := blk_frozen BK165.out 2
           have hfz24_3 := blk_frozen BK165.out 3
           have hfz24_4 := blk_frozen BK165.out 4
           have hfz24_5 := blk_frozen BK165.out 5
           have hfz24_6 := blk_frozen BK165.out 6
           have hfz24_7 := blk_frozen BK165.out 7
           go_wp2_with (first | (go_at_call 38; (with_reducible refine (skiarearef10_in.calls ((rd_T50 l0_1 x3_1).f0) 1 9999 true _ A10.out).mono ?_); rintro e w' ⟨rfl, ⟨nd, rfl⟩⟩; (try first | exact ⟨rfl, _, World.drewN_drewN _ _ _⟩ | exact ⟨rfl, _, Eq.trans (World.drewN_drewN _ _ _) (congrArg (World.drewN _) (Nat.add_assoc _ _ _))⟩)) | (go_at_call 38; (with_reducible refine (skiarearef10_in.calls ((rd_T50 l0_1 x3_1).f1) 1 8 true _ A12.out).mono ?_); rintro e w' ⟨rfl, ⟨nd, rfl⟩⟩; (try first | exact ⟨rfl, _, World.drewN_drewN _ _ _⟩ | exact ⟨rfl, _, Eq.trans (World.drewN_drewN _ _ _) (congrArg (World.drewN _) (Nat.add_assoc _ _ _))⟩)) | (go_at_call 38; (with_reducible refine (skiarearef10_in.calls ((rd_T50 l0_1 x3_1).f4) 10 6000 true _ A14.out).mono ?_); rintro e w' ⟨rfl, ⟨nd, rfl⟩⟩; (try first | exact ⟨rfl, _, World.drewN_drewN _ _ _⟩ | exact ⟨rfl, _, Eq.trans (World.drewN_drewN _ _ _) (congrArg (World.drewN _) (Nat.add_assoc _ _ _))⟩)) | (go_at_call 38; (with_reducible refine (skiarearef10_in.calls ((rd_T50 l0_1 x3_1).f5) 500 12000 true _ A16.out).mono ?_); rintro e w' ⟨rfl, ⟨nd, rfl⟩⟩; (try first | exact ⟨rfl, _, World.drewN_drewN _ _ _⟩ | exact ⟨rfl, _, Eq.trans (World.drewN_drewN _ _ _) (congrArg (World.drewN _) (Nat.add_assoc _ _ _))⟩)) | (go_at_call 38; (with_reducible refine (skiarearef10_in.calls ((rd_T50 l0_1 x3_1).f6) 1 16 false _ A18.out).mono ?_); rintro e w' ⟨rfl, ⟨nd, rfl⟩⟩; (try first | exact ⟨rfl, _, World.drewN_drewN _ _ _⟩ | exact ⟨rfl, _, Eq.trans (World.drewN_drewN _ _ _) (congrArg (World.drewN _) (Nat.add_assoc _ _ _))⟩)))
           repeat (go_quiet (first | (go_at_call 38; (with_reducible refine (skiarearef10_in.calls ((rd_T50 l0_1 x3_1).f0) 1 9999 true _ A10.out).mono ?_); rintro e w' ⟨rfl, ⟨nd, rfl⟩⟩; (try first | exact ⟨rfl, _, World.drewN_drewN _ _ _⟩ | exact ⟨rfl, _, Eq.trans (World.drewN_drewN _ _ _) (congrArg (World.drewN _) (Nat.add_assoc _ _ _))⟩)) | (go_at_call 38; (with_reducible refine (skiarearef10_in.calls ((rd_T50 l0_1 x3_1).f1) 1 8 true _ A12.out).mono ?_); rintro e w' ⟨rfl, ⟨nd, rfl⟩⟩; (try first | exact ⟨rfl, _, World.drewN_drewN _ _ _⟩ | exact ⟨rfl, _, Eq.trans (World.drewN_drewN _ _ _) (congrArg (World.drewN _) (Nat.add_assoc _ _ _))⟩)) | (go_at_call 38; (with_reducible refine (skiarearef10_in.calls ((rd_T50 l0_1 x3_1).f4) 10 6000 true _ A14.out).mono ?_); rintro e w' ⟨rfl, ⟨nd, rfl⟩⟩; (try first | exact ⟨rfl, _, World.drewN_drewN _ _ _⟩ | exact ⟨rfl, _, Eq.trans (World.drewN_drewN _ _ _) (congrArg (World.drewN _) (Nat.add_assoc _ _ _))⟩)) | (go_at_call 38; (with_reducible refine (skiarearef10_in.calls ((rd_T50 l0_1 x3_1).f5) 500 12000 true _ A16.out).mono ?_); rintro e w' ⟨rfl, ⟨nd, rfl⟩⟩; (try first | exact ⟨rfl, _, World.drewN_drewN _ _ _⟩ | exact ⟨rfl, _, Eq.trans (World.drewN_drewN _ _ _) (congrArg (World.drewN _) (Nat.add_assoc _ _ _))⟩)) | (go_at_call 38; (with_reducible refine (skiarearef10_in.calls ((rd_T50 l0_1 x3_1).f6) 1 16 false _ A18.out).mono ?_); rintro e w' ⟨rfl, ⟨nd, rfl⟩⟩; (try first | exact ⟨rfl, _, World.drewN_drewN _ _ _⟩ | exact ⟨rfl, _, Eq.trans (World.drewN_drewN _ _ _) (congrArg (World.drewN _) (Nat.add_assoc _ _ _))⟩))); try go_wp2_with (first | (go_at_call 38; (with_reducible refine (skiarearef10_in.calls ((rd_T50 l0_1 x3_1).f0) 1 9999 true _ A10.out).mono ?_); rintro e w' ⟨rfl, ⟨nd, rfl⟩⟩; (try first | exact ⟨rfl, _, World.drewN_drewN _ _ _⟩ | exact ⟨rfl, _, Eq.trans (World.drewN_drewN _ _ _) (congrArg (World.drewN _) (Nat.add_assoc _ _ _))⟩)) | (go_at_call 38; (with_reducible refine (skiarearef10_in.calls ((rd_T50 l0_1 x3_1).f1) 1 8 true _ A12.out).mono ?_); rintro e w' ⟨rfl, ⟨nd, rfl⟩⟩; (try first | exact ⟨rfl, _, World.drewN_drewN _ _ _⟩ | exact ⟨rfl, _, Eq.trans (World.drewN_drewN _ _ _) (congrArg (World.drewN _) (Nat.add_assoc _ _ _))⟩)) | (go_at_call 38; (with_reducible refine (skiarearef10_in.calls ((rd_T50 l0_1 x3_1).f4) 10 6000 true _ A14.out).mono ?_); rintro e w' ⟨rfl, ⟨nd, rfl⟩⟩; (try first | exact ⟨rfl, _, World.drewN_drewN _ _ _⟩ | exact ⟨rfl, _, Eq.trans (World.drewN_drewN _ _ _) (congrArg (World.drewN _) (Nat.add_assoc _ _ _))⟩)) | (go_at_call 38; (with_reducible refine (skiarearef10_in.calls ((rd_T50 l0_1 x3_1).f5) 500 12000 true _ A16.out).mono ?_); rintro e w' ⟨rfl, ⟨nd, rfl⟩⟩; (try first | exact ⟨rfl, _, World.drewN_drewN _ _ _⟩ | exact ⟨rfl, _, Eq.trans (World.drewN_drewN _ _ _) (congrArg (World.drewN _) (Nat.add_assoc _ _ _))⟩)) | (go_at_call 38; (with_reducible refine (skiarearef10_in.calls ((rd_T50 l0_1 x3_1).f6) 1 16 false _ A18.out).mono ?_); rintro e w' ⟨rfl, ⟨nd, rfl⟩⟩; (try first | exact ⟨rfl, _, World.drewN_drewN _ _ _⟩ | exact ⟨rfl, _, Eq.trans (World.drewN_drewN _ _ _) (congrArg (World.drewN _) (Nat.add_assoc _ _ _))⟩))))
           go_meet
           case rel => exact ⟨_, (true), (by first | rfl | (simp; done) | (simp [*]; done)), H', ⟨by have := HK1.out; first | omega | exact Nat.le_refl _⟩, ⟨by (with_reducible repeat (first | refine blk_drewN ?_ _ | refine blk_drew ?_ | refine blk_alloc ?_ _)); refine blk_far ?_ NB163_165.out _; (with_reducible repeat (first | refine blk_drewN ?_ _ | refine blk_drew ?_ | refine blk_alloc ?_ _)); refine blk_far ?_ NB163_165.out _; (with_reducible repeat (first | refine blk_drewN ?_ _ | refine blk_drew ?_ | refine blk_alloc ?_ _)); refine blk_far ?_ NB163_165.out _; (with_reducible repeat (first | refine blk_drewN ?_ _ | refine blk_drew ?_ | refine blk_alloc ?_ _)); refine blk_far ?_ NB163_165.out _; (with_reducible repeat (first | refine blk_drewN ?_ _ | refine blk_drew ?_ | refine blk_alloc ?_ _)); refine blk_far ?_ NB163_165.out _; (with_reducible repeat (first | refine blk_drewN ?_ _ | refine blk_drew ?_ | refine blk_alloc ?_ _)); refine blk_far ?_ NB163_165.out _; (with_reducible repeat (first | refine blk_drewN ?_ _ | refine blk_drew ?_ | refine blk_alloc ?_ _)); refine blk_far ?_ NB163_165.out _; (with_reducible repeat (first | refine blk_drewN ?_ _ | refine blk_drew ?_ | refine blk_alloc ?_ _)); refine blk_far ?_ NB163_165.out _; (with_reducible repeat (first | refine blk_drewN ?_ _ | refine blk_drew ?_ | refine blk_alloc ?_ _)); exact BK163.out⟩, ⟨by (with_reducible repeat (first | refine blk_drewN ?_ _ | refine blk_drew ?_ | refine blk_alloc ?_ _)); refine blk_put (cs := #[.int .i64 ((rd_T50 l0_1 x3_1).f0), .int .i64 ((rd_T50 l0_1 x3_1).f1), .int .i64 ((rd_T50 l0_1 x3_1).f2), .int .i64 ((rd_T50 l0_1 x3_1).f3), .int .i64 ((rd_T50 l0_1 x3_1).f4), .int .i64 ((rd_T50 l0_1 x3_1).f5), .int .i64 ((rd_T50 l0_1 x3_1).f6), .int .i64 0]) ?_ 7 _ rfl; (with_reducible repeat (first | refine blk_drewN ?_ _ | refine blk_drew ?_ | refine blk_alloc ?_ _)); refine blk_put (cs := #[.int .i64 ((rd_T50 l0_1 x3_1).f0), .int .i64 ((rd_T50 l0_1 x3_1).f1), .int .i64 ((rd_T50 l0_1 x3_1).f2), .int .i64 ((rd_T50 l0_1 x3_1).f3), .int .i64 ((rd_T50 l0_1 x3_1).f4), .int .i64 ((rd_T50 l0_1 x3_1).f5), .int .i64 0, .int .i64 0]) ?_ 6 _ rfl; (with_reducible repeat (first | refine blk_drewN ?_ _ | refine blk_drew ?_ | refine blk_alloc ?_ _)); refine blk_put (cs := #[.int .i64 ((rd_T50 l0_1 x3_1).f0), .int .i64 ((rd_T50 l0_1 x3_1).f1), .int .i64 ((rd_T50 l0_1 x3_1).f2), .int .i64 ((rd_T50 l0_1 x3_1).f3), .int .i64 ((rd_T50 l0_1 x3_1).f4), .int .i64 0, .int .i64 0, .int .i64 0]) ?_ 5 _ rfl; (with_reducible repeat (first | refine blk_drewN ?_ _ | refine blk_drew ?_ | refine blk_alloc ?_ _)); refine blk_put (cs := #[.int .i64 ((rd_T50 l0_1 x3_1).f0), .int .i64 ((rd_T50 l0_1 x3_1).f1), .int .i64 ((rd_T50 l0_1 x3_1).f2), .int .i64 ((rd_T50 l0_1 x3_1).f3), .int .i64 0, .int .i64 0, .int .i64 0, .int .i64 0]) ?_ 4 _ rfl; (with_reducible repeat (first | refine blk_drewN ?_ _ | refine blk_drew ?_ | refine blk_alloc ?_ _)); refine blk_put (cs := #[.int .i64 ((rd_T50 l0_1 x3_1).f0), .int .i64 ((rd_T50 l0_1 x3_1).f1), .int .i64 ((rd_T50 l0_1 x3_1).f2), .int .i64 0, .int .i64 0, .int .i64 0, .int .i64 0, .int .i64 0]) ?_ 3 _ rfl; (with_reducible repeat (first | refine blk_drewN ?_ _ | refine blk_drew ?_ | refine blk_alloc ?_ _)); refine blk_put (cs := #[.int .i64 ((rd_T50 l0_1 x3_1).f0), .int .i64 ((rd_T50 l0_1 x3_1).f1), .int .i64 0, .int .i64 0, .int .i64 0, .int .i64 0, .int .i64 0, .int .i64 0]) ?_ 2 _ rfl; (with_reducible repeat (first | refine blk_drewN ?_ _ | refine blk_drew ?_ | refine blk_alloc ?_ _)); refine blk_put (cs := #[.int .i64 ((rd_T50 l0_1 x3_1).f0), .int .i64 0, .int .i64 0, .int .i64 0, .int .i64 0, .int .i64 0, .int .i64 0, .int .i64 0]) ?_ 1 _ rfl; (with_reducible repeat (first | refine blk_drewN ?_ _ | refine blk_drew ?_ | refine blk_alloc ?_ _)); refine blk_put (cs := #[.int .i64 0, .int .i64 0, .int .i64 0, .int .i64 0, .int .i64 0, .int .i64 0, .int .i64 0, .int .i64 0]) ?_ 0 _ rfl; (with_reducible repeat (first | refine blk_drewN ?_ _ | refine blk_drew ?_ | refine blk_alloc ?_ _)); exact BK165.out⟩, ⟨by repeat (first | (with_reducible first | exact HB.out | apply below_alloc | apply pw_below_drewN | apply below_drew1 | refine below_set ?_ GE163.out | refine below_set ?_ GE165.out) | exact HB.out)⟩⟩
         ·replace c17 := Bool.eq_false_iff.mpr c17
          subst c17
          have H1 : (skiarearef10_lifts.j1 k1 x3_1 true l0_0 l0_1 l0_2 l0_3 ((rd_T50 l0_1 x3_1).f0) ((rd_T50 l0_1 x3_1).f1) ((rd_T50 l0_1 x3_1).f2) ((rd_T50 l0_1 x3_1).f3) ((rd_T50 l0_1 x3_1).f4) ((rd_T50 l0_1 x3_1).f5) ((rd_T50 l0_1 x3_1).f6) ((rd_T50 l0_1 x3_1).f7)) = some r := by rw [if_neg (show ¬ (false = true) by decide)] at H; exact H
          clear H
          have H := H1
          clear H1
          have H' := Aside0.mk H
          clear H
          have hnb25 := NB165_163.out
          have hnc25 := NB163_165.out
          have hcz26_0 : w7.cell? ⟨gb165, 0, none⟩ = some (.int .i64 0) := (blk_cell BK165.out 0).trans rfl
          have hcz26_1 : w7.cell? ⟨gb165, 1, none⟩ = some (.int .i64 0) := (blk_cell BK165.out 1).trans rfl
          have hcz26_2 : w7.cell? ⟨gb165, 2, none⟩ = some (.int .i64 0) := (blk_cell BK165.out 2).trans rfl
          have hcz26_3 : w7.cell? ⟨gb165, 3, none⟩ = some (.int .i64 0) := (blk_cell BK165.out 3).trans rfl
          have hcz26_4 : w7.cell? ⟨gb165, 4, none⟩ = some (.int .i64 0) := (blk_cell BK165.out 4).trans rfl
          have hcz26_5 : w7.cell? ⟨gb165, 5, none⟩ = some (.int .i64 0) := (blk_cell BK165.out 5).trans rfl
          have hcz26_6 : w7.cell? ⟨gb165, 6, none⟩ = some (.int .i64 0) := (blk_cell BK165.out 6).trans rfl
          have hcz26_7 : w7.cell? ⟨gb165, 7, none⟩ = some (.int .i64 0) := (blk_cell BK165.out 7).trans rfl
          have hfz26_0 := blk_frozen BK165.out 0
          have hfz26_1 := blk_frozen BK165.out 1
          have hfz26_2 := blk_frozen BK165.out 2
          have hfz26_3 := blk_frozen BK165.out 3
          have hfz26_4 := blk_frozen BK165.out 4
          have hfz26_5 := blk_frozen BK165.out 5
          have hfz26_6 := blk_frozen BK165.out 6
          have hfz26_7 := blk_frozen BK165.out 7
          go_wp2_with (first | (go_at_call 38; (with_reducible refine (skiarearef10_in.calls ((rd_T50 l0_1 x3_1).f0) 1 9999 true _ A10.out).mono ?_); rintro e w' ⟨rfl, ⟨nd, rfl⟩⟩; (try first | exact ⟨rfl, _, World.drewN_drewN _ _ _⟩ | exact ⟨rfl, _, Eq.trans (World.drewN_drewN _ _ _) (congrArg (World.drewN _) (Nat.add_assoc _ _ _))⟩)) | (go_at_call 38; (with_reducible refine (skiarearef10_in.calls ((rd_T50 l0_1 x3_1).f1) 1 8 true _ A12.out).mono ?_); rintro e w' ⟨rfl, ⟨nd, rfl⟩⟩; (try first | exact ⟨rfl, _, World.drewN_drewN _ _ _⟩ | exact ⟨rfl, _, Eq.trans (World.drewN_drewN _ _ _) (congrArg (World.drewN _) (Nat.add_assoc _ _ _))⟩)) | (go_at_call 38; (with_reducible refine (skiarearef10_in.calls ((rd_T50 l0_1 x3_1).f4) 10 6000 true _ A14.out).mono ?_); rintro e w' ⟨rfl, ⟨nd, rfl⟩⟩; (try first | exact ⟨rfl, _, World.drewN_drewN _ _ _⟩ | exact ⟨rfl, _, Eq.trans (World.drewN_drewN _ _ _) (congrArg (World.drewN _) (Nat.add_assoc _ _ _))⟩)) | (go_at_call 38; (with_reducible refine (skiarearef10_in.calls ((rd_T50 l0_1 x3_1).f5) 500 12000 false _ A16.out).mono ?_); rintro e w' ⟨rfl, ⟨nd, rfl⟩⟩; (try first | exact ⟨rfl, _, World.drewN_drewN _ _ _⟩ | exact ⟨rfl, _, Eq.trans (World.drewN_drewN _ _ _) (congrArg (World.drewN _) (Nat.add_assoc _ _ _))⟩)))
          repeat (go_quiet (first | (go_at_call 38; (with_reducible refine (skiarearef10_in.calls ((rd_T50 l0_1 x3_1).f0) 1 9999 true _ A10.out).mono ?_); rintro e w' ⟨rfl, ⟨nd, rfl⟩⟩; (try first | exact ⟨rfl, _, World.drewN_drewN _ _ _⟩ | exact ⟨rfl, _, Eq.trans (World.drewN_drewN _ _ _) (congrArg (World.drewN _) (Nat.add_assoc _ _ _))⟩)) | (go_at_call 38; (with_reducible refine (skiarearef10_in.calls ((rd_T50 l0_1 x3_1).f1) 1 8 true _ A12.out).mono ?_); rintro e w' ⟨rfl, ⟨nd, rfl⟩⟩; (try first | exact ⟨rfl, _, World.drewN_drewN _ _ _⟩ | exact ⟨rfl, _, Eq.trans (World.drewN_drewN _ _ _) (congrArg (World.drewN _) (Nat.add_assoc _ _ _))⟩)) | (go_at_call 38; (with_reducible refine (skiarearef10_in.calls ((rd_T50 l0_1 x3_1).f4) 10 6000 true _ A14.out).mono ?_); rintro e w' ⟨rfl, ⟨nd, rfl⟩⟩; (try first | exact ⟨rfl, _, World.drewN_drewN _ _ _⟩ | exact ⟨rfl, _, Eq.trans (World.drewN_drewN _ _ _) (congrArg (World.drewN _) (Nat.add_assoc _ _ _))⟩)) | (go_at_call 38; (with_reducible refine (skiarearef10_in.calls ((rd_T50 l0_1 x3_1).f5) 500 12000 false _ A16.out).mono ?_); rintro e w' ⟨rfl, ⟨nd, rfl⟩⟩; (try first | exact ⟨rfl, _, World.drewN_drewN _ _ _⟩ | exact ⟨rfl, _, Eq.trans (World.drewN_drewN _ _ _) (congrArg (World.drewN _) (Nat.add_assoc _ _ _))⟩))); try go_wp2_with (first | (go_at_call 38; (with_reducible refine (skiarearef10_in.calls ((rd_T50 l0_1 x3_1).f0) 1 9999 true _ A10.out).mono ?_); rintro e w' ⟨rfl, ⟨nd, rfl⟩⟩; (try first | exact ⟨rfl, _, World.drewN_drewN _ _ _⟩ | exact ⟨rfl, _, Eq.trans (World.drewN_drewN _ _ _) (congrArg (World.drewN _) (Nat.add_assoc _ _ _))⟩)) | (go_at_call 38; (with_reducible refine (skiarearef10_in.calls ((rd_T50 l0_1 x3_1).f1) 1 8 true _ A12.out).mono ?_); rintro e w' ⟨rfl, ⟨nd, rfl⟩⟩; (try first | exact ⟨rfl, _, World.drewN_drewN _ _ _⟩ | exact ⟨rfl, _, Eq.trans (World.drewN_drewN _ _ _) (congrArg (World.drewN _) (Nat.add_assoc _ _ _))⟩)) | (go_at_call 38; (with_reducible refine (skiarearef10_in.calls ((rd_T50 l0_1 x3_1).f4) 10 6000 true _ A14.out).mono ?_); rintro e w' ⟨rfl, ⟨nd, rfl⟩⟩; (try first | exact ⟨rfl, _, World.drewN_drewN _ _ _⟩ | exact ⟨rfl, _, Eq.trans (World.drewN_drewN _ _ _) (congrArg (World.drewN _) (Nat.add_assoc _ _ _))⟩)) | (go_at_call 38; (with_reducible refine (skiarearef10_in.calls ((rd_T50 l0_1 x3_1).f5) 500 12000 false _ A16.out).mono ?_); rintro e w' ⟨rfl, ⟨nd, rfl⟩⟩; (try first | exact ⟨rfl, _, World.drewN_drewN _ _ _⟩ | exact ⟨rfl, _, Eq.trans (World.drewN_drewN _ _ _) (congrArg (World.drewN _) (Nat.add_assoc _ _ _))⟩))))
          go_meet
          case rel => exact ⟨_, (true), (by first | rfl | (simp; done) | (simp [*]; done)), H', ⟨by have := HK1.out; first | omega | exact Nat.le_refl _⟩, ⟨by (with_reducible repeat (first | refine blk_drewN ?_ _ | refine blk_drew ?_ | refine blk_alloc ?_ _)); refine blk_far ?_ NB163_165.out _; (with_reducible repeat (first | refine blk_drewN ?_ _ | refine blk_drew ?_ | refine blk_alloc ?_ _)); refine blk_far ?_ NB163_165.out _; (with_reducible repeat (first | refine blk_drewN ?_ _ | refine blk_drew ?_ | refine blk_alloc ?_ _)); refine blk_far ?_ NB163_165.out _; (with_reducible repeat (first | refine blk_drewN ?_ _ | refine blk_drew ?_ | refine blk_alloc ?_ _)); refine blk_far ?_ NB163_165.out _; (with_reducible repeat (first | refine blk_drewN ?_ _ | refine blk_drew ?_ | refine blk_alloc ?_ _)); refine blk_far ?_ NB163_165.out _; (with_reducible repeat (first | refine blk_drewN ?_ _ | refine blk_drew ?_ | refine blk_alloc ?_ _)); refine blk_far ?_ NB163_165.out _; (with_reducible repeat (first | refine blk_drewN ?_ _ | refine blk_drew ?_ | refine blk_alloc ?_ _)); refine blk_far ?_ NB163_165.out _; (with_reducible repeat (first | refine blk_drewN ?_ _ | refine blk_drew ?_ | refine blk_alloc ?_ _)); refine blk_far ?_ NB163_165.out _; (with_reducible repeat (first | refine blk_drewN ?_ _ | refine blk_drew ?_ | refine blk_alloc ?_ _)); exact BK163.out⟩, ⟨by (with_reducible repeat (first | refine blk_drewN ?_ _ | refine blk_drew ?_ | refine blk_alloc ?_ _)); refine blk_put (cs := #[.int .i64 ((rd_T50 l0_1 x3_1).f0), .int .i64 ((rd_T50 l0_1 x3_1).f1), .int .i64 ((rd_T50 l0_1 x3_1).f2), .int .i64 ((rd_T50 l0_1 x3_1).f3), .int .i64 ((rd_T50 l0_1 x3_1).f4), .int .i64 ((rd_T50 l0_1 x3_1).f5), .int .i64 ((rd_T50 l0_1 x3_1).f6), .int .i64 0]) ?_ 7 _ rfl; (with_reducible repeat (first | refine blk_drewN ?_ _ | refine blk_drew ?_ | refine blk_alloc ?_ _)); refine blk_put (cs := #[.int .i64 ((rd_T50 l0_1 x3_1).f0), .int .i64 ((rd_T50 l0_1 x3_1).f1), .int .i64 ((rd_T50 l0_1 x3_1).f2), .int .i64 ((rd_T50 l0_1 x3_1).f3), .int .i64 ((rd_T50 l0_1 x3_1).f4), .int .i64 ((rd_T50 l0_1 x3_1).f5), .int .i64 0, .int .i64 0]) ?_ 6 _ rfl; (with_reducible repeat (first | refine blk_drewN ?_ _ | refine blk_drew ?_ | refine blk_alloc ?_ _)); refine blk_put (cs := #[.int .i64 ((rd_T50 l0_1 x3_1).f0), .int .i64 ((rd_T50 l0_1 x3_1).f1), .int .i64 ((rd_T50 l0_1 x3_1).f2), .int .i64 ((rd_T50 l0_1 x3_1).f3), .int .i64 ((rd_T50 l0_1 x3_1).f4), .int .i64 0, .int .i64 0, .int .i64 0]) ?_ 5 _ rfl; (with_reducible repeat (first | refine blk_drewN ?_ _ | refine blk_drew ?_ | refine blk_alloc ?_ _)); refine blk_put (cs := #[.int .i64 ((rd_T50 l0_1 x3_1).f0), .int .i64 ((rd_T50 l0_1 x3_1).f1), .int .i64 ((rd_T50 l0_1 x3_1).f2), .int .i64 ((rd_T50 l0_1 x3_1).f3), .int .i64 0, .int .i64 0, .int .i64 0, .int .i64 0]) ?_ 4 _ rfl; (with_reducible repeat (first | refine blk_drewN ?_ _ | refine blk_drew ?_ | refine blk_alloc ?_ _)); refine blk_put (cs := #[.int .i64 ((rd_T50 l0_1 x3_1).f0), .int .i64 ((rd_T50 l0_1 x3_1).f1), .int .i64 ((rd_T50 l0_1 x3_1).f2), .int .i64 0, .int .i64 0, .int .i64 0, .int .i64 0, .int .i64 0]) ?_ 3 _ rfl; (with_reducible repeat (first | refine blk_drewN ?_ _ | refine blk_drew ?_ | refine blk_alloc ?_ _)); refine blk_put (cs := #[.int .i64 ((rd_T50 l0_1 x3_1).f0), .int .i64 ((rd_T50 l0_1 x3_1).f1), .int .i64 0, .int .i64 0, .int .i64 0, .int .i64 0, .int .i64 0, .int .i64 0]) ?_ 2 _ rfl; (with_reducible repeat (first | refine blk_drewN ?_ _ | refine blk_drew ?_ | refine blk_alloc ?_ _)); refine blk_put (cs := #[.int .i64 ((rd_T50 l0_1 x3_1).f0), .int .i64 0, .int .i64 0, .int .i64 0, .int .i64 0, .int .i64 0, .int .i64 0, .int .i64 0]) ?_ 1 _ rfl; (with_reducible repeat (first | refine blk_drewN ?_ _ | refine blk_drew ?_ | refine blk_alloc ?_ _)); refine blk_put (cs := #[.int .i64 0, .int .i64 0, .int .i64 0, .int .i64 0, .int .i64 0, .int .i64 0, .int .i64 0, .int .i64 0]) ?_ 0 _ rfl; (with_reducible repeat (first | refine blk_drewN ?_ _ | refine blk_drew ?_ | refine blk_alloc ?_ _)); exact BK165.out⟩, ⟨by repeat (first | (with_reducible first | exact HB.out | apply below_alloc | apply pw_below_drewN | apply below_drew1 | refine below_set ?_ GE163.out | refine below_set ?_ GE165.out) | exact HB.out)⟩⟩
        ·replace c15 := Bool.eq_false_iff.mpr c15
         subst c15
         have H1 : (skiarearef10_lifts.j1 k1 x3_1 true l0_0 l0_1 l0_2 l0_3 ((rd_T50 l0_1 x3_1).f0) ((rd_T50 l0_1 x3_1).f1) ((rd_T50 l0_1 x3_1).f2) ((rd_T50 l0_1 x3_1).f3) ((rd_T50 l0_1 x3_1).f4) ((rd_T50 l0_1 x3_1).f5) ((rd_T50 l0_1 x3_1).f6) ((rd_T50 l0_1 x3_1).f7)) = some r := by rw [if_neg (show ¬ (false = true) by decide)] at H; exact H
         clear H
         have H := H1
         clear H1
         have H' := Aside0.mk H
         clear H
         have hnb27 := NB165_163.out
         have hnc27 := NB163_165.out
         have hcz28_0 : w7.cell? ⟨gb165, 0, none⟩ = some (.int .i64 0) := (blk_cell BK165.out 0).trans rfl
         have hcz28_1 : w7.cell? ⟨gb165, 1, none⟩ = some (.int .i64 0) := (blk_cell BK165.out 1).trans rfl
         have hcz28_2 : w7.cell? ⟨gb165, 2, none⟩ = some (.int .i64 0) := (blk_cell BK165.out 2).trans rfl
         have hcz28_3 : w7.cell? ⟨gb165, 3, none⟩ = some (.int .i64 0) := (blk_cell BK165.out 3).trans rfl
         have hcz28_4 : w7.cell? ⟨gb165, 4, none⟩ = some (.int .i64 0) := (blk_cell BK165.out 4).trans rfl
         have hcz28_5 : w7.cell? ⟨gb165, 5, none⟩ = some (.int .i64 0) := (blk_cell BK165.out 5).trans rfl
         have hcz28_6 : w7.cell? ⟨gb165, 6, none⟩ = some (.int .i64 0) := (blk_cell BK165.out 6).trans rfl
         have hcz28_7 : w7.cell? ⟨gb165, 7, none⟩ = some (.int .i64 0) := (blk_cell BK165.out 7).trans rfl
         have hfz28_0 := blk_frozen BK165.out 0
         have hfz28_1 := blk_frozen BK165.out 1
         have hfz28_2 := blk_frozen BK165.out 2
         have hfz28_3 := blk_frozen BK165.out 3
         have hfz28_4 := blk_frozen BK165.out 4
         have hfz28_5 := blk_frozen BK165.out 5
         have hfz28_6 := blk_frozen BK165.out 6
         have hfz28_7 := blk_frozen BK165.out 7
         go_wp2_with (first | (go_at_call 38; (with_reducible refine (skiarearef10_in.calls ((rd_T50 l0_1 x3_1).f0) 1 9999 true _ A10.out).mono ?_); rintro e w' ⟨rfl, ⟨nd, rfl⟩⟩; (try first | exact ⟨rfl, _, World.drewN_drewN _ _ _⟩ | exact ⟨rfl, _, Eq.trans (World.drewN_drewN _ _ _) (congrArg (World.drewN _) (Nat.add_assoc _ _ _))⟩)) | (go_at_call 38; (with_reducible refine (skiarearef10_in.calls ((rd_T50 l0_1 x3_1).f1) 1 8 true _ A12.out).mono ?_); rintro e w' ⟨rfl, ⟨nd, rfl⟩⟩; (try first | exact ⟨rfl, _, World.drewN_drewN _ _ _⟩ | exact ⟨rfl, _, Eq.trans (World.drewN_drewN _ _ _) (congrArg (World.drewN _) (Nat.add_assoc _ _ _))⟩)) | (go_at_call 38; (with_reducible refine (skiarearef10_in.calls ((rd_T50 l0_1 x3_1).f4) 10 6000 false _ A14.out).mono ?_); rintro e w' ⟨rfl, ⟨nd, rfl⟩⟩; (try first | exact ⟨rfl, _, World.drewN_drewN _ _ _⟩ | exact ⟨rfl, _, Eq.trans (World.drewN_drewN _ _ _) (congrArg (World.drewN _) (Nat.add_assoc _ _ _))⟩)))
         repeat (go_quiet (first | (go_at_call 38; (with_reducible refine (skiarearef10_in.calls ((rd_T50 l0_1 x3_1).f0) 1 9999 true _ A10.out).mono ?_); rintro e w' ⟨rfl, ⟨nd, rfl⟩⟩; (try first | exact ⟨rfl, _, World.drewN_drewN _ _ _⟩ | exact ⟨rfl, _, Eq.trans (World.drewN_drewN _ _ _) (congrArg (World.drewN _) (Nat.add_assoc _ _ _))⟩)) | (go_at_call 38; (with_reducible refine (skiarearef10_in.calls ((rd_T50 l0_1 x3_1).f1) 1 8 true _ A12.out).mono ?_); rintro e w' ⟨rfl, ⟨nd, rfl⟩⟩; (try first | exact ⟨rfl, _, World.drewN_drewN _ _ _⟩ | exact ⟨rfl, _, Eq.trans (World.drewN_drewN _ _ _) (congrArg (World.drewN _) (Nat.add_assoc _ _ _))⟩)) | (go_at_call 38; (with_reducible refine (skiarearef10_in.calls ((rd_T50 l0_1 x3_1).f4) 10 6000 false _ A14.out).mono ?_); rintro e w' ⟨rfl, ⟨nd, rfl⟩⟩; (try first | exact ⟨rfl, _, World.drewN_drewN _ _ _⟩ | exact ⟨rfl, _, Eq.trans (World.drewN_drewN _ _ _) (congrArg (World.drewN _) (Nat.add_assoc _ _ _))⟩))); try go_wp2_with (first | (go_at_call 38; (with_reducible refine (skiarearef10_in.calls ((rd_T50 l0_1 x3_1).f0) 1 9999 true _ A10.out).mono ?_); rintro e w' ⟨rfl, ⟨nd, rfl⟩⟩; (try first | exact ⟨rfl, _, World.drewN_drewN _ _ _⟩ | exact ⟨rfl, _, Eq.trans (World.drewN_drewN _ _ _) (congrArg (World.drewN _) (Nat.add_assoc _ _ _))⟩)) | (go_at_call 38; (with_reducible refine (skiarearef10_in.calls ((rd_T50 l0_1 x3_1).f1) 1 8 true _ A12.out).mono ?_); rintro e w' ⟨rfl, ⟨nd, rfl⟩⟩; (try first | exact ⟨rfl, _, World.drewN_drewN _ _ _⟩ | exact ⟨rfl, _, Eq.trans (World.drewN_drewN _ _ _) (congrArg (World.drewN _) (Nat.add_assoc _ _ _))⟩)) | (go_at_call 38; (with_reducible refine (skiarearef10_in.calls ((rd_T50 l0_1 x3_1).f4) 10 6000 false _ A14.out).mono ?_); rintro e w' ⟨rfl, ⟨nd, rfl⟩⟩; (try first | exact ⟨rfl, _, World.drewN_drewN _ _ _⟩ | exact ⟨rfl, _, Eq.trans (World.drewN_drewN _ _ _) (congrArg (World.drewN _) (Nat.add_assoc _ _ _))⟩))))
         go_meet
         case rel => exact ⟨_, (true), (by first | rfl | (simp; done) | (simp [*]; done)), H', ⟨by have := HK1.out; first | omega | exact Nat.le_refl _⟩, ⟨by (with_reducible repeat (first | refine blk_drewN ?_ _ | refine blk_drew ?_ | refine blk_alloc ?_ _)); refine blk_far ?_ NB163_165.out _; (with_reducible repeat (first | refine blk_drewN ?_ _ | refine blk_drew ?_ | refine blk_alloc ?_ _)); refine blk_far ?_ NB163_165.out _; (with_reducible repeat (first | refine blk_drewN ?_ _ | refine blk_drew ?_ | refine blk_alloc ?_ _)); refine blk_far ?_ NB163_165.out _; (with_reducible repeat (first | refine blk_drewN ?_ _ | refine blk_drew ?_ | refine blk_alloc ?_ _)); refine blk_far ?_ NB163_165.out _; (with_reducible repeat (first | refine blk_drewN ?_ _ | refine blk_drew ?_ | refine blk_alloc ?_ _)); refine blk_far ?_ NB163_165.out _; (with_reducible repeat (first | refine blk_drewN ?_ _ | refine blk_drew ?_ | refine blk_alloc ?_ _)); refine blk_far ?_ NB163_165.out _; (with_reducible repeat (first | refine blk_drewN ?_ _ | refine blk_drew ?_ | refine blk_alloc ?_ _)); refine blk_far ?_ NB163_165.out _; (with_reducible repeat (first | refine blk_drewN ?_ _ | refine blk_drew ?_ | refine blk_alloc ?_ _)); refine blk_far ?_ NB163_165.out _; (with_reducible repeat (first | refine blk_drewN ?_ _ | refine blk_drew ?_ | refine blk_alloc ?_ _)); exact BK163.out⟩, ⟨by (with_reducible repeat (first | refine blk_drewN ?_ _ | refine blk_drew ?_ | refine blk_alloc ?_ _)); refine blk_put (cs := #[.int .i64 ((rd_T50 l0_1 x3_1).f0), .int .i64 ((rd_T50 l0_1 x3_1).f1), .int .i64 ((rd_T50 l0_1 x3_1).f2), .int .i64 ((rd_T50 l0_1 x3_1).f3), .int .i64 ((rd_T50 l0_1 x3_1).f4), .int .i64 ((rd_T50 l0_1 x3_1).f5), .int .i64 ((rd_T50 l0_1 x3_1).f6), .int .i64 0]) ?_ 7 _ rfl; (with_reducible repeat (first | refine blk_drewN ?_ _ | refine blk_drew ?_ | refine blk_alloc ?_ _)); refine blk_put (cs := #[.int .i64 ((rd_T50 l0_1 x3_1).f0), .int .i64 ((rd_T50 l0_1 x3_1).f1), .int .i64 ((rd_T50 l0_1 x3_1).f2), .int .i64 ((rd_T50 l0_1 x3_1).f3), .int .i64 ((rd_T50 l0_1 x3_1).f4), .int .i64 ((rd_T50 l0_1 x3_1).f5), .int .i64 0, .int .i64 0]) ?_ 6 _ rfl; (with_reducible repeat (first | refine blk_drewN ?_ _ | refine blk_drew ?_ | refine blk_alloc ?_ _)); refine blk_put (cs := #[.int .i64 ((rd_T50 l0_1 x3_1).f0), .int .i64 ((rd_T50 l0_1 x3_1).f1), .int .i64 ((rd_T50 l0_1 x3_1).f2), .int .i64 ((rd_T50 l0_1 x3_1).f3), .int .i64 ((rd_T50 l0_1 x3_1).f4), .int .i64 0, .int .i64 0, .int .i64 0]) ?_ 5 _ rfl; (with_reducible repeat (first | refine blk_drewN ?_ _ | refine blk_drew ?_ | refine blk_alloc ?_ _)); refine blk_put (cs := #[.int .i64 ((rd_T50 l0_1 x3_1).f0), .int .i64 ((rd_T50 l0_1 x3_1).f1), .int .i64 ((rd_T50 l0_1 x3_1).f2), .int .i64 ((rd_T50 l0_1 x3_1).f3), .int .i64 0, .int .i64 0, .int .i64 0, .int .i64 0]) ?_ 4 _ rfl; (with_reducible repeat (first | refine blk_drewN ?_ _ | refine blk_drew ?_ | refine blk_alloc ?_ _)); refine blk_put (cs := #[.int .i64 ((rd_T50 l0_1 x3_1).f0), .int .i64 ((rd_T50 l0_1 x3_1).f1), .int .i64 ((rd_T50 l0_1 x3_1).f2), .int .i64 0, .int .i64 0, .int .i64 0, .int .i64 0, .int .i64 0]) ?_ 3 _ rfl; (with_reducible repeat (first | refine blk_drewN ?_ _ | refine blk_drew ?_ | refine blk_alloc ?_ _)); refine blk_put (cs := #[.int .i64 ((rd_T50 l0_1 x3_1).f0), .int .i64 ((rd_T50 l0_1 x3_1).f1), .int .i64 0, .int .i64 0, .int .i64 0, .int .i64 0, .int .i64 0, .int .i64 0]) ?_ 2 _ rfl; (with_reducible repeat (first | refine blk_drewN ?_ _ | refine blk_drew ?_ | refine blk_alloc ?_ _)); refine blk_put (cs := #[.int .i64 ((rd_T50 l0_1 x3_1).f0), .int .i64 0, .int .i64 0, .int .i64 0, .int .i64 0, .int .i64 0, .int .i64 0, .int .i64 0]) ?_ 1 _ rfl; (with_reducible repeat (first | refine blk_drewN ?_ _ | refine blk_drew ?_ | refine blk_alloc ?_ _)); refine blk_put (cs := #[.int .i64 0, .int .i64 0, .int .i64 0, .int .i64 0, .int .i64 0, .int .i64 0, .int .i64 0, .int .i64 0]) ?_ 0 _ rfl; (with_reducible repeat (first | refine blk_drewN ?_ _ | refine blk_drew ?_ | refine blk_alloc ?_ _)); exact BK165.out⟩, ⟨by repeat (first | (with_reducible first | exact HB.out | apply below_alloc | apply pw_below_drewN | apply below_drew1 | refine below_set ?_ GE163.out | refine below_set ?_ GE165.out) | exact HB.out)⟩⟩
       ·replace c13 := Bool.eq_false_iff.mpr c13
        subst c13
        have H1 : (skiarearef10_lifts.j1 k1 x3_1 true l0_0 l0_1 l0_2 l0_3 ((rd_T50 l0_1 x3_1).f0) ((rd_T50 l0_1 x3_1).f1) ((rd_T50 l0_1 x3_1).f2) ((rd_T50 l0_1 x3_1).f3) ((rd_T50 l0_1 x3_1).f4) ((rd_T50 l0_1 x3_1).f5) ((rd_T50 l0_1 x3_1).f6) ((rd_T50 l0_1 x3_1).f7)) = some r := by rw [if_neg (show ¬ (false = true) by decide)] at H; exact H
        clear H
        have H := H1
        clear H1
        have H' := Aside0.mk H
        clear H
        have hnb29 := NB165_163.out
        have hnc29 := NB163_165.out
        have hcz30_0 : w7.cell? ⟨gb165, 0, none⟩ = some (.int .i64 0) := (blk_cell BK165.out 0).trans rfl
        have hcz30_1 : w7.cell? ⟨gb165, 1, none⟩ = some (.int .i64 0) := (blk_cell BK165.out 1).trans rfl
        have hcz30_2 : w7.cell? ⟨gb165, 2, none⟩ = some (.int .i64 0) := (blk_cell BK165.out 2).trans rfl
        have hcz30_3 : w7.cell? ⟨gb165, 3, none⟩ = some (.int .i64 0) := (blk_cell BK165.out 3).trans rfl
        have hcz30_4 : w7.cell? ⟨gb165, 4, none⟩ = some (.int .i64 0) := (blk_cell BK165.out 4).trans rfl
        have hcz30_5 : w7.cell? ⟨gb165, 5, none⟩ = some (.int .i64 0) := (blk_cell BK165.out 5).trans rfl
        have hcz30_6 : w7.cell? ⟨gb165, 6, none⟩ = some (.int .i64 0) := (blk_cell BK165.out 6).trans rfl
        have hcz30_7 : w7.cell? ⟨gb165, 7, none⟩ = some (.int .i64 0) := (blk_cell BK165.out 7).trans rfl
        have hfz30_0 := blk_frozen BK165.out 0
        have hfz30_1 := blk_frozen BK165.out 1
        have hfz30_2 := blk_frozen BK165.out 2
        have hfz30_3 := blk_frozen BK165.out 3
        have hfz30_4 := blk_frozen BK165.out 4
        have hfz30_5 := blk_frozen BK165.out 5
        have hfz30_6 := blk_frozen BK165.out 6
        have hfz30_7 := blk_frozen BK165.out 7
        go_wp2_with (first | (go_at_call 38; (with_reducible refine (skiarearef10_in.calls ((rd_T50 l0_1 x3_1).f0) 1 9999 true _ A10.out).mono ?_); rintro e w' ⟨rfl, ⟨nd, rfl⟩⟩; (try first | exact ⟨rfl, _, World.drewN_drewN _ _ _⟩ | exact ⟨rfl, _, Eq.trans (World.drewN_drewN _ _ _) (congrArg (World.drewN _) (Nat.add_assoc _ _ _))⟩)) | (go_at_call 38; (with_reducible refine (skiarearef10_in.calls ((rd_T50 l0_1 x3_1).f1) 1 8 false _ A12.out).mono ?_); rintro e w' ⟨rfl, ⟨nd, rfl⟩⟩; (try first | exact ⟨rfl, _, World.drewN_drewN _ _ _⟩ | exact ⟨rfl, _, Eq.trans (World.drewN_drewN _ _ _) (congrArg (World.drewN _) (Nat.add_assoc _ _ _))⟩)))
        repeat (go_quiet (first | (go_at_call 38; (with_reducible refine (skiarearef10_in.calls ((rd_T50 l0_1 x3_1).f0) 1 9999 true _ A10.out).mono ?_); rintro e w' ⟨rfl, ⟨nd, rfl⟩⟩; (try first | exact ⟨rfl, _, World.drewN_drewN _ _ _⟩ | exact ⟨rfl, _, Eq.trans (World.drewN_drewN _ _ _) (congrArg (World.drewN _) (Nat.add_assoc _ _ _))⟩)) | (go_at_call 38; (with_reducible refine (skiarearef10_in.calls ((rd_T50 l0_1 x3_1).f1) 1 8 false _ A12.out).mono ?_); rintro e w' ⟨rfl, ⟨nd, rfl⟩⟩; (try first | exact ⟨rfl, _, World.drewN_drewN _ _ _⟩ | exact ⟨rfl, _, Eq.trans (World.drewN_drewN _ _ _) (congrArg (World.drewN _) (Nat.add_assoc _ _ _))⟩))); try go_wp2_with (first | (go_at_call 38; (with_reducible refine (skiarearef10_in.calls ((rd_T50 l0_1 x3_1).f0) 1 9999 true _ A10.out).mono ?_); rintro e w' ⟨rfl, ⟨nd, rfl⟩⟩; (try first | exact ⟨rfl, _, World.drewN_drewN _ _ _⟩ | exact ⟨rfl, _, Eq.trans (World.drewN_drewN _ _ _) (congrArg (World.drewN _) (Nat.add_assoc _ _ _))⟩)) | (go_at_call 38; (with_reducible refine (skiarearef10_in.calls ((rd_T50 l0_1 x3_1).f1) 1 8 false _ A12.out).mono ?_); rintro e w' ⟨rfl, ⟨nd, rfl⟩⟩; (try first | exact ⟨rfl, _, World.drewN_drewN _ _ _⟩ | exact ⟨rfl, _, Eq.trans (World.drewN_drewN _ _ _) (congrArg (World.drewN _) (Nat.add_assoc _ _ _))⟩))))
        go_meet
        case rel => exact ⟨_, (true), (by first | rfl | (simp; done) | (simp [*]; done)), H', ⟨by have := HK1.out; first | omega | exact Nat.le_refl _⟩, ⟨by (with_reducible repeat (first | refine blk_drewN ?_ _ | refine blk_drew ?_ | refine blk_alloc ?_ _)); refine blk_far ?_ NB163_165.out _; (with_reducible repeat (first | refine blk_drewN ?_ _ | refine blk_drew ?_ | refine blk_alloc ?_ _)); refine blk_far ?_ NB163_165.out _; (with_reducible repeat (first | refine blk_drewN ?_ _ | refine blk_drew ?_ | refine blk_alloc ?_ _)); refine blk_far ?_ NB163_165.out _; (with_reducible repeat (first | refine blk_drewN ?_ _ | refine blk_drew ?_ | refine blk_alloc ?_ _)); refine blk_far ?_ NB163_165.out _; (with_reducible repeat (first | refine blk_drewN ?_ _ | refine blk_drew ?_ | refine blk_alloc ?_ _)); refine blk_far ?_ NB163_165.out _; (with_reducible repeat (first | refine blk_drewN ?_ _ | refine blk_drew ?_ | refine blk_alloc ?_ _)); refine blk_far ?_ NB163_165.out _; (with_reducible repeat (first | refine blk_drewN ?_ _ | refine blk_drew ?_ | refine blk_alloc ?_ _)); refine blk_far ?_ NB163_165.out _; (with_reducible repeat (first | refine blk_drewN ?_ _ | refine blk_drew ?_ | refine blk_alloc ?_ _)); refine blk_far ?_ NB163_165.out _; (with_reducible repeat (first | refine blk_drewN ?_ _ | refine blk_drew ?_ | refine blk_alloc ?_ _)); exact BK163.out⟩, ⟨by (with_reducible repeat (first | refine blk_drewN ?_ _ | refine blk_drew ?_ | refine blk_alloc ?_ _)); refine blk_put (cs := #[.int .i64 ((rd_T50 l0_1 x3_1).f0), .int .i64 ((rd_T50 l0_1 x3_1).f1), .int .i64 ((rd_T50 l0_1 x3_1).f2), .int .i64 ((rd_T50 l0_1 x3_1).f3), .int .i64 ((rd_T50 l0_1 x3_1).f4), .int .i64 ((rd_T50 l0_1 x3_1).f5), .int .i64 ((rd_T50 l0_1 x3_1).f6), .int .i64 0]) ?_ 7 _ rfl; (with_reducible repeat (first | refine blk_drewN ?_ _ | refine blk_drew ?_ | refine blk_alloc ?_ _)); refine blk_put (cs := #[.int .i64 ((rd_T50 l0_1 x3_1).f0), .int .i64 ((rd_T50 l0_1 x3_1).f1), .int .i64 ((rd_T50 l0_1 x3_1).f2), .int .i64 ((rd_T50 l0_1 x3_1).f3), .int .i64 ((rd_T50 l0_1 x3_1).f4), .int .i64 ((rd_T50 l0_1 x3_1).f5), .int .i64 0, .int .i64 0]) ?_ 6 _ rfl; (with_reducible repeat (first | refine blk_drewN ?_ _ | refine blk_drew ?_ | refine blk_alloc ?_ _)); refine blk_put (cs := #[.int .i64 ((rd_T50 l0_1 x3_1).f0), .int .i64 ((rd_T50 l0_1 x3_1).f1), .int .i64 ((rd_T50 l0_1 x3_1).f2), .int .i64 ((rd_T50 l0_1 x3_1).f3), .int .i64 ((rd_T50 l0_1 x3_1).f4), .int .i64 0, .int .i64 0, .int .i64 0]) ?_ 5 _ rfl; (with_reducible repeat (first | refine blk_drewN ?_ _ | refine blk_drew ?_ | refine blk_alloc ?_ _)); refine blk_put (cs := #[.int .i64 ((rd_T50 l0_1 x3_1).f0), .int .i64 ((rd_T50 l0_1 x3_1).f1), .int .i64 ((rd_T50 l0_1 x3_1).f2), .int .i64 ((rd_T50 l0_1 x3_1).f3), .int .i64 0, .int .i64 0, .int .i64 0, .int .i64 0]) ?_ 4 _ rfl; (with_reducible repeat (first | refine blk_drewN ?_ _ | refine blk_drew ?_ | refine blk_alloc ?_ _)); refine blk_put (cs := #[.int .i64 ((rd_T50 l0_1 x3_1).f0), .int .i64 ((rd_T50 l0_1 x3_1).f1), .int .i64 ((rd_T50 l0_1 x3_1).f2), .int .i64 0, .int .i64 0, .int .i64 0, .int .i64 0, .int .i64 0]) ?_ 3 _ rfl; (with_reducible repeat (first | refine blk_drewN ?_ _ | refine blk_drew ?_ | refine blk_alloc ?_ _)); refine blk_put (cs := #[.int .i64 ((rd_T50 l0_1 x3_1).f0), .int .i64 ((rd_T50 l0_1 x3_1).f1), .int .i64 0, .int .i64 0, .int .i64 0, .int .i64 0, .int .i64 0, .int .i64 0]) ?_ 2 _ rfl; (with_reducible repeat (first | refine blk_drewN ?_ _ | refine blk_drew ?_ | refine blk_alloc ?_ _)); refine blk_put (cs := #[.int .i64 ((rd_T50 l0_1 x3_1).f0), .int .i64 0, .int .i64 0, .int .i64 0, .int .i64 0, .int .i64 0, .int .i64 0, .int .i64 0]) ?_ 1 _ rfl; (with_reducible repeat (first | refine blk_drewN ?_ _ | refine blk_drew ?_ | refine blk_alloc ?_ _)); refine blk_put (cs := #[.int .i64 0, .int .i64 0, .int .i64 0, .int .i64 0, .int .i64 0, .int .i64 0, .int .i64 0, .int .i64 0]) ?_ 0 _ rfl; (with_reducible repeat (first | refine blk_drewN ?_ _ | refine blk_drew ?_ | refine blk_alloc ?_ _)); exact BK165.out⟩, ⟨by repeat (first | (with_reducible first | exact HB.out | apply below_alloc | apply pw_below_drewN | apply below_drew1 | refine below_set ?_ GE163.out | refine below_set ?_ GE165.out) | exact HB.out)⟩⟩
      ·replace c11 := Bool.eq_false_iff.mpr c11
       subst c11
       have H1 : (skiarearef10_lifts.j1 k1 x3_1 true l0_0 l0_1 l0_2 l0_3 ((rd_T50 l0_1 x3_1).f0) ((rd_T50 l0_1 x3_1).f1) ((rd_T50 l0_1 x3_1).f2) ((rd_T50 l0_1 x3_1).f3) ((rd_T50 l0_1 x3_1).f4) ((rd_T50 l0_1 x3_1).f5) ((rd_T50 l0_1 x3_1).f6) ((rd_T50 l0_1 x3_1).f7)) = some r := by rw [if_neg (show ¬ (false = true) by decide)] at H; exact H
       clear H
       have H := H1
       clear H1
       have H' := Aside0.mk H
       clear H
       have hnb31 := NB165_163.out
       have hnc31 := NB163_165.out
       have hcz32_0 : w7.cell? ⟨gb165, 0, none⟩ = some (.int .i64 0) := (blk_cell BK165.out 0).trans rfl
       have hcz32_1 : w7.cell? ⟨gb165, 1, none⟩ = some (.int .i64 0) := (blk_cell BK165.out 1).trans rfl
       have hcz32_2 : w7.cell? ⟨gb165, 2, none⟩ = some (.int .i64 0) := (blk_cell BK165.out 2).trans rfl
       have hcz32_3 : w7.cell? ⟨gb165, 3, none⟩ = some (.int .i64 0) := (blk_cell BK165.out 3).trans rfl
       have hcz32_4 : w7.cell? ⟨gb165, 4, none⟩ = some (.int .i64 0) := (blk_cell BK165.out 4).trans rfl
       have hcz32_5 : w7.cell? ⟨gb165, 5, none⟩ = some (.int .i64 0) := (blk_cell BK165.out 5).trans rfl
       have hcz32_6 : w7.cell? ⟨gb165, 6, none⟩ = some (.int .i64 0) := (blk_cell BK165.out 6).trans rfl
       have hcz32_7 : w7.cell? ⟨gb165, 7, none⟩ = some (.int .i64 0) := (blk_cell BK165.out 7).trans rfl
       have hfz32_0 := blk_frozen BK165.out 0
       have hfz32_1 := blk_frozen BK165.out 1
       have hfz32_2 := blk_frozen BK165.out 2
       have hfz32_3 := blk_frozen BK165.out 3
       have hfz32_4 := blk_frozen BK165.out 4
       have hfz32_5 := blk_frozen BK165.out 5
       have hfz32_6 := blk_frozen BK165.out 6
       have hfz32_7 := blk_frozen BK165.out 7
       go_wp2_with (first | (go_at_call 38; (with_reducible refine (skiarearef10_in.calls ((rd_T50 l0_1 x3_1).f0) 1 9999 false _ A10.out).mono ?_); rintro e w' ⟨rfl, ⟨nd, rfl⟩⟩; (try first | exact ⟨rfl, _, World.drewN_drewN _ _ _⟩ | exact ⟨rfl, _, Eq.trans (World.drewN_drewN _ _ _) (congrArg (World.drewN _) (Nat.add_assoc _ _ _))⟩)))
       repeat (go_quiet (first | (go_at_call 38; (with_reducible refine (skiarearef10_in.calls ((rd_T50 l0_1 x3_1).f0) 1 9999 false _ A10.out).mono ?_); rintro e w' ⟨rfl, ⟨nd, rfl⟩⟩; (try first | exact ⟨rfl, _, World.drewN_drewN _ _ _⟩ | exact ⟨rfl, _, Eq.trans (World.drewN_drewN _ _ _) (congrArg (World.drewN _) (Nat.add_assoc _ _ _))⟩))); try go_wp2_with (first | (go_at_call 38; (with_reducible refine (skiarearef10_in.calls ((rd_T50 l0_1 x3_1).f0) 1 9999 false _ A10.out).mono ?_); rintro e w' ⟨rfl, ⟨nd, rfl⟩⟩; (try first | exact ⟨rfl, _, World.drewN_drewN _ _ _⟩ | exact ⟨rfl, _, Eq.trans (World.drewN_drewN _ _ _) (congrArg (World.drewN _) (Nat.add_assoc _ _ _))⟩))))
       go_meet
       case rel => exact ⟨_, (true), (by first | rfl | (simp; done) | (simp [*]; done)), H', ⟨by have := HK1.out; first | omega | exact Nat.le_refl _⟩, ⟨by (with_reducible repeat (first | refine blk_drewN ?_ _ | refine blk_drew ?_ | refine blk_alloc ?_ _)); refine blk_far ?_ NB163_165.out _; (with_reducible repeat (first | refine blk_drewN ?_ _ | refine blk_drew ?_ | refine blk_alloc ?_ _)); refine blk_far ?_ NB163_165.out _; (with_reducible repeat (first | refine blk_drewN ?_ _ | refine blk_drew ?_ | refine blk_alloc ?_ _)); refine blk_far ?_ NB163_165.out _; (with_reducible repeat (first | refine blk_drewN ?_ _ | refine blk_drew ?_ | refine blk_alloc ?_ _)); refine blk_far ?_ NB163_165.out _; (with_reducible repeat (first | refine blk_drewN ?_ _ | refine blk_drew ?_ | refine blk_alloc ?_ _)); refine blk_far ?_ NB163_165.out _; (with_reducible repeat (first | refine blk_drewN ?_ _ | refine blk_drew ?_ | refine blk_alloc ?_ _)); refine blk_far ?_ NB163_165.out _; (with_reducible repeat (first | refine blk_drewN ?_ _ | refine blk_drew ?_ | refine blk_alloc ?_ _)); refine blk_far ?_ NB163_165.out _; (with_reducible repeat (first | refine blk_drewN ?_ _ | refine blk_drew ?_ | refine blk_alloc ?_ _)); refine blk_far ?_ NB163_165.out _; (with_reducible repeat (first | refine blk_drewN ?_ _ | refine blk_drew ?_ | refine blk_alloc ?_ _)); exact BK163.out⟩, ⟨by (with_reducible repeat (first | refine blk_drewN ?_ _ | refine blk_drew ?_ | refine blk_alloc ?_ _)); refine blk_put (cs := #[.int .i64 ((rd_T50 l0_1 x3_1).f0), .int .i64 ((rd_T50 l0_1 x3_1).f1), .int .i64 ((rd_T50 l0_1 x3_1).f2), .int .i64 ((rd_T50 l0_1 x3_1).f3), .int .i64 ((rd_T50 l0_1 x3_1).f4), .int .i64 ((rd_T50 l0_1 x3_1).f5), .int .i64 ((rd_T50 l0_1 x3_1).f6), .int .i64 0]) ?_ 7 _ rfl; (with_reducible repeat (first | refine blk_drewN ?_ _ | refine blk_drew ?_ | refine blk_alloc ?_ _)); refine blk_put (cs := #[.int .i64 ((rd_T50 l0_1 x3_1).f0), .int .i64 ((rd_T50 l0_1 x3_1).f1), .int .i64 ((rd_T50 l0_1 x3_1).f2), .int .i64 ((rd_T50 l0_1 x3_1).f3), .int .i64 ((rd_T50 l0_1 x3_1).f4), .int .i64 ((rd_T50 l0_1 x3_1).f5), .int .i64 0, .int .i64 0]) ?_ 6 _ rfl; (with_reducible repeat (first | refine blk_drewN ?_ _ | refine blk_drew ?_ | refine blk_alloc ?_ _)); refine blk_put (cs := #[.int .i64 ((rd_T50 l0_1 x3_1).f0), .int .i64 ((rd_T50 l0_1 x3_1).f1), .int .i64 ((rd_T50 l0_1 x3_1).f2), .int .i64 ((rd_T50 l0_1 x3_1).f3), .int .i64 ((rd_T50 l0_1 x3_1).f4), .int .i64 0, .int .i64 0, .int .i64 0]) ?_ 5 _ rfl; (with_reducible repeat (first | refine blk_drewN ?_ _ | refine blk_drew ?_ | refine blk_alloc ?_ _)); refine blk_put (cs := #[.int .i64 ((rd_T50 l0_1 x3_1).f0), .int .i64 ((rd_T50 l0_1 x3_1).f1), .int .i64 ((rd_T50 l0_1 x3_1).f2), .int .i64 ((rd_T50 l0_1 x3_1).f3), .int .i64 0, .int .i64 0, .int .i64 0, .int .i64 0]) ?_ 4 _ rfl; (with_reducible repeat (first | refine blk_drewN ?_ _ | refine blk_drew ?_ | refine blk_alloc ?_ _)); refine blk_put (cs := #[.int .i64 ((rd_T50 l0_1 x3_1).f0), .int .i64 ((rd_T50 l0_1 x3_1).f1), .int .i64 ((rd_T50 l0_1 x3_1).f2), .int .i64 0, .int .i64 0, .int .i64 0, .int .i64 0, .int .i64 0]) ?_ 3 _ rfl; (with_reducible repeat (first | refine blk_drewN ?_ _ | refine blk_drew ?_ | refine blk_alloc ?_ _)); refine blk_put (cs := #[.int .i64 ((rd_T50 l0_1 x3_1).f0), .int .i64 ((rd_T50 l0_1 x3_1).f1), .int .i64 0, .int .i64 0, .int .i64 0, .int .i64 0, .int .i64 0, .int .i64 0]) ?_ 2 _ rfl; (with_reducible repeat (first | refine blk_drewN ?_ _ | refine blk_drew ?_ | refine blk_alloc ?_ _)); refine blk_put (cs := #[.int .i64 ((rd_T50 l0_1 x3_1).f0), .int .i64 0, .int .i64 0, .int .i64 0, .int .i64 0, .int .i64 0, .int .i64 0, .int .i64 0]) ?_ 1 _ rfl; (with_reducible repeat (first | refine blk_drewN ?_ _ | refine blk_drew ?_ | refine blk_alloc ?_ _)); refine blk_put (cs := #[.int .i64 0, .int .i64 0, .int .i64 0, .int .i64 0, .int .i64 0, .int .i64 0, .int .i64 0, .int .i64 0]) ?_ 0 _ rfl; (with_reducible repeat (first | refine blk_drewN ?_ _ | refine blk_drew ?_ | refine blk_alloc ?_ _)); exact BK165.out⟩, ⟨by repeat (first | (with_reducible first | exact HB.out | apply below_alloc | apply pw_below_drewN | apply below_drew1 | refine below_set ?_ GE163.out | refine below_set ?_ GE165.out) | exact HB.out)⟩⟩
     case rest =>
      clear HC5
      try clear c1
      try clear p1
      try clear q1
      try clear hx1
      try clear c2
      try clear p2
      try clear c3
      try clear c3b0
      try clear c4
      try clear c4b0
      try clear c8
      try clear c11
      try clear c13
      try clear c15
      try clear p16
      try clear q16
      try clear hx16
      try clear c17
      try clear c19
      try clear c21
      try clear c23
      try clear c25
      try clear c27
      try clear c29
      try clear c30
      try clear c31
      try clear hcz22_0
      try clear hcz22_1
      try clear hcz22_2
      try clear hcz22_3
      try clear hcz22_4
      try clear hcz22_5
      try clear hcz22_6
      try clear hcz22_7
      try clear hcz24_0
      try clear hcz24_1
      try clear hcz24_2
      try clear hcz24_3
      try clear hcz24_4
      try clear hcz24_5
      try clear hcz24_6
      try clear hcz24_7
      try clear hcz26_0
      try clear hcz26_1
      try clear hcz26_2
      try clear hcz26_3
      try clear hcz26_4
      try clear hcz26_5
      try clear hcz26_6
      try clear hcz26_7
      try clear hcz28_0
      try clear hcz28_1
      try clear hcz28_2
      try clear hcz28_3
      try clear hcz28_4
      try clear hcz28_5
      try clear hcz28_6
      try clear hcz28_7
      try clear hcz30_0
      try clear hcz30_1
      try clear hcz30_2
      try clear hcz30_3
      try clear hcz30_4
      try clear hcz30_5
      try clear hcz30_6
      try clear hcz30_7
      try clear hcz32_0
      try clear hcz32_1
      try clear hcz32_2
      try clear hcz32_3
      try clear hcz32_4
      try clear hcz32_5
      try clear hcz32_6
      try clear hcz32_7
      try clear hcz6_0
      try clear hcz6_1
      try clear hcz6_2
      try clear hcz6_3
      try clear hcz9_0
      try clear hcz9_1
      try clear hcz9_2
      try clear hcz9_3
      try clear hcz9_4
      try clear hcz9_5
      try clear hcz9_6
      try clear hcz9_7
      try clear hfz22_0
      try clear hfz22_1
      try clear hfz22_2
      try clear hfz22_3
      try clear hfz22_4
      try clear hfz22_5
      try clear hfz22_6
      try clear hfz22_7
      try clear hfz24_0
      try clear hfz24_1
      try clear hfz24_2
      try clear hfz24_3
      try clear hfz24_4
      try clear hfz24_5
      try clear hfz24_6
      try clear hfz24_7
      try clear hfz26_0
      try clear hfz26_1
      try clear hfz26_2
      try clear hfz26_3
      try clear hfz26_4
      try clear hfz26_5
      try clear hfz26_6
      try clear hfz26_7
      try clear hfz28_0
      try clear hfz28_1
      try clear hfz28_2
      try clear hfz28_3
      try clear hfz28_4
      try clear hfz28_5
      try clear hfz28_6
      try clear hfz28_7
      try clear hfz30_0
      try clear hfz30_1
      try clear hfz30_2
      try clear hfz30_3
      try clear hfz30_4
      try clear hfz30_5
      try clear hfz30_6
      try clear hfz30_7
      try clear hfz32_0
      try clear hfz32_1
      try clear hfz32_2
      try clear hfz32_3
      try clear hfz32_4
      try clear hfz32_5
      try clear hfz32_6
      try clear hfz32_7
      try clear hfz6_0
      try clear hfz6_1
      try clear hfz6_2
      try clear hfz6_3
      try clear hfz9_0
      try clear hfz9_1
      try clear hfz9_2
      try clear hfz9_3
      try clear hfz9_4
      try clear hfz9_5
      try clear hfz9_6
      try clear hfz9_7
      try clear hx164_0
      try clear hx164_1
      try clear hx164_2
      try clear hx164_3
      try clear hx164_4
      try clear hx164_5
      try clear hx164_6
      try clear hx164_7
      try clear p164
      try clear p2
      try clear q164
      obtain ⟨kq, x51_4, rfl, HA, HJ4, BK163, BK165, HB⟩ := hcut
      cases kq with
      | zero => exact absurd HA.out (by simp [skiarearef10_lifts.j1])
      | succ kj4 =>
       have H := HA.out
       clear HA
       simp only [skiarearef10_lifts.j1] at H
       by_cases c33 : x51_4 = true
       ·subst c33
        have H1 : (some 2) = some r := by rw [if_pos rfl] at H; exact H
        clear H
        have H := H1
        clear H1
        obtain rfl := Option.some.inj H
        go_wp2
        repeat (go_quiet (fail); try go_wp2)
        go_ret
        exact ⟨by first | rfl | (simp [errW_none, errW_some] <;> rfl) | (simp [*, errW_none, errW_some] <;> rfl), by repeat (first | (with_reducible first | exact HB.out | apply below_alloc | apply pw_below_drewN | apply below_drew1 | refine below_set ?_ GE163.out | refine below_set ?_ GE165.out) | exact HB.out)⟩
       ·replace c33 := Bool.eq_false_iff.mpr c33
        subst c33
        have H1 : (if x3_1 > 0 then (if 0 ≤ (wrap64 (x3_1 - 1)) then (if (wrap64 (x3_1 - 1)) < (l0_1.length : Int) then (skiarearef10_lifts.j2 kj4 x3_1 (decide (((rd_T50 l0_1 x3_1).f0) ≤ ((rd_T50 l0_1 (wrap64 (x3_1 - 1))).f0))) l0_0 l0_1 l0_2 l0_3 ((rd_T50 l0_1 x3_1).f0) ((rd_T50 l0_1 x3_1).f1) ((rd_T50 l0_1 x3_1).f2) ((rd_T50 l0_1 x3_1).f3) ((rd_T50 l0_1 x3_1).f4) ((rd_T50 l0_1 x3_1).f5) ((rd_T50 l0_1 x3_1).f6) ((rd_T50 l0_1 x3_1).f7)) else (none)) else (none)) else (skiarearef10_lifts.j2 kj4 x3_1 false l0_0 l0_1 l0_2 l0_3 ((rd_T50 l0_1 x3_1).f0) ((rd_T50 l0_1 x3_1).f1) ((rd_T50 l0_1 x3_1).f2) ((rd_T50 l0_1 x3_1).f3) ((rd_T50 l0_1 x3_1).f4) ((rd_T50 l0_1 x3_1).f5) ((rd_T50 l0_1 x3_1).f6) ((rd_T50 l0_1 x3_1).f7))) = some r := by rw [if_neg (show ¬ (false = true) by decide)] at H; exact H
        clear H
        have H := H1
        clear H1
        have HC34 := Aside0.mk H
        clear H
        go_upto_region 7 with (fail)
        repeat (go_quiet (fail); go_upto_region 7 with (fail))
        go_cut [65] (fun v65 wc => ∃ (kq : Nat) (x65_33 : Bool), v65 = .bool x65_33 ∧ Aside0 (skiarearef10_lifts.j2 kq x3_1 x65_33 l0_0 l0_1 l0_2 l0_3 ((rd_T50 l0_1 x3_1).f0) ((rd_T50 l0_1 x3_1).f1) ((rd_T50 l0_1 x3_1).f2) ((rd_T50 l0_1 x3_1).f3) ((rd_T50 l0_1 x3_1).f4) ((rd_T50 l0_1 x3_1).f5) ((rd_T50 l0_1 x3_1).f6) ((rd_T50 l0_1 x3_1).f7) = some r) ∧ Aside0 (kq ≤ kj4) ∧ Aside0 (wc.heap[gb163]? = some (.cells #[(.slice A0_0 l0_0.length c0_0), (.slice (some ad164) l0_1.length c0_1), (.slice A0_2 l0_2.length c0_2), (.slice A0_3 l0_3.length c0_3)] 36 (0, 0))) ∧ Aside0 (wc.heap[gb165]? = some (.cells #[.int .i64 ((rd_T50 l0_1 x3_1).f0), .int .i64 ((rd_T50 l0_1 x3_1).f1), .int .i64 ((rd_T50 l0_1 x3_1).f2), .int .i64 ((rd_T50 l0_1 x3_1).f3), .int .i64 ((rd_T50 l0_1 x3_1).f4), .int .i64 ((rd_T50 l0_1 x3_1).f5), .int .i64 ((rd_T50 l0_1 x3_1).f6), .int .i64 ((rd_T50 l0_1 x3_1).f7)] 50 (0, 0))) ∧ Aside0 (Below w.heap.size w wc))
        case first =>
         have H := HC34.out
         clear HC34
         by_cases c35 : x3_1 > 0
         ·rw [if_pos c35] at H
          have c35b0 : decide (0 < x3_1) = true := decide_eq_true c35
          clear c35
          (first | rw [c35b0] | (simp only [i64_w, i32_w]; rw [c35b0]) | skip)
          obtain ⟨ji36, hji36⟩ : ∃ j_ : Int, (wrap64 (x3_1 - 1)) = j_ := ⟨_, rfl⟩
          replace H : (if 0 ≤ (ji36) then (if (ji36) < (l0_1.length : Int) then (skiarearef10_lifts.j2 kj4 x3_1 (decide (((rd_T50 l0_1 x3_1).f0) ≤ ((rd_T50 l0_1 (ji36)).f0))) l0_0 l0_1 l0_2 l0_3 ((rd_T50 l0_1 x3_1).f0) ((rd_T50 l0_1 x3_1).f1) ((rd_T50 l0_1 x3_1).f2) ((rd_T50 l0_1 x3_1).f3) ((rd_T50 l0_1 x3_1).f4) ((rd_T50 l0_1 x3_1).f5) ((rd_T50 l0_1 x3_1).f6) ((rd_T50 l0_1 x3_1).f7)) else (none)) else (none)) = some r := by first | (rw [hji36] at H; exact H) | (simp only [hji36] at H ⊢; exact H)
          have hji36w : (IntKind.i64.wrap (x3_1 - 1)) = ji36 := (i64_w _).trans hji36
          by_cases c37 : 0 ≤ (ji36)
          ·rw [if_pos c37] at H
           have c37b0 : decide (0 ≤ (ji36)) = true := decide_eq_true c37
           clear c37
           by_cases c38 : (ji36) < (l0_1.length : Int)
           ·rw [if_pos c38] at H
            have c38b0 : decide ((ji36) < (l0_1.length : Int)) = true := decide_eq_true c38
            clear c38
            have H' := Aside0.mk H
            clear H
            have hnb39 := NB165_163.out
            have hnc39 := NB163_165.out
            have hcz40_0 : wc.cell? ⟨gb165, 0, none⟩ = some (.int .i64 ((rd_T50 l0_1 x3_1).f0)) := (blk_cell BK165.out 0).trans rfl
            have hcz40_1 : wc.cell? ⟨gb165, 1, none⟩ = some (.int .i64 ((rd_T50 l0_1 x3_1).f1)) := (blk_cell BK165.out 1).trans rfl
            have hcz40_2 : wc.cell? ⟨gb165, 2, none⟩ = some (.int .i64 ((rd_T50 l0_1 x3_1).f2)) := (blk_cell BK165.out 2).trans rfl
            have hcz40_3 : wc.cell? ⟨gb165, 3, none⟩ = some (.int .i64 ((rd_T50 l0_1 x3_1).f3)) := (blk_cell BK165.out 3).trans rfl
            have hcz40_4 : wc.cell? ⟨gb165, 4, none⟩ = some (.int .i64 ((rd_T50 l0_1 x3_1).f4)) := (blk_cell BK165.out 4).trans rfl
            have hcz40_5 : wc.cell? ⟨gb165, 5, none⟩ = some (.int .i64 ((rd_T50 l0_1 x3_1).f5)) := (blk_cell BK165.out 5).trans rfl
            have hcz40_6 : wc.cell? ⟨gb165, 6, none⟩ = some (.int .i64 ((rd_T50 l0_1 x3_1).f6)) := (blk_cell BK165.out 6).trans rfl
            have hcz40_7 : wc.cell? ⟨gb165, 7, none⟩ = some (.int .i64 ((rd_T50 l0_1 x3_1).f7)) := (blk_cell BK165.out 7).trans rfl
            have hfz40_0 := blk_frozen BK165.out 0
            have hfz40_1 := blk_frozen BK165.out 1
            have hfz40_2 := blk_frozen BK165.out 2
            have hfz40_3 := blk_frozen BK165.out 3
            have hfz40_4 := blk_frozen BK165.out 4
            have hfz40_5 := blk_frozen BK165.out 5
            have hfz40_6 := blk_frozen BK165.out 6
            have hfz40_7 := blk_frozen BK165.out 7
            have hcz41_0 : wc.cell? ⟨gb163, 0, none⟩ = some (.slice A0_0 l0_0.length c0_0) := (blk_cell BK163.out 0).trans rfl
            have hcz41_1 : wc.cell? ⟨gb163, 1, none⟩ = some (.slice (some ad164) l0_1.length c0_1) := (blk_cell BK163.out 1).trans rfl
            have hcz41_2 : wc.cell? ⟨gb163, 2, none⟩ = some (.slice A0_2 l0_2.length c0_2) := (blk_cell BK163.out 2).trans rfl
            have hcz41_3 : wc.cell? ⟨gb163, 3, none⟩ = some (.slice A0_3 l0_3.length c0_3) := (blk_cell BK163.out 3).trans rfl
            have hfz41_0 := blk_frozen BK163.out 0
            have hfz41_1 := blk_frozen BK163.out 1
            have hfz41_2 := blk_frozen BK163.out 2
            have hfz41_3 := blk_frozen BK163.out 3
            have p172 : 0 ≤ ((ji36) : Int) := of_decide_eq_true (by first | (with_reducible assumption) | assumption)
            have q172 : (ji36) < (l0_1.length : Int) := of_decide_eq_true (by first | (with_reducible assumption) | assumption)
            obtain ⟨ad172, e172, hx172_0, hx172_1, hx172_2, hx172_3, hx172_4, hx172_5, hx172_6, hx172_7⟩ := at_T50 HR0_1.out (ji36) p172 q172
            obtain rfl : ad164 = ad172 := (by injection e172)
            replace hx172_0 := (HB.out.cell (World.block_lt_of_cell? w _ hx172_0)).trans hx172_0
            replace hx172_1 := (HB.out.cell (World.block_lt_of_cell? w _ hx172_1)).trans hx172_1
            replace hx172_2 := (HB.out.cell (World.block_lt_of_cell? w _ hx172_2)).trans hx172_2
            replace hx172_3 := (HB.out.cell (World.block_lt_of_cell? w _ hx172_3)).trans hx172_3
            replace hx172_4 := (HB.out.cell (World.block_lt_of_cell? w _ hx172_4)).trans hx172_4
            replace hx172_5 := (HB.out.cell (World.block_lt_of_cell? w _ hx172_5)).trans hx172_5
            replace hx172_6 := (HB.out.cell (World.block_lt_of_cell? w _ hx172_6)).trans hx172_6
            replace hx172_7 := (HB.out.cell (World.block_lt_of_cell? w _ hx172_7)).trans hx172_7
            replace p172 := eq_true p172
            replace q172 := eq_true q172
            go_wp2
            repeat (go_quiet (fail); try go_wp2)
            go_meet
            case rel => exact ⟨_, (decide (((rd_T50 l0_1 x3_1).f0) ≤ ((rd_T50 l0_1 (ji36)).f0))), (by first | rfl | (simp; done) | (simp only [← hji36] <;> (first | rfl | simp)) | (simp [*]; done)), H', ⟨by have := HK1.out; have := HJ4.out; first | omega | exact Nat.le_refl _⟩, ⟨by (with_reducible repeat (first | refine blk_drewN ?_ _ | refine blk_drew ?_ | refine blk_alloc ?_ _)); exact BK163.out⟩, ⟨by (with_reducible repeat (first | refine blk_drewN ?_ _ | refine blk_drew ?_ | refine blk_alloc ?_ _)); exact BK165.out⟩, ⟨by repeat (first | (with_reducible first | exact HB.out | apply below_alloc | apply pw_below_drewN | apply below_drew1 | refine below_set ?_ GE163.out | refine below_set ?_ GE165.out) | exact HB.out)⟩⟩
           ·rw [if_neg c38] at H
            exact absurd H (by simp)
          ·rw [if_neg c37] at H
           exact absurd H (by simp)
         ·rw [if_neg c35] at H
          have c35b0 : decide (0 < x3_1) = false := decide_eq_false c35
          clear c35
          (first | rw [c35b0] | (simp only [i64_w, i32_w]; rw [c35b0]) | skip)
          have H' := Aside0.mk H
          clear H
          go_wp2
          repeat (go_quiet (fail); try go_wp2)
          go_meet
          case rel => exact ⟨_, (false), (by first | rfl | (simp; done) | (simp [*]; done)), H', ⟨by have := HK1.out; have := HJ4.out; first | omega | exact Nat.le_refl _⟩, ⟨by (with_reducible repeat (first | refine blk_drewN ?_ _ | refine blk_drew ?_ | refine blk_alloc ?_ _)); exact BK163.out⟩, ⟨by (with_reducible repeat (first | refine blk_drewN ?_ _ | refine blk_drew ?_ | refine blk_alloc ?_ _)); exact BK165.out⟩, ⟨by repeat (first | (with_reducible first | exact HB.out | apply below_alloc | apply pw_below_drewN | apply below_drew1 | refine below_set ?_ GE163.out | refine below_set ?_ GE165.out) | exact HB.out)⟩⟩
        case rest =>
         clear HC34
         try clear c1
         try clear p1
         try clear q1
         try clear hx1
         try clear c2
         try clear p2
         try clear c3
         try clear c3b0
         try clear c4
         try clear c4b0
         try clear p6
         try clear c8
         try clear c11
         try clear c13
         try clear c15
         try clear p16
         try clear q16
         try clear hx16
         try clear c17
         try clear p17
         try clear q17
         try clear hx17
         try clear c19
         try clear c21
         try clear c23
         try clear c25
         try clear c27
         try clear c29
         try clear c30
         try clear c31
         try clear c33
         try clear c35
         try clear c35b0
         try clear c37
         try clear c37b0
         try clear c38
         try clear c38b0
         try clear c39
         try clear hcz22_0
         try clear hcz22_1
         try clear hcz22_2
         try clear hcz22_3
         try clear hcz22_4
         try clear hcz22_5
         try clear hcz22_6
         try clear hcz22_7
         try clear hcz24_0
         try clear hcz24_1
         try clear hcz24_2
         try clear hcz24_3
         try clear hcz24_4
         try clear hcz24_5
         try clear hcz24_6
         try clear hcz24_7
         try clear hcz26_0
         try clear hcz26_1
         try clear hcz26_2
         try clear hcz26_3
         try clear hcz26_4
         try clear hcz26_5
         try clear hcz26_6
         try clear hcz26_7
         try clear hcz28_0
         try clear hcz28_1
         try clear hcz28_2
         try clear hcz28_3
         try clear hcz28_4
         try clear hcz28_5
         try clear hcz28_6
         try clear hcz28_7
         try clear hcz30_0
         try clear hcz30_1
         try clear hcz30_2
         try clear hcz30_3
         try clear hcz30_4
         try clear hcz30_5
         try clear hcz30_6
         try clear hcz30_7
         try clear hcz32_0
         try clear hcz32_1
         try clear hcz32_2
         try clear hcz32_3
         try clear hcz32_4
         try clear hcz32_5
         try clear hcz32_6
         try clear hcz32_7
         try clear hcz40_0
         try clear hcz40_1
         try clear hcz40_2
         try clear hcz40_3
         try clear hcz40_4
         try clear hcz40_5
         try clear hcz40_6
         try clear hcz40_7
         try clear hcz41_0
         try clear hcz41_1
         try clear hcz41_2
         try clear hcz41_3
         try clear hcz6_0
         try clear hcz6_1
         try clear hcz6_2
         try clear hcz6_3
         try clear hcz9_0
         try clear hcz9_1
         try clear hcz9_2
         try clear hcz9_3
         try clear hcz9_4
         try clear hcz9_5
         try clear hcz9_6
         try clear hcz9_7
         try clear hfz22_0
         try clear hfz22_1
         try clear hfz22_2
         try clear hfz22_3
         try clear hfz22_4
         try clear hfz22_5
         try clear hfz22_6
         try clear hfz22_7
         try clear hfz24_0
         try clear hfz24_1
         try clear hfz24_2
         try clear hfz24_3
         try clear hfz24_4
         try clear hfz24_5
         try clear hfz24_6
         try clear hfz24_7
         try clear hfz26_0
         try clear hfz26_1
         try clear hfz26_2
         try clear hfz26_3
         try clear hfz26_4
         try clear hfz26_5
         try clear hfz26_6
         try clear hfz26_7
         try clear hfz28_0
         try clear hfz28_1
         try clear hfz28_2
         try clear hfz28_3
         try clear hfz28_4
         try clear hfz28_5
         try clear hfz28_6
         try clear hfz28_7
         try clear hfz30_0
         try clear hfz30_1
         try clear hfz30_2
         try clear hfz30_3
         try clear hfz30_4
         try clear hfz30_5
         try clear hfz30_6
         try clear hfz30_7
         try clear hfz32_0
         try clear hfz32_1
         try clear hfz32_2
         try clear hfz32_3
         try clear hfz32_4
         try clear hfz32_5
         try clear hfz32_6
         try clear hfz32_7
         try clear hfz40_0
         try clear hfz40_1
         try clear hfz40_2
         try clear hfz40_3
         try clear hfz40_4
         try clear hfz40_5
         try clear hfz40_6
         try clear hfz40_7
         try clear hfz41_0
         try clear hfz41_1
         try clear hfz41_2
         try clear hfz41_3
         try clear hfz6_0
         try clear hfz6_1
         try clear hfz6_2
         try clear hfz6_3
         try clear hfz9_0
         try clear hfz9_1
         try clear hfz9_2
         try clear hfz9_3
         try clear hfz9_4
         try clear hfz9_5
         try clear hfz9_6
         try clear hfz9_7
         try clear hx164_0
         try clear hx164_1
         try clear hx164_2
         try clear hx164_3
         try clear hx164_4
         try clear hx164_5
         try clear hx164_6
         try clear hx164_7
         try clear hx172_0
         try clear hx172_1
         try clear hx172_2
         try clear hx172_3
         try clear hx172_4
         try clear hx172_5
         try clear hx172_6
         try clear hx172_7
         try clear p1
         try clear p16
         try clear p164
         try clear p172
         try clear p2
         try clear q1
         try clear q16
         try clear q164
         try clear q172
         obtain ⟨kq, x65_33, rfl, HA, HJ33, BK163, BK165, HB⟩ := hcut
         cases kq with
         | zero => exact absurd HA.out (by simp [skiarearef10_lifts.j2])
         | succ kj33 =>
          have H := HA.out
          clear HA
          simp only [skiarearef10_lifts.j2] at H
          by_cases c42 : x65_33 = true
          ·subst c42
           have H1 : (some 7) = some r := by rw [if_pos rfl] at H; exact H
           clear H
           have H := H1
           clear H1
           obtain rfl := Option.some.inj H
           go_wp2
           repeat (go_quiet (fail); try go_wp2)
           go_ret
           exact ⟨by first | rfl | (simp [errW_none, errW_some] <;> rfl) | (simp [*, errW_none, errW_some] <;> rfl), by repeat (first | (with_reducible first | exact HB.out | apply below_alloc | apply pw_below_drewN | apply below_drew1 | refine below_set ?_ GE163.out | refine below_set ?_ GE165.out) | exact HB.out)⟩
          ·replace c42 := Bool.eq_false_iff.mpr c42
           subst c42
           have H1 : ((skiarearef10_rises.f kj33 l0_0 l0_1 l0_2 l0_3 ((rd_T50 l0_1 x3_1).f2) ((rd_T50 l0_1 x3_1).f3)).bind fun t173 => (if t173 = 0 then ((skiarearef10_carriers.f ((rd_T50 l0_1 x3_1).f0) ((rd_T50 l0_1 x3_1).f1) ((rd_T50 l0_1 x3_1).f2) ((rd_T50 l0_1 x3_1).f3) ((rd_T50 l0_1 x3_1).f4) ((rd_T50 l0_1 x3_1).f5) ((rd_T50 l0_1 x3_1).f6) ((rd_T50 l0_1 x3_1).f7)).bind fun t174 => (if t174 = true then (skiarearef10_lifts.l0 kj33 (wrap64 (x3_1 + 1)) l0_0 l0_1 l0_2 l0_3) else (some 1))) else (some t173))) = some r := by rw [if_neg (show ¬ (false = true) by decide)] at H; exact H
           clear H
           have H := H1
           clear H1
           replace H := Option.bind_eq_some_iff.mp H
           obtain ⟨t173, A430, H⟩ := H
           replace H : (if t173 = 0 then ((skiarearef10_carriers.f ((rd_T50 l0_1 x3_1).f0) ((rd_T50 l0_1 x3_1).f1) ((rd_T50 l0_1 x3_1).f2) ((rd_T50 l0_1 x3_1).f3) ((rd_T50 l0_1 x3_1).f4) ((rd_T50 l0_1 x3_1).f5) ((rd_T50 l0_1 x3_1).f6) ((rd_T50 l0_1 x3_1).f7)).bind fun t174 => (if t174 = true then (skiarearef10_lifts.l0 kj33 (wrap64 (x3_1 + 1)) l0_0 l0_1 l0_2 l0_3) else (some 1))) else (some t173)) = some r := H
           have A43 := Aside0.mk A430
           clear A430
           by_cases c44 : t173 = 0
           ·rw [if_pos c44] at H
            have c44b0 : (t173 == 0) = true := beq_iff_eq.mpr c44
            have c44b1 : (t173 != 0) = false := bne_eq_false_iff_eq.mpr c44
            clear c44
            replace H := Option.bind_eq_some_iff.mp H
            obtain ⟨t174, A450, H⟩ := H
            replace H : (if t174 = true then (skiarearef10_lifts.l0 kj33 (wrap64 (x3_1 + 1)) l0_0 l0_1 l0_2 l0_3) else (some 1)) = some r := H
            have A45 := Aside0.mk A450
            clear A450
            by_cases c46 : t174 = true
            ·subst c46
             have H1 : (skiarearef10_lifts.l0 kj33 (wrap64 (x3_1 + 1)) l0_0 l0_1 l0_2 l0_3) = some r := by rw [if_pos rfl] at H; exact H
             clear H
             have H := H1
             clear H1
             have H' := Aside0.mk H
             clear H
             have hnb47 := NB163_165.out
             have hnc47 := NB165_163.out
             have hcz48_0 : wc.cell? ⟨gb163, 0, none⟩ = some (.slice A0_0 l0_0.length c0_0) := (blk_cell BK163.out 0).trans rfl
             have hcz48_1 : wc.cell? ⟨gb163, 1, none⟩ = some (.slice (some ad164) l0_1.length c0_1) := (blk_cell BK163.out 1).trans rfl
             have hcz48_2 : wc.cell? ⟨gb163, 2, none⟩ = some (.slice A0_2 l0_2.length c0_2) := (blk_cell BK163.out 2).trans rfl
             have hcz48_3 : wc.cell? ⟨gb163, 3, none⟩ = some (.slice A0_3 l0_3.length c0_3) := (blk_cell BK163.out 3).trans rfl
             have hfz48_0 := blk_frozen BK163.out 0
             have hfz48_1 := blk_frozen BK163.out 1
             have hfz48_2 := blk_frozen BK163.out 2
             have hfz48_3 := blk_frozen BK163.out 3
             have hcz49_0 : wc.cell? ⟨gb165, 0, none⟩ = some (.int .i64 ((rd_T50 l0_1 x3_1).f0)) := (blk_cell BK165.out 0).trans rfl
             have hcz49_1 : wc.cell? ⟨gb165, 1, none⟩ = some (.int .i64 ((rd_T50 l0_1 x3_1).f1)) := (blk_cell BK165.out 1).trans rfl
             have hcz49_2 : wc.cell? ⟨gb165, 2, none⟩ = some (.int .i64 ((rd_T50 l0_1 x3_1).f2)) := (blk_cell BK165.out 2).trans rfl
             have hcz49_3 : wc.cell? ⟨gb165, 3, none⟩ = some (.int .i64 ((rd_T50 l0_1 x3_1).f3)) := (blk_cell BK165.out 3).trans rfl
             have hcz49_4 : wc.cell? ⟨gb165, 4, none⟩ = some (.int .i64 ((rd_T50 l0_1 x3_1).f4)) := (blk_cell BK165.out 4).trans rfl
             have hcz49_5 : wc.cell? ⟨gb165, 5, none⟩ = some (.int .i64 ((rd_T50 l0_1 x3_1).f5)) := (blk_cell BK165.out 5).trans rfl
             have hcz49_6 : wc.cell? ⟨gb165, 6, none⟩ = some (.int .i64 ((rd_T50 l0_1 x3_1).f6)) := (blk_cell BK165.out 6).trans rfl
             have hcz49_7 : wc.cell? ⟨gb165, 7, none⟩ = some (.int .i64 ((rd_T50 l0_1 x3_1).f7)) := (blk_cell BK165.out 7).trans rfl
             have hfz49_0 := blk_frozen BK165.out 0
             have hfz49_1 := blk_frozen BK165.out 1
             have hfz49_2 := blk_frozen BK165.out 2
             have hfz49_3 := blk_frozen BK165.out 3
             have hfz49_4 := blk_frozen BK165.out 4
             have hfz49_5 := blk_frozen BK165.out 5
             have hfz49_6 := blk_frozen BK165.out 6
             have hfz49_7 := blk_frozen BK165.out 7
             go_wp2_with (first | (go_at_call 39; (with_reducible refine (skiarearef10_rises.calls kj33 _ _ l0_0 _ _ l0_1 _ _ l0_2 _ _ l0_3 ((rd_T50 l0_1 x3_1).f2) ((rd_T50 l0_1 x3_1).f3) t173 _ ?side1 ?side2 ?side3 ?side4 ?side5 ?side6 ?side7 ?side8 A43.out).mono ?_); (case side1 => repeat (first | exact (Kd.C_below HR0_0.out HB.out) | (with_reducible refine Kd.C_alloc ?_ _) | (with_reducible refine Kd.C_drewN ?_ _) | (with_reducible refine Kd.C_drew ?_))); (case side2 => exact HC0_0.out); (case side3 => repeat (first | exact (Kd.C_below HR0_1.out HB.out) | (with_reducible refine Kd.C_alloc ?_ _) | (with_reducible refine Kd.C_drewN ?_ _) | (with_reducible refine Kd.C_drew ?_))); (case side4 => exact HC0_1.out); (case side5 => repeat (first | exact (Kd.C_below HR0_2.out HB.out) | (with_reducible refine Kd.C_alloc ?_ _) | (with_reducible refine Kd.C_drewN ?_ _) | (with_reducible refine Kd.C_drew ?_))); (case side6 => exact HC0_2.out); (case side7 => repeat (first | exact (Kd.C_below HR0_3.out HB.out) | (with_reducible refine Kd.C_alloc ?_ _) | (with_reducible refine Kd.C_drewN ?_ _) | (with_reducible refine Kd.C_drew ?_))); (case side8 => exact HC0_3.out); rintro e w50 ⟨rfl, hb⟩; have n0_ := Aside0.mk (blk_below (g := gb163) (o := .cells #[.slice A0_0 l0_0.length c0_0, .slice (some ad164) l0_1.length c0_1, .slice A0_2 l0_2.length c0_2, .slice A0_3 l0_3.length c0_3] 36 (0, 0)) (by (with_reducible repeat (first | refine blk_drewN ?_ _ | refine blk_drew ?_ | refine blk_alloc ?_ _)); exact BK163.out) hb); have n1_ := Aside0.mk (blk_below (g := gb165) (o := .cells #[.int .i64 ((rd_T50 l0_1 x3_1).f0), .int .i64 ((rd_T50 l0_1 x3_1).f1), .int .i64 ((rd_T50 l0_1 x3_1).f2), .int .i64 ((rd_T50 l0_1 x3_1).f3), .int .i64 ((rd_T50 l0_1 x3_1).f4), .int .i64 ((rd_T50 l0_1 x3_1).f5), .int .i64 ((rd_T50 l0_1 x3_1).f6), .int .i64 ((rd_T50 l0_1 x3_1).f7)] 50 (0, 0)) (by (with_reducible repeat (first | refine blk_drewN ?_ _ | refine blk_drew ?_ | refine blk_alloc ?_ _)); exact BK165.out) hb); have n2_ := Aside0.mk (below_step (by repeat (first | (with_reducible first | exact HB.out | apply below_alloc | apply pw_below_drewN | apply below_drew1 | refine below_set ?_ GE163.out | refine below_set ?_ GE165.out) | exact HB.out)) hb); clear BK163; clear BK165; clear HB; have BK163 := n0_; have BK165 := n1_; have HB := n2_; clear n0_ n1_ n2_; (try clear hb); (try clear hb2); (try clear hk); (try clear hi); have hcz51_0 : w50.cell? ⟨gb165, 0, none⟩ = some (.int .i64 ((rd_T50 l0_1 x3_1).f0)) := (blk_cell BK165.out 0).trans rfl; have hcz51_1 : w50.cell? ⟨gb165, 1, none⟩ = some (.int .i64 ((rd_T50 l0_1 x3_1).f1)) := (blk_cell BK165.out 1).trans rfl; have hcz51_2 : w50.cell? ⟨gb165, 2, none⟩ = some (.int .i64 ((rd_T50 l0_1 x3_1).f2)) := (blk_cell BK165.out 2).trans rfl; have hcz51_3 : w50.cell? ⟨gb165, 3, none⟩ = some (.int .i64 ((rd_T50 l0_1 x3_1).f3)) := (blk_cell BK165.out 3).trans rfl; have hcz51_4 : w50.cell? ⟨gb165, 4, none⟩ = some (.int .i64 ((rd_T50 l0_1 x3_1).f4)) := (blk_cell BK165.out 4).trans rfl; have hcz51_5 : w50.cell? ⟨gb165, 5, none⟩ = some (.int .i64 ((rd_T50 l0_1 x3_1).f5)) := (blk_cell BK165.out 5).trans rfl; have hcz51_6 : w50.cell? ⟨gb165, 6, none⟩ = some (.int .i64 ((rd_T50 l0_1 x3_1).f6)) := (blk_cell BK165.out 6).trans rfl; have hcz51_7 : w50.cell? ⟨gb165, 7, none⟩ = some (.int .i64 ((rd_T50 l0_1 x3_1).f7)) := (blk_cell BK165.out 7).trans rfl; have hfz51_0 := blk_frozen BK165.out 0; have hfz51_1 := blk_frozen BK165.out 1; have hfz51_2 := blk_frozen BK165.out 2; have hfz51_3 := blk_frozen BK165.out 3; have hfz51_4 := blk_frozen BK165.out 4; have hfz51_5 := blk_frozen BK165.out 5; have hfz51_6 := blk_frozen BK165.out 6; have hfz51_7 := blk_frozen BK165.out 7) | (go_at_call 40; (with_reducible refine (skiarearef10_carriers.calls ((rd_T50 l0_1 x3_1).f0) ((rd_T50 l0_1 x3_1).f1) ((rd_T50 l0_1 x3_1).f2) ((rd_T50 l0_1 x3_1).f3) ((rd_T50 l0_1 x3_1).f4) ((rd_T50 l0_1 x3_1).f5) ((rd_T50 l0_1 x3_1).f6) ((rd_T50 l0_1 x3_1).f7) true _ A45.out).mono ?_); rintro e w52 ⟨rfl, hb⟩; have n0_ := Aside0.mk (blk_below (g := gb163) (o := .cells #[.slice A0_0 l0_0.length c0_0, .slice (some ad164) l0_1.length c0_1, .slice A0_2 l0_2.length c0_2, .slice A0_3 l0_3.length c0_3] 36 (0, 0)) (by (with_reducible repeat (first | refine blk_drewN ?_ _ | refine blk_drew ?_ | refine blk_alloc ?_ _)); exact BK163.out) hb); have n1_ := Aside0.mk (blk_below (g := gb165) (o := .cells #[.int .i64 ((rd_T50 l0_1 x3_1).f0), .int .i64 ((rd_T50 l0_1 x3_1).f1), .int .i64 ((rd_T50 l0_1 x3_1).f2), .int .i64 ((rd_T50 l0_1 x3_1).f3), .int .i64 ((rd_T50 l0_1 x3_1).f4), .int .i64 ((rd_T50 l0_1 x3_1).f5), .int .i64 ((rd_T50 l0_1 x3_1).f6), .int .i64 ((rd_T50 l0_1 x3_1).f7)] 50 (0, 0)) (by (with_reducible repeat (first | refine blk_drewN ?_ _ | refine blk_drew ?_ | refine blk_alloc ?_ _)); exact BK165.out) hb); have n2_ := Aside0.mk (below_step (by repeat (first | (with_reducible first | exact HB.out | apply below_alloc | apply pw_below_drewN | apply below_drew1 | refine below_set ?_ GE163.out | refine below_set ?_ GE165.out) | exact HB.out)) hb); clear BK163; clear BK165; clear HB; have BK163 := n0_; have BK165 := n1_; have HB := n2_; clear n0_ n1_ n2_; (try clear hb); (try clear hb2); (try clear hk); (try clear hi)))
             repeat (go_quiet (first | (go_at_call 39; (with_reducible refine (skiarearef10_rises.calls kj33 _ _ l0_0 _ _ l0_1 _ _ l0_2 _ _ l0_3 ((rd_T50 l0_1 x3_1).f2) ((rd_T50 l0_1 x3_1).f3) t173 _ ?side1 ?side2 ?side3 ?side4 ?side5 ?side6 ?side7 ?side8 A43.out).mono ?_); (case side1 => repeat (first | exact (Kd.C_below HR0_0.out HB.out) | (with_reducible refine Kd.C_alloc ?_ _) | (with_reducible refine Kd.C_drewN ?_ _) | (with_reducible refine Kd.C_drew ?_))); (case side2 => exact HC0_0.out); (case side3 => repeat (first | exact (Kd.C_below HR0_1.out HB.out) | (with_reducible refine Kd.C_alloc ?_ _) | (with_reducible refine Kd.C_drewN ?_ _) | (with_reducible refine Kd.C_drew ?_))); (case side4 => exact HC0_1.out); (case side5 => repeat (first | exact (Kd.C_below HR0_2.out HB.out) | (with_reducible refine Kd.C_alloc ?_ _) | (with_reducible refine Kd.C_drewN ?_ _) | (with_reducible refine Kd.C_drew ?_))); (case side6 => exact HC0_2.out); (case side7 => repeat (first | exact (Kd.C_below HR0_3.out HB.out) | (with_reducible refine Kd.C_alloc ?_ _) | (with_reducible refine Kd.C_drewN ?_ _) | (with_reducible refine Kd.C_drew ?_))); (case side8 => exact HC0_3.out); rintro e w50 ⟨rfl, hb⟩; have n0_ := Aside0.mk (blk_below (g := gb163) (o := .cells #[.slice A0_0 l0_0.length c0_0, .slice (some ad164) l0_1.length c0_1, .slice A0_2 l0_2.length c0_2, .slice A0_3 l0_3.length c0_3] 36 (0, 0)) (by (with_reducible repeat (first | refine blk_drewN ?_ _ | refine blk_drew ?_ | refine blk_alloc ?_ _)); exact BK163.out) hb); have n1_ := Aside0.mk (blk_below (g := gb165) (o := .cells #[.int .i64 ((rd_T50 l0_1 x3_1).f0), .int .i64 ((rd_T50 l0_1 x3_1).f1), .int .i64 ((rd_T50 l0_1 x3_1).f2), .int .i64 ((rd_T50 l0_1 x3_1).f3), .int .i64 ((rd_T50 l0_1 x3_1).f4), .int .i64 ((rd_T50 l0_1 x3_1).f5), .int .i64 ((rd_T50 l0_1 x3_1).f6), .int .i64 ((rd_T50 l0_1 x3_1).f7)] 50 (0, 0)) (by (with_reducible repeat (first | refine blk_drewN ?_ _ | refine blk_drew ?_ | refine blk_alloc ?_ _)); exact BK165.out) hb); have n2_ := Aside0.mk (below_step (by repeat (first | (with_reducible first | exact HB.out | apply below_alloc | apply pw_below_drewN | apply below_drew1 | refine below_set ?_ GE163.out | refine below_set ?_ GE165.out) | exact HB.out)) hb); clear BK163; clear BK165; clear HB; have BK163 := n0_; have BK165 := n1_; have HB := n2_; clear n0_ n1_ n2_; (try clear hb); (try clear hb2); (try clear hk); (try clear hi); have hcz51_0 : w50.cell? ⟨gb165, 0, none⟩ = some (.int .i64 ((rd_T50 l0_1 x3_1).f0)) := (blk_cell BK165.out 0).trans rfl; have hcz51_1 : w50.cell? ⟨gb165, 1, none⟩ = some (.int .i64 ((rd_T50 l0_1 x3_1).f1)) := (blk_cell BK165.out 1).trans rfl; have hcz51_2 : w50.cell? ⟨gb165, 2, none⟩ = some (.int .i64 ((rd_T50 l0_1 x3_1).f2)) := (blk_cell BK165.out 2).trans rfl; have hcz51_3 : w50.cell? ⟨gb165, 3, none⟩ = some (.int .i64 ((rd_T50 l0_1 x3_1).f3)) := (blk_cell BK165.out 3).trans rfl; have hcz51_4 : w50.cell? ⟨gb165, 4, none⟩ = some (.int .i64 ((rd_T50 l0_1 x3_1).f4)) := (blk_cell BK165.out 4).trans rfl; have hcz51_5 : w50.cell? ⟨gb165, 5, none⟩ = some (.int .i64 ((rd_T50 l0_1 x3_1).f5)) := (blk_cell BK165.out 5).trans rfl; have hcz51_6 : w50.cell? ⟨gb165, 6, none⟩ = some (.int .i64 ((rd_T50 l0_1 x3_1).f6)) := (blk_cell BK165.out 6).trans rfl; have hcz51_7 : w50.cell? ⟨gb165, 7, none⟩ = some (.int .i64 ((rd_T50 l0_1 x3_1).f7)) := (blk_cell BK165.out 7).trans rfl; have hfz51_0 := blk_frozen BK165.out 0; have hfz51_1 := blk_frozen BK165.out 1; have hfz51_2 := blk_frozen BK165.out 2; have hfz51_3 := blk_frozen BK165.out 3; have hfz51_4 := blk_frozen BK165.out 4; have hfz51_5 := blk_frozen BK165.out 5; have hfz51_6 := blk_frozen BK165.out 6; have hfz51_7 := blk_frozen BK165.out 7) | (go_at_call 40; (with_reducible refine (skiarearef10_carriers.calls ((rd_T50 l0_1 x3_1).f0) ((rd_T50 l0_1 x3_1).f1) ((rd_T50 l0_1 x3_1).f2) ((rd_T50 l0_1 x3_1).f3) ((rd_T50 l0_1 x3_1).f4) ((rd_T50 l0_1 x3_1).f5) ((rd_T50 l0_1 x3_1).f6) ((rd_T50 l0_1 x3_1).f7) true _ A45.out).mono ?_); rintro e w52 ⟨rfl, hb⟩; have n0_ := Aside0.mk (blk_below (g := gb163) (o := .cells #[.slice A0_0 l0_0.length c0_0, .slice (some ad164) l0_1.length c0_1, .slice A0_2 l0_2.length c0_2, .slice A0_3 l0_3.length c0_3] 36 (0, 0)) (by (with_reducible repeat (first | refine blk_drewN ?_ _ | refine blk_drew ?_ | refine blk_alloc ?_ _)); exact BK163.out) hb); have n1_ := Aside0.mk (blk_below (g := gb165) (o := .cells #[.int .i64 ((rd_T50 l0_1 x3_1).f0), .int .i64 ((rd_T50 l0_1 x3_1).f1), .int .i64 ((rd_T50 l0_1 x3_1).f2), .int .i64 ((rd_T50 l0_1 x3_1).f3), .int .i64 ((rd_T50 l0_1 x3_1).f4), .int .i64 ((rd_T50 l0_1 x3_1).f5), .int .i64 ((rd_T50 l0_1 x3_1).f6), .int .i64 ((rd_T50 l0_1 x3_1).f7)] 50 (0, 0)) (by (with_reducible repeat (first | refine blk_drewN ?_ _ | refine blk_drew ?_ | refine blk_alloc ?_ _)); exact BK165.out) hb); have n2_ := Aside0.mk (below_step (by repeat (first | (with_reducible first | exact HB.out | apply below_alloc | apply pw_below_drewN | apply below_drew1 | refine below_set ?_ GE163.out | refine below_set ?_ GE165.out) | exact HB.out)) hb); clear BK163; clear BK165; clear HB; have BK163 := n0_; have BK165 := n1_; have HB := n2_; clear n0_ n1_ n2_; (try clear hb); (try clear hb2); (try clear hk); (try clear hi))); try go_wp2_with (first | (go_at_call 39; (with_reducible refine (skiarearef10_rises.calls kj33 _ _ l0_0 _ _ l0_1 _ _ l0_2 _ _ l0_3 ((rd_T50 l0_1 x3_1).f2) ((rd_T50 l0_1 x3_1).f3) t173 _ ?side1 ?side2 ?side3 ?side4 ?side5 ?side6 ?side7 ?side8 A43.out).mono ?_); (case side1 => repeat (first | exact (Kd.C_below HR0_0.out HB.out) | (with_reducible refine Kd.C_alloc ?_ _) | (with_reducible refine Kd.C_drewN ?_ _) | (with_reducible refine Kd.C_drew ?_))); (case side2 => exact HC0_0.out); (case side3 => repeat (first | exact (Kd.C_below HR0_1.out HB.out) | (with_reducible refine Kd.C_alloc ?_ _) | (with_reducible refine Kd.C_drewN ?_ _) | (with_reducible refine Kd.C_drew ?_))); (case side4 => exact HC0_1.out); (case side5 => repeat (first | exact (Kd.C_below HR0_2.out HB.out) | (with_reducible refine Kd.C_alloc ?_ _) | (with_reducible refine Kd.C_drewN ?_ _) | (with_reducible refine Kd.C_drew ?_))); (case side6 => exact HC0_2.out); (case side7 => repeat (first | exact (Kd.C_below HR0_3.out HB.out) | (with_reducible refine Kd.C_alloc ?_ _) | (with_reducible refine Kd.C_drewN ?_ _) | (with_reducible refine Kd.C_drew ?_))); (case side8 => exact HC0_3.out); rintro e w50 ⟨rfl, hb⟩; have n0_ := Aside0.mk (blk_below (g := gb163) (o := .cells #[.slice A0_0 l0_0.length c0_0, .slice (some ad164) l0_1.length c0_1, .slice A0_2 l0_2.length c0_2, .slice A0_3 l0_3.length c0_3] 36 (0, 0)) (by (with_reducible repeat (first | refine blk_drewN ?_ _ | refine blk_drew ?_ | refine blk_alloc ?_ _)); exact BK163.out) hb); have n1_ := Aside0.mk (blk_below (g := gb165) (o := .cells #[.int .i64 ((rd_T50 l0_1 x3_1).f0), .int .i64 ((rd_T50 l0_1 x3_1).f1), .int .i64 ((rd_T50 l0_1 x3_1).f2), .int .i64 ((rd_T50 l0_1 x3_1).f3), .int .i64 ((rd_T50 l0_1 x3_1).f4), .int .i64 ((rd_T50 l0_1 x3_1).f5), .int .i64 ((rd_T50 l0_1 x3_1).f6), .int .i64 ((rd_T50 l0_1 x3_1).f7)] 50 (0, 0)) (by (with_reducible repeat (first | refine blk_drewN ?_ _ | refine blk_drew ?_ | refine blk_alloc ?_ _)); exact BK165.out) hb); have n2_ := Aside0.mk (below_step (by repeat (first | (with_reducible first | exact HB.out | apply below_alloc | apply pw_below_drewN | apply below_drew1 | refine below_set ?_ GE163.out | refine below_set ?_ GE165.out) | exact HB.out)) hb); clear BK163; clear BK165; clear HB; have BK163 := n0_; have BK165 := n1_; have HB := n2_; clear n0_ n1_ n2_; (try clear hb); (try clear hb2); (try clear hk); (try clear hi); have hcz51_0 : w50.cell? ⟨gb165, 0, none⟩ = some (.int .i64 ((rd_T50 l0_1 x3_1).f0)) := (blk_cell BK165.out 0).trans rfl; have hcz51_1 : w50.cell? ⟨gb165, 1, none⟩ = some (.int .i64 ((rd_T50 l0_1 x3_1).f1)) := (blk_cell BK165.out 1).trans rfl; have hcz51_2 : w50.cell? ⟨gb165, 2, none⟩ = some (.int .i64 ((rd_T50 l0_1 x3_1).f2)) := (blk_cell BK165.out 2).trans rfl; have hcz51_3 : w50.cell? ⟨gb165, 3, none⟩ = some (.int .i64 ((rd_T50 l0_1 x3_1).f3)) := (blk_cell BK165.out 3).trans rfl; have hcz51_4 : w50.cell? ⟨gb165, 4, none⟩ = some (.int .i64 ((rd_T50 l0_1 x3_1).f4)) := (blk_cell BK165.out 4).trans rfl; have hcz51_5 : w50.cell? ⟨gb165, 5, none⟩ = some (.int .i64 ((rd_T50 l0_1 x3_1).f5)) := (blk_cell BK165.out 5).trans rfl; have hcz51_6 : w50.cell? ⟨gb165, 6, none⟩ = some (.int .i64 ((rd_T50 l0_1 x3_1).f6)) := (blk_cell BK165.out 6).trans rfl; have hcz51_7 : w50.cell? ⟨gb165, 7, none⟩ = some (.int .i64 ((rd_T50 l0_1 x3_1).f7)) := (blk_cell BK165.out 7).trans rfl; have hfz51_0 := blk_frozen BK165.out 0; have hfz51_1 := blk_frozen BK165.out 1; have hfz51_2 := blk_frozen BK165.out 2; have hfz51_3 := blk_frozen BK165.out 3; have hfz51_4 := blk_frozen BK165.out 4; have hfz51_5 := blk_frozen BK165.out 5; have hfz51_6 := blk_frozen BK165.out 6; have hfz51_7 := blk_frozen BK165.out 7) | (go_at_call 40; (with_reducible refine (skiarearef10_carriers.calls ((rd_T50 l0_1 x3_1).f0) ((rd_T50 l0_1 x3_1).f1) ((rd_T50 l0_1 x3_1).f2) ((rd_T50 l0_1 x3_1).f3) ((rd_T50 l0_1 x3_1).f4) ((rd_T50 l0_1 x3_1).f5) ((rd_T50 l0_1 x3_1).f6) ((rd_T50 l0_1 x3_1).f7) true _ A45.out).mono ?_); rintro e w52 ⟨rfl, hb⟩; have n0_ := Aside0.mk (blk_below (g := gb163) (o := .cells #[.slice A0_0 l0_0.length c0_0, .slice (some ad164) l0_1.length c0_1, .slice A0_2 l0_2.length c0_2, .slice A0_3 l0_3.length c0_3] 36 (0, 0)) (by (with_reducible repeat (first | refine blk_drewN ?_ _ | refine blk_drew ?_ | refine blk_alloc ?_ _)); exact BK163.out) hb); have n1_ := Aside0.mk (blk_below (g := gb165) (o := .cells #[.int .i64 ((rd_T50 l0_1 x3_1).f0), .int .i64 ((rd_T50 l0_1 x3_1).f1), .int .i64 ((rd_T50 l0_1 x3_1).f2), .int .i64 ((rd_T50 l0_1 x3_1).f3), .int .i64 ((rd_T50 l0_1 x3_1).f4), .int .i64 ((rd_T50 l0_1 x3_1).f5), .int .i64 ((rd_T50 l0_1 x3_1).f6), .int .i64 ((rd_T50 l0_1 x3_1).f7)] 50 (0, 0)) (by (with_reducible repeat (first | refine blk_drewN ?_ _ | refine blk_drew ?_ | refine blk_alloc ?_ _)); exact BK165.out) hb); have n2_ := Aside0.mk (below_step (by repeat (first | (with_reducible first | exact HB.out | apply below_alloc | apply pw_below_drewN | apply below_drew1 | refine below_set ?_ GE163.out | refine below_set ?_ GE165.out) | exact HB.out)) hb); clear BK163; clear BK165; clear HB; have BK163 := n0_; have BK165 := n1_; have HB := n2_; clear n0_ n1_ n2_; (try clear hb); (try clear hb2); (try clear hk); (try clear hi))))
             go_roundg kj33
             case measure => have := HK1.out; have := HJ4.out; have := HJ33.out; omega
             case rel => exact ⟨(wrap64 (x3_1 + 1)), (by first | rfl | (simp; done) | (simp [*]; done)), H', ⟨by have := HK1.out; have := HJ4.out; have := HJ33.out; omega⟩, ⟨by (with_reducible repeat (first | refine blk_drewN ?_ _ | refine blk_drew ?_ | refine blk_alloc ?_ _)); exact BK163.out⟩, ⟨by repeat (first | (with_reducible first | exact HB.out | apply below_alloc | apply pw_below_drewN | apply below_drew1 | refine below_set ?_ GE163.out | refine below_set ?_ GE165.out) | exact HB.out)⟩⟩
            ·replace c46 := Bool.eq_false_iff.mpr c46
             subst c46
             have H1 : (some 1) = some r := by rw [if_neg (show ¬ (false = true) by decide)] at H; exact H
             clear H
             have H := H1
             clear H1
             obtain rfl := Option.some.inj H
             have hnb53 := NB163_165.out
             have hnc53 := NB165_163.out
             have hcz54_0 : wc.cell? ⟨gb163, 0, none⟩ = some (.slice A0_0 l0_0.length c0_0) := (blk_cell BK163.out 0).trans rfl
             have hcz54_1 : wc.cell? ⟨gb163, 1, none⟩ = some (.slice (some ad164) l0_1.length c0_1) := (blk_cell BK163.out 1).trans rfl
             have hcz54_2 : wc.cell? ⟨gb163, 2, none⟩ = some (.slice A0_2 l0_2.length c0_2) := (blk_cell BK163.out 2).trans rfl
             have hcz54_3 : wc.cell? ⟨gb163, 3, none⟩ = some (.slice A0_3 l0_3.length c0_3) := (blk_cell BK163.out 3).trans rfl
             have hfz54_0 := blk_frozen BK163.out 0
             have hfz54_1 := blk_frozen BK163.out 1
             have hfz54_2 := blk_frozen BK163.out 2
             have hfz54_3 := blk_frozen BK163.out 3
             have hcz55_0 : wc.cell? ⟨gb165, 0, none⟩ = some (.int .i64 ((rd_T50 l0_1 x3_1).f0)) := (blk_cell BK165.out 0).trans rfl
             have hcz55_1 : wc.cell? ⟨gb165, 1, none⟩ = some (.int .i64 ((rd_T50 l0_1 x3_1).f1)) := (blk_cell BK165.out 1).trans rfl
             have hcz55_2 : wc.cell? ⟨gb165, 2, none⟩ = some (.int .i64 ((rd_T50 l0_1 x3_1).f2)) := (blk_cell BK165.out 2).trans rfl
             have hcz55_3 : wc.cell? ⟨gb165, 3, none⟩ = some (.int .i64 ((rd_T50 l0_1 x3_1).f3)) := (blk_cell BK165.out 3).trans rfl
             have hcz55_4 : wc.cell? ⟨gb165, 4, none⟩ = some (.int .i64 ((rd_T50 l0_1 x3_1).f4)) := (blk_cell BK165.out 4).trans rfl
             have hcz55_5 : wc.cell? ⟨gb165, 5, none⟩ = some (.int .i64 ((rd_T50 l0_1 x3_1).f5)) := (blk_cell BK165.out 5).trans rfl
             have hcz55_6 : wc.cell? ⟨gb165, 6, none⟩ = some (.int .i64 ((rd_T50 l0_1 x3_1).f6)) := (blk_cell BK165.out 6).trans rfl
             have hcz55_7 : wc.cell? ⟨gb165, 7, none⟩ = some (.int .i64 ((rd_T50 l0_1 x3_1).f7)) := (blk_cell BK165.out 7).trans rfl
             have hfz55_0 := blk_frozen BK165.out 0
             have hfz55_1 := blk_frozen BK165.out 1
             have hfz55_2 := blk_frozen BK165.out 2
             have hfz55_3 := blk_frozen BK165.out 3
             have hfz55_4 := blk_frozen BK165.out 4
             have hfz55_5 := blk_frozen BK165.out 5
             have hfz55_6 := blk_frozen BK165.out 6
             have hfz55_7 := blk_frozen BK165.out 7
             go_wp2_with (first | (go_at_call 39; (with_reducible refine (skiarearef10_rises.calls kj33 _ _ l0_0 _ _ l0_1 _ _ l0_2 _ _ l0_3 ((rd_T50 l0_1 x3_1).f2) ((rd_T50 l0_1 x3_1).f3) t173 _ ?side1 ?side2 ?side3 ?side4 ?side5 ?side6 ?side7 ?side8 A43.out).mono ?_); (case side1 => repeat (first | exact (Kd.C_below HR0_0.out HB.out) | (with_reducible refine Kd.C_alloc ?_ _) | (with_reducible refine Kd.C_drewN ?_ _) | (with_reducible refine Kd.C_drew ?_))); (case side2 => exact HC0_0.out); (case side3 => repeat (first | exact (Kd.C_below HR0_1.out HB.out) | (with_reducible refine Kd.C_alloc ?_ _) | (with_reducible refine Kd.C_drewN ?_ _) | (with_reducible refine Kd.C_drew ?_))); (case side4 => exact HC0_1.out); (case side5 => repeat (first | exact (Kd.C_below HR0_2.out HB.out) | (with_reducible refine Kd.C_alloc ?_ _) | (with_reducible refine Kd.C_drewN ?_ _) | (with_reducible refine Kd.C_drew ?_))); (case side6 => exact HC0_2.out); (case side7 => repeat (first | exact (Kd.C_below HR0_3.out HB.out) | (with_reducible refine Kd.C_alloc ?_ _) | (with_reducible refine Kd.C_drewN ?_ _) | (with_reducible refine Kd.C_drew ?_))); (case side8 => exact HC0_3.out); rintro e w56 ⟨rfl, hb⟩; have n0_ := Aside0.mk (blk_below (g := gb163) (o := .cells #[.slice A0_0 l0_0.length c0_0, .slice (some ad164) l0_1.length c0_1, .slice A0_2 l0_2.length c0_2, .slice A0_3 l0_3.length c0_3] 36 (0, 0)) (by (with_reducible repeat (first | refine blk_drewN ?_ _ | refine blk_drew ?_ | refine blk_alloc ?_ _)); exact BK163.out) hb); have n1_ := Aside0.mk (blk_below (g := gb165) (o := .cells #[.int .i64 ((rd_T50 l0_1 x3_1).f0), .int .i64 ((rd_T50 l0_1 x3_1).f1), .int .i64 ((rd_T50 l0_1 x3_1).f2), .int .i64 ((rd_T50 l0_1 x3_1).f3), .int .i64 ((rd_T50 l0_1 x3_1).f4), .int .i64 ((rd_T50 l0_1 x3_1).f5), .int .i64 ((rd_T50 l0_1 x3_1).f6), .int .i64 ((rd_T50 l0_1 x3_1).f7)] 50 (0, 0)) (by (with_reducible repeat (first | refine blk_drewN ?_ _ | refine blk_drew ?_ | refine blk_alloc ?_ _)); exact BK165.out) hb); have n2_ := Aside0.mk (below_step (by repeat (first | (with_reducible first | exact HB.out | apply below_alloc | apply pw_below_drewN | apply below_drew1 | refine below_set ?_ GE163.out | refine below_set ?_ GE165.out) | exact HB.out)) hb); clear BK163; clear BK165; clear HB; have BK163 := n0_; have BK165 := n1_; have HB := n2_; clear n0_ n1_ n2_; (try clear hb); (try clear hb2); (try clear hk); (try clear hi); have hcz57_0 : w56.cell? ⟨gb165, 0, none⟩ = some (.int .i64 ((rd_T50 l0_1 x3_1).f0)) := (blk_cell BK165.out 0).trans rfl; have hcz57_1 : w56.cell? ⟨gb165, 1, none⟩ = some (.int .i64 ((rd_T50 l0_1 x3_1).f1)) := (blk_cell BK165.out 1).trans rfl; have hcz57_2 : w56.cell? ⟨gb165, 2, none⟩ = some (.int .i64 ((rd_T50 l0_1 x3_1).f2)) := (blk_cell BK165.out 2).trans rfl; have hcz57_3 : w56.cell? ⟨gb165, 3, none⟩ = some (.int .i64 ((rd_T50 l0_1 x3_1).f3)) := (blk_cell BK165.out 3).trans rfl; have hcz57_4 : w56.cell? ⟨gb165, 4, none⟩ = some (.int .i64 ((rd_T50 l0_1 x3_1).f4)) := (blk_cell BK165.out 4).trans rfl; have hcz57_5 : w56.cell? ⟨gb165, 5, none⟩ = some (.int .i64 ((rd_T50 l0_1 x3_1).f5)) := (blk_cell BK165.out 5).trans rfl; have hcz57_6 : w56.cell? ⟨gb165, 6, none⟩ = some (.int .i64 ((rd_T50 l0_1 x3_1).f6)) := (blk_cell BK165.out 6).trans rfl; have hcz57_7 : w56.cell? ⟨gb165, 7, none⟩ = some (.int .i64 ((rd_T50 l0_1 x3_1).f7)) := (blk_cell BK165.out 7).trans rfl; have hfz57_0 := blk_frozen BK165.out 0; have hfz57_1 := blk_frozen BK165.out 1; have hfz57_2 := blk_frozen BK165.out 2; have hfz57_3 := blk_frozen BK165.out 3; have hfz57_4 := blk_frozen BK165.out 4; have hfz57_5 := blk_frozen BK165.out 5; have hfz57_6 := blk_frozen BK165.out 6; have hfz57_7 := blk_frozen BK165.out 7) | (go_at_call 40; (with_reducible refine (skiarearef10_carriers.calls ((rd_T50 l0_1 x3_1).f0) ((rd_T50 l0_1 x3_1).f1) ((rd_T50 l0_1 x3_1).f2) ((rd_T50 l0_1 x3_1).f3) ((rd_T50 l0_1 x3_1).f4) ((rd_T50 l0_1 x3_1).f5) ((rd_T50 l0_1 x3_1).f6) ((rd_T50 l0_1 x3_1).f7) false _ A45.out).mono ?_); rintro e w58 ⟨rfl, hb⟩; have n0_ := Aside0.mk (blk_below (g := gb163) (o := .cells #[.slice A0_0 l0_0.length c0_0, .slice (some ad164) l0_1.length c0_1, .slice A0_2 l0_2.length c0_2, .slice A0_3 l0_3.length c0_3] 36 (0, 0)) (by (with_reducible repeat (first | refine blk_drewN ?_ _ | refine blk_drew ?_ | refine blk_alloc ?_ _)); exact BK163.out) hb); have n1_ := Aside0.mk (blk_below (g := gb165) (o := .cells #[.int .i64 ((rd_T50 l0_1 x3_1).f0), .int .i64 ((rd_T50 l0_1 x3_1).f1), .int .i64 ((rd_T50 l0_1 x3_1).f2), .int .i64 ((rd_T50 l0_1 x3_1).f3), .int .i64 ((rd_T50 l0_1 x3_1).f4), .int .i64 ((rd_T50 l0_1 x3_1).f5), .int .i64 ((rd_T50 l0_1 x3_1).f6), .int .i64 ((rd_T50 l0_1 x3_1).f7)] 50 (0, 0)) (by (with_reducible repeat (first | refine blk_drewN ?_ _ | refine blk_drew ?_ | refine blk_alloc ?_ _)); exact BK165.out) hb); have n2_ := Aside0.mk (below_step (by repeat (first | (with_reducible first | exact HB.out | apply below_alloc | apply pw_below_drewN | apply below_drew1 | refine below_set ?_ GE163.out | refine below_set ?_ GE165.out) | exact HB.out)) hb); clear BK163; clear BK165; clear HB; have BK163 := n0_; have BK165 := n1_; have HB := n2_; clear n0_ n1_ n2_; (try clear hb); (try clear hb2); (try clear hk); (try clear hi)))
             repeat (go_quiet (first | (go_at_call 39; (with_reducible refine (skiarearef10_rises.calls kj33 _ _ l0_0 _ _ l0_1 _ _ l0_2 _ _ l0_3 ((rd_T50 l0_1 x3_1).f2) ((rd_T50 l0_1 x3_1).f3) t173 _ ?side1 ?side2 ?side3 ?side4 ?side5 ?side6 ?side7 ?side8 A43.out).mono ?_); (case side1 => repeat (first | exact (Kd.C_below HR0_0.out HB.out) | (with_reducible refine Kd.C_alloc ?_ _) | (with_reducible refine Kd.C_drewN ?_ _) | (with_reducible refine Kd.C_drew ?_))); (case side2 => exact HC0_0.out); (case side3 => repeat (first | exact (Kd.C_below HR0_1.out HB.out) | (with_reducible refine Kd.C_alloc ?_ _) | (with_reducible refine Kd.C_drewN ?_ _) | (with_reducible refine Kd.C_drew ?_))); (case side4 => exact HC0_1.out); (case side5 => repeat (first | exact (Kd.C_below HR0_2.out HB.out) | (with_reducible refine Kd.C_alloc ?_ _) | (with_reducible refine Kd.C_drewN ?_ _) | (with_reducible refine Kd.C_drew ?_))); (case side6 => exact HC0_2.out); (case side7 => repeat (first | exact (Kd.C_below HR0_3.out HB.out) | (with_reducible refine Kd.C_alloc ?_ _) | (with_reducible refine Kd.C_drewN ?_ _) | (with_reducible refine Kd.C_drew ?_))); (case side8 => exact HC0_3.out); rintro e w56 ⟨rfl, hb⟩; have n0_ := Aside0.mk (blk_below (g := gb163) (o := .cells #[.slice A0_0 l0_0.length c0_0, .slice (some ad164) l0_1.length c0_1, .slice A0_2 l0_2.length c0_2, .slice A0_3 l0_3.length c0_3] 36 (0, 0)) (by (with_reducible repeat (first | refine blk_drewN ?_ _ | refine blk_drew ?_ | refine blk_alloc ?_ _)); exact BK163.out) hb); have n1_ := Aside0.mk (blk_below (g := gb165) (o := .cells #[.int .i64 ((rd_T50 l0_1 x3_1).f0), .int .i64 ((rd_T50 l0_1 x3_1).f1), .int .i64 ((rd_T50 l0_1 x3_1).f2), .int .i64 ((rd_T50 l0_1 x3_1).f3), .int .i64 ((rd_T50 l0_1 x3_1).f4), .int .i64 ((rd_T50 l0_1 x3_1).f5), .int .i64 ((rd_T50 l0_1 x3_1).f6), .int .i64 ((rd_T50 l0_1 x3_1).f7)] 50 (0, 0)) (by (with_reducible repeat (first | refine blk_drewN ?_ _ | refine blk_drew ?_ | refine blk_alloc ?_ _)); exact BK165.out) hb); have n2_ := Aside0.mk (below_step (by repeat (first | (with_reducible first | exact HB.out | apply below_alloc | apply pw_below_drewN | apply below_drew1 | refine below_set ?_ GE163.out | refine below_set ?_ GE165.out) | exact HB.out)) hb); clear BK163; clear BK165; clear HB; have BK163 := n0_; have BK165 := n1_; have HB := n2_; clear n0_ n1_ n2_; (try clear hb); (try clear hb2); (try clear hk); (try clear hi); have hcz57_0 : w56.cell? ⟨gb165, 0, none⟩ = some (.int .i64 ((rd_T50 l0_1 x3_1).f0)) := (blk_cell BK165.out 0).trans rfl; have hcz57_1 : w56.cell? ⟨gb165, 1, none⟩ = some (.int .i64 ((rd_T50 l0_1 x3_1).f1)) := (blk_cell BK165.out 1).trans rfl; have hcz57_2 : w56.cell? ⟨gb165, 2, none⟩ = some (.int .i64 ((rd_T50 l0_1 x3_1).f2)) := (blk_cell BK165.out 2).trans rfl; have hcz57_3 : w56.cell? ⟨gb165, 3, none⟩ = some (.int .i64 ((rd_T50 l0_1 x3_1).f3)) := (blk_cell BK165.out 3).trans rfl; have hcz57_4 : w56.cell? ⟨gb165, 4, none⟩ = some (.int .i64 ((rd_T50 l0_1 x3_1).f4)) := (blk_cell BK165.out 4).trans rfl; have hcz57_5 : w56.cell? ⟨gb165, 5, none⟩ = some (.int .i64 ((rd_T50 l0_1 x3_1).f5)) := (blk_cell BK165.out 5).trans rfl; have hcz57_6 : w56.cell? ⟨gb165, 6, none⟩ = some (.int .i64 ((rd_T50 l0_1 x3_1).f6)) := (blk_cell BK165.out 6).trans rfl; have hcz57_7 : w56.cell? ⟨gb165, 7, none⟩ = some (.int .i64 ((rd_T50 l0_1 x3_1).f7)) := (blk_cell BK165.out 7).trans rfl; have hfz57_0 := blk_frozen BK165.out 0; have hfz57_1 := blk_frozen BK165.out 1; have hfz57_2 := blk_frozen BK165.out 2; have hfz57_3 := blk_frozen BK165.out 3; have hfz57_4 := blk_frozen BK165.out 4; have hfz57_5 := blk_frozen BK165.out 5; have hfz57_6 := blk_frozen BK165.out 6; have hfz57_7 := blk_frozen BK165.out 7) | (go_at_call 40; (with_reducible refine (skiarearef10_carriers.calls ((rd_T50 l0_1 x3_1).f0) ((rd_T50 l0_1 x3_1).f1) ((rd_T50 l0_1 x3_1).f2) ((rd_T50 l0_1 x3_1).f3) ((rd_T50 l0_1 x3_1).f4) ((rd_T50 l0_1 x3_1).f5) ((rd_T50 l0_1 x3_1).f6) ((rd_T50 l0_1 x3_1).f7) false _ A45.out).mono ?_); rintro e w58 ⟨rfl, hb⟩; have n0_ := Aside0.mk (blk_below (g := gb163) (o := .cells #[.slice A0_0 l0_0.length c0_0, .slice (some ad164) l0_1.length c0_1, .slice A0_2 l0_2.length c0_2, .slice A0_3 l0_3.length c0_3] 36 (0, 0)) (by (with_reducible repeat (first | refine blk_drewN ?_ _ | refine blk_drew ?_ | refine blk_alloc ?_ _)); exact BK163.out) hb); have n1_ := Aside0.mk (blk_below (g := gb165) (o := .cells #[.int .i64 ((rd_T50 l0_1 x3_1).f0), .int .i64 ((rd_T50 l0_1 x3_1).f1), .int .i64 ((rd_T50 l0_1 x3_1).f2), .int .i64 ((rd_T50 l0_1 x3_1).f3), .int .i64 ((rd_T50 l0_1 x3_1).f4), .int .i64 ((rd_T50 l0_1 x3_1).f5), .int .i64 ((rd_T50 l0_1 x3_1).f6), .int .i64 ((rd_T50 l0_1 x3_1).f7)] 50 (0, 0)) (by (with_reducible repeat (first | refine blk_drewN ?_ _ | refine blk_drew ?_ | refine blk_alloc ?_ _)); exact BK165.out) hb); have n2_ := Aside0.mk (below_step (by repeat (first | (with_reducible first | exact HB.out | apply below_alloc | apply pw_below_drewN | apply below_drew1 | refine below_set ?_ GE163.out | refine below_set ?_ GE165.out) | exact HB.out)) hb); clear BK163; clear BK165; clear HB; have BK163 := n0_; have BK165 := n1_; have HB := n2_; clear n0_ n1_ n2_; (try clear hb); (try clear hb2); (try clear hk); (try clear hi))); try go_wp2_with (first | (go_at_call 39; (with_reducible refine (skiarearef10_rises.calls kj33 _ _ l0_0 _ _ l0_1 _ _ l0_2 _ _ l0_3 ((rd_T50 l0_1 x3_1).f2) ((rd_T50 l0_1 x3_1).f3) t173 _ ?side1 ?side2 ?side3 ?side4 ?side5 ?side6 ?side7 ?side8 A43.out).mono ?_); (case side1 => repeat (first | exact (Kd.C_below HR0_0.out HB.out) | (with_reducible refine Kd.C_alloc ?_ _) | (with_reducible refine Kd.C_drewN ?_ _) | (with_reducible refine Kd.C_drew ?_))); (case side2 => exact HC0_0.out); (case side3 => repeat (first | exact (Kd.C_below HR0_1.out HB.out) | (with_reducible refine Kd.C_alloc ?_ _) | (with_reducible refine Kd.C_drewN ?_ _) | (with_reducible refine Kd.C_drew ?_))); (case side4 => exact HC0_1.out); (case side5 => repeat (first | exact (Kd.C_below HR0_2.out HB.out) | (with_reducible refine Kd.C_alloc ?_ _) | (with_reducible refine Kd.C_drewN ?_ _) | (with_reducible refine Kd.C_drew ?_))); (case side6 => exact HC0_2.out); (case side7 => repeat (first | exact (Kd.C_below HR0_3.out HB.out) | (with_reducible refine Kd.C_alloc ?_ _) | (with_reducible refine Kd.C_drewN ?_ _) | (with_reducible refine Kd.C_drew ?_))); (case side8 => exact HC0_3.out); rintro e w56 ⟨rfl, hb⟩; have n0_ := Aside0.mk (blk_below (g := gb163) (o := .cells #[.slice A0_0 l0_0.length c0_0, .slice (some ad164) l0_1.length c0_1, .slice A0_2 l0_2.length c0_2, .slice A0_3 l0_3.length c0_3] 36 (0, 0)) (by (with_reducible repeat (first | refine blk_drewN ?_ _ | refine blk_drew ?_ | refine blk_alloc ?_ _)); exact BK163.out) hb); have n1_ := Aside0.mk (blk_below (g := gb165) (o := .cells #[.int .i64 ((rd_T50 l0_1 x3_1).f0), .int .i64 ((rd_T50 l0_1 x3_1).f1), .int .i64 ((rd_T50 l0_1 x3_1).f2), .int .i64 ((rd_T50 l0_1 x3_1).f3), .int .i64 ((rd_T50 l0_1 x3_1).f4), .int .i64 ((rd_T50 l0_1 x3_1).f5), .int .i64 ((rd_T50 l0_1 x3_1).f6), .int .i64 ((rd_T50 l0_1 x3_1).f7)] 50 (0, 0)) (by (with_reducible repeat (first | refine blk_drewN ?_ _ | refine blk_drew ?_ | refine blk_alloc ?_ _)); exact BK165.out) hb); have n2_ := Aside0.mk (below_step (by repeat (first | (with_reducible first | exact HB.out | apply below_alloc | apply pw_below_drewN | apply below_drew1 | refine below_set ?_ GE163.out | refine below_set ?_ GE165.out) | exact HB.out)) hb); clear BK163; clear BK165; clear HB; have BK163 := n0_; have BK165 := n1_; have HB := n2_; clear n0_ n1_ n2_; (try clear hb); (try clear hb2); (try clear hk); (try clear hi); have hcz57_0 : w56.cell? ⟨gb165, 0, none⟩ = some (.int .i64 ((rd_T50 l0_1 x3_1).f0)) := (blk_cell BK165.out 0).trans rfl; have hcz57_1 : w56.cell? ⟨gb165, 1, none⟩ = some (.int .i64 ((rd_T50 l0_1 x3_1).f1)) := (blk_cell BK165.out 1).trans rfl; have hcz57_2 : w56.cell? ⟨gb165, 2, none⟩ = some (.int .i64 ((rd_T50 l0_1 x3_1).f2)) := (blk_cell BK165.out 2).trans rfl; have hcz57_3 : w56.cell? ⟨gb165, 3, none⟩ = some (.int .i64 ((rd_T50 l0_1 x3_1).f3)) := (blk_cell BK165.out 3).trans rfl; have hcz57_4 : w56.cell? ⟨gb165, 4, none⟩ = some (.int .i64 ((rd_T50 l0_1 x3_1).f4)) := (blk_cell BK165.out 4).trans rfl; have hcz57_5 : w56.cell? ⟨gb165, 5, none⟩ = some (.int .i64 ((rd_T50 l0_1 x3_1).f5)) := (blk_cell BK165.out 5).trans rfl; have hcz57_6 : w56.cell? ⟨gb165, 6, none⟩ = some (.int .i64 ((rd_T50 l0_1 x3_1).f6)) := (blk_cell BK165.out 6).trans rfl; have hcz57_7 : w56.cell? ⟨gb165, 7, none⟩ = some (.int .i64 ((rd_T50 l0_1 x3_1).f7)) := (blk_cell BK165.out 7).trans rfl; have hfz57_0 := blk_frozen BK165.out 0; have hfz57_1 := blk_frozen BK165.out 1; have hfz57_2 := blk_frozen BK165.out 2; have hfz57_3 := blk_frozen BK165.out 3; have hfz57_4 := blk_frozen BK165.out 4; have hfz57_5 := blk_frozen BK165.out 5; have hfz57_6 := blk_frozen BK165.out 6; have hfz57_7 := blk_frozen BK165.out 7) | (go_at_call 40; (with_reducible refine (skiarearef10_carriers.calls ((rd_T50 l0_1 x3_1).f0) ((rd_T50 l0_1 x3_1).f1) ((rd_T50 l0_1 x3_1).f2) ((rd_T50 l0_1 x3_1).f3) ((rd_T50 l0_1 x3_1).f4) ((rd_T50 l0_1 x3_1).f5) ((rd_T50 l0_1 x3_1).f6) ((rd_T50 l0_1 x3_1).f7) false _ A45.out).mono ?_); rintro e w58 ⟨rfl, hb⟩; have n0_ := Aside0.mk (blk_below (g := gb163) (o := .cells #[.slice A0_0 l0_0.length c0_0, .slice (some ad164) l0_1.length c0_1, .slice A0_2 l0_2.length c0_2, .slice A0_3 l0_3.length c0_3] 36 (0, 0)) (by (with_reducible repeat (first | refine blk_drewN ?_ _ | refine blk_drew ?_ | refine blk_alloc ?_ _)); exact BK163.out) hb); have n1_ := Aside0.mk (blk_below (g := gb165) (o := .cells #[.int .i64 ((rd_T50 l0_1 x3_1).f0), .int .i64 ((rd_T50 l0_1 x3_1).f1), .int .i64 ((rd_T50 l0_1 x3_1).f2), .int .i64 ((rd_T50 l0_1 x3_1).f3), .int .i64 ((rd_T50 l0_1 x3_1).f4), .int .i64 ((rd_T50 l0_1 x3_1).f5), .int .i64 ((rd_T50 l0_1 x3_1).f6), .int .i64 ((rd_T50 l0_1 x3_1).f7)] 50 (0, 0)) (by (with_reducible repeat (first | refine blk_drewN ?_ _ | refine blk_drew ?_ | refine blk_alloc ?_ _)); exact BK165.out) hb); have n2_ := Aside0.mk (below_step (by repeat (first | (with_reducible first | exact HB.out | apply below_alloc | apply pw_below_drewN | apply below_drew1 | refine below_set ?_ GE163.out | refine below_set ?_ GE165.out) | exact HB.out)) hb); clear BK163; clear BK165; clear HB; have BK163 := n0_; have BK165 := n1_; have HB := n2_; clear n0_ n1_ n2_; (try clear hb); (try clear hb2); (try clear hk); (try clear hi))))
             go_ret
             exact ⟨by first | rfl | (simp [errW_none, errW_some] <;> rfl) | (simp [*, errW_none, errW_some] <;> rfl), by repeat (first | (with_reducible first | exact HB.out | apply below_alloc | apply pw_below_drewN | apply below_drew1 | refine below_set ?_ GE163.out | refine below_set ?_ GE165.out) | exact HB.out)⟩
           ·rw [if_neg c44] at H
            have c44b0 : (t173 == 0) = false := beq_eq_false_iff_ne.mpr c44
            have c44b1 : (t173 != 0) = true := bne_iff_ne.mpr c44
            obtain rfl := Option.some.inj H
            have hnb59 := NB163_165.out
            have hnc59 := NB165_163.out
            have hcz60_0 : wc.cell? ⟨gb163, 0, none⟩ = some (.slice A0_0 l0_0.length c0_0) := (blk_cell BK163.out 0).trans rfl
            have hcz60_1 : wc.cell? ⟨gb163, 1, none⟩ = some (.slice (some ad164) l0_1.length c0_1) := (blk_cell BK163.out 1).trans rfl
            have hcz60_2 : wc.cell? ⟨gb163, 2, none⟩ = some (.slice A0_2 l0_2.length c0_2) := (blk_cell BK163.out 2).trans rfl
            have hcz60_3 : wc.cell? ⟨gb163, 3, none⟩ = some (.slice A0_3 l0_3.length c0_3) := (blk_cell BK163.out 3).trans rfl
            have hfz60_0 := blk_frozen BK163.out 0
            have hfz60_1 := blk_frozen BK163.out 1
            have hfz60_2 := blk_frozen BK163.out 2
            have hfz60_3 := blk_frozen BK163.out 3
            have hcz61_0 : wc.cell? ⟨gb165, 0, none⟩ = some (.int .i64 ((rd_T50 l0_1 x3_1).f0)) := (blk_cell BK165.out 0).trans rfl
            have hcz61_1 : wc.cell? ⟨gb165, 1, none⟩ = some (.int .i64 ((rd_T50 l0_1 x3_1).f1)) := (blk_cell BK165.out 1).trans rfl
            have hcz61_2 : wc.cell? ⟨gb165, 2, none⟩ = some (.int .i64 ((rd_T50 l0_1 x3_1).f2)) := (blk_cell BK165.out 2).trans rfl
            have hcz61_3 : wc.cell? ⟨gb165, 3, none⟩ = some (.int .i64 ((rd_T50 l0_1 x3_1).f3)) := (blk_cell BK165.out 3).trans rfl
            have hcz61_4 : wc.cell? ⟨gb165, 4, none⟩ = some (.int .i64 ((rd_T50 l0_1 x3_1).f4)) := (blk_cell BK165.out 4).trans rfl
            have hcz61_5 : wc.cell? ⟨gb165, 5, none⟩ = some (.int .i64 ((rd_T50 l0_1 x3_1).f5)) := (blk_cell BK165.out 5).trans rfl
            have hcz61_6 : wc.cell? ⟨gb165, 6, none⟩ = some (.int .i64 ((rd_T50 l0_1 x3_1).f6)) := (blk_cell BK165.out 6).trans rfl
            have hcz61_7 : wc.cell? ⟨gb165, 7, none⟩ = some (.int .i64 ((rd_T50 l0_1 x3_1).f7)) := (blk_cell BK165.out 7).trans rfl
            have hfz61_0 := blk_frozen BK165.out 0
            have hfz61_1 := blk_frozen BK165.out 1
            have hfz61_2 := blk_frozen BK165.out 2
            have hfz61_3 := blk_frozen BK165.out 3
            have hfz61_4 := blk_frozen BK165.out 4
            have hfz61_5 := blk_frozen BK165.out 5
            have hfz61_6 := blk_frozen BK165.out 6
            have hfz61_7 := blk_frozen BK165.out 7
            go_wp2_with (first | (go_at_call 39; (with_reducible refine (skiarearef10_rises.calls kj33 _ _ l0_0 _ _ l0_1 _ _ l0_2 _ _ l0_3 ((rd_T50 l0_1 x3_1).f2) ((rd_T50 l0_1 x3_1).f3) t173 _ ?side1 ?side2 ?side3 ?side4 ?side5 ?side6 ?side7 ?side8 A43.out).mono ?_); (case side1 => repeat (first | exact (Kd.C_below HR0_0.out HB.out) | (with_reducible refine Kd.C_alloc ?_ _) | (with_reducible refine Kd.C_drewN ?_ _) | (with_reducible refine Kd.C_drew ?_))); (case side2 => exact HC0_0.out); (case side3 => repeat (first | exact (Kd.C_below HR0_1.out HB.out) | (with_reducible refine Kd.C_alloc ?_ _) | (with_reducible refine Kd.C_drewN ?_ _) | (with_reducible refine Kd.C_drew ?_))); (case side4 => exact HC0_1.out); (case side5 => repeat (first | exact (Kd.C_below HR0_2.out HB.out) | (with_reducible refine Kd.C_alloc ?_ _) | (with_reducible refine Kd.C_drewN ?_ _) | (with_reducible refine Kd.C_drew ?_))); (case side6 => exact HC0_2.out); (case side7 => repeat (first | exact (Kd.C_below HR0_3.out HB.out) | (with_reducible refine Kd.C_alloc ?_ _) | (with_reducible refine Kd.C_drewN ?_ _) | (with_reducible refine Kd.C_drew ?_))); (case side8 => exact HC0_3.out); rintro e w62 ⟨rfl, hb⟩; have n0_ := Aside0.mk (blk_below (g := gb163) (o := .cells #[.slice A0_0 l0_0.length c0_0, .slice (some ad164) l0_1.length c0_1, .slice A0_2 l0_2.length c0_2, .slice A0_3 l0_3.length c0_3] 36 (0, 0)) (by (with_reducible repeat (first | refine blk_drewN ?_ _ | refine blk_drew ?_ | refine blk_alloc ?_ _)); exact BK163.out) hb); have n1_ := Aside0.mk (blk_below (g := gb165) (o := .cells #[.int .i64 ((rd_T50 l0_1 x3_1).f0), .int .i64 ((rd_T50 l0_1 x3_1).f1), .int .i64 ((rd_T50 l0_1 x3_1).f2), .int .i64 ((rd_T50 l0_1 x3_1).f3), .int .i64 ((rd_T50 l0_1 x3_1).f4), .int .i64 ((rd_T50 l0_1 x3_1).f5), .int .i64 ((rd_T50 l0_1 x3_1).f6), .int .i64 ((rd_T50 l0_1 x3_1).f7)] 50 (0, 0)) (by (with_reducible repeat (first | refine blk_drewN ?_ _ | refine blk_drew ?_ | refine blk_alloc ?_ _)); exact BK165.out) hb); have n2_ := Aside0.mk (below_step (by repeat (first | (with_reducible first | exact HB.out | apply below_alloc | apply pw_below_drewN | apply below_drew1 | refine below_set ?_ GE163.out | refine below_set ?_ GE165.out) | exact HB.out)) hb); clear BK163; clear BK165; clear HB; have BK163 := n0_; have BK165 := n1_; have HB := n2_; clear n0_ n1_ n2_; (try clear hb); (try clear hb2); (try clear hk); (try clear hi)))
            repeat (go_quiet (first | (go_at_call 39; (with_reducible refine (skiarearef10_rises.calls kj33 _ _ l0_0 _ _ l0_1 _ _ l0_2 _ _ l0_3 ((rd_T50 l0_1 x3_1).f2) ((rd_T50 l0_1 x3_1).f3) t173 _ ?side1 ?side2 ?side3 ?side4 ?side5 ?side6 ?side7 ?side8 A43.out).mono ?_); (case side1 => repeat (first | exact (Kd.C_below HR0_0.out HB.out) | (with_reducible refine Kd.C_alloc ?_ _) | (with_reducible refine Kd.C_drewN ?_ _) | (with_reducible refine Kd.C_drew ?_))); (case side2 => exact HC0_0.out); (case side3 => repeat (first | exact (Kd.C_below HR0_1.out HB.out) | (with_reducible refine Kd.C_alloc ?_ _) | (with_reducible refine Kd.C_drewN ?_ _) | (with_reducible refine Kd.C_drew ?_))); (case side4 => exact HC0_1.out); (case side5 => repeat (first | exact (Kd.C_below HR0_2.out HB.out) | (with_reducible refine Kd.C_alloc ?_ _) | (with_reducible refine Kd.C_drewN ?_ _) | (with_reducible refine Kd.C_drew ?_))); (case side6 => exact HC0_2.out); (case side7 => repeat (first | exact (Kd.C_below HR0_3.out HB.out) | (with_reducible refine Kd.C_alloc ?_ _) | (with_reducible refine Kd.C_drewN ?_ _) | (with_reducible refine Kd.C_drew ?_))); (case side8 => exact HC0_3.out); rintro e w62 ⟨rfl, hb⟩; have n0_ := Aside0.mk (blk_below (g := gb163) (o := .cells #[.slice A0_0 l0_0.length c0_0, .slice (some ad164) l0_1.length c0_1, .slice A0_2 l0_2.length c0_2, .slice A0_3 l0_3.length c0_3] 36 (0, 0)) (by (with_reducible repeat (first | refine blk_drewN ?_ _ | refine blk_drew ?_ | refine blk_alloc ?_ _)); exact BK163.out) hb); have n1_ := Aside0.mk (blk_below (g := gb165) (o := .cells #[.int .i64 ((rd_T50 l0_1 x3_1).f0), .int .i64 ((rd_T50 l0_1 x3_1).f1), .int .i64 ((rd_T50 l0_1 x3_1).f2), .int .i64 ((rd_T50 l0_1 x3_1).f3), .int .i64 ((rd_T50 l0_1 x3_1).f4), .int .i64 ((rd_T50 l0_1 x3_1).f5), .int .i64 ((rd_T50 l0_1 x3_1).f6), .int .i64 ((rd_T50 l0_1 x3_1).f7)] 50 (0, 0)) (by (with_reducible repeat (first | refine blk_drewN ?_ _ | refine blk_drew ?_ | refine blk_alloc ?_ _)); exact BK165.out) hb); have n2_ := Aside0.mk (below_step (by repeat (first | (with_reducible first | exact HB.out | apply below_alloc | apply pw_below_drewN | apply below_drew1 | refine below_set ?_ GE163.out | refine below_set ?_ GE165.out) | exact HB.out)) hb); clear BK163; clear BK165; clear HB; have BK163 := n0_; have BK165 := n1_; have HB := n2_; clear n0_ n1_ n2_; (try clear hb); (try clear hb2); (try clear hk); (try clear hi))); try go_wp2_with (first | (go_at_call 39; (with_reducible refine (skiarearef10_rises.calls kj33 _ _ l0_0 _ _ l0_1 _ _ l0_2 _ _ l0_3 ((rd_T50 l0_1 x3_1).f2) ((rd_T50 l0_1 x3_1).f3) t173 _ ?side1 ?side2 ?side3 ?side4 ?side5 ?side6 ?side7 ?side8 A43.out).mono ?_); (case side1 => repeat (first | exact (Kd.C_below HR0_0.out HB.out) | (with_reducible refine Kd.C_alloc ?_ _) | (with_reducible refine Kd.C_drewN ?_ _) | (with_reducible refine Kd.C_drew ?_))); (case side2 => exact HC0_0.out); (case side3 => repeat (first | exact (Kd.C_below HR0_1.out HB.out) | (with_reducible refine Kd.C_alloc ?_ _) | (with_reducible refine Kd.C_drewN ?_ _) | (with_reducible refine Kd.C_drew ?_))); (case side4 => exact HC0_1.out); (case side5 => repeat (first | exact (Kd.C_below HR0_2.out HB.out) | (with_reducible refine Kd.C_alloc ?_ _) | (with_reducible refine Kd.C_drewN ?_ _) | (with_reducible refine Kd.C_drew ?_))); (case side6 => exact HC0_2.out); (case side7 => repeat (first | exact (Kd.C_below HR0_3.out HB.out) | (with_reducible refine Kd.C_alloc ?_ _) | (with_reducible refine Kd.C_drewN ?_ _) | (with_reducible refine Kd.C_drew ?_))); (case side8 => exact HC0_3.out); rintro e w62 ⟨rfl, hb⟩; have n0_ := Aside0.mk (blk_below (g := gb163) (o := .cells #[.slice A0_0 l0_0.length c0_0, .slice (some ad164) l0_1.length c0_1, .slice A0_2 l0_2.length c0_2, .slice A0_3 l0_3.length c0_3] 36 (0, 0)) (by (with_reducible repeat (first | refine blk_drewN ?_ _ | refine blk_drew ?_ | refine blk_alloc ?_ _)); exact BK163.out) hb); have n1_ := Aside0.mk (blk_below (g := gb165) (o := .cells #[.int .i64 ((rd_T50 l0_1 x3_1).f0), .int .i64 ((rd_T50 l0_1 x3_1).f1), .int .i64 ((rd_T50 l0_1 x3_1).f2), .int .i64 ((rd_T50 l0_1 x3_1).f3), .int .i64 ((rd_T50 l0_1 x3_1).f4), .int .i64 ((rd_T50 l0_1 x3_1).f5), .int .i64 ((rd_T50 l0_1 x3_1).f6), .int .i64 ((rd_T50 l0_1 x3_1).f7)] 50 (0, 0)) (by (with_reducible repeat (first | refine blk_drewN ?_ _ | refine blk_drew ?_ | refine blk_alloc ?_ _)); exact BK165.out) hb); have n2_ := Aside0.mk (below_step (by repeat (first | (with_reducible first | exact HB.out | apply below_alloc | apply pw_below_drewN | apply below_drew1 | refine below_set ?_ GE163.out | refine below_set ?_ GE165.out) | exact HB.out)) hb); clear BK163; clear BK165; clear HB; have BK163 := n0_; have BK165 := n1_; have HB := n2_; clear n0_ n1_ n2_; (try clear hb); (try clear hb2); (try clear hk); (try clear hi))))
            go_ret
            exact ⟨by first | rfl | (simp [errW_none, errW_some] <;> rfl) | (simp [*, errW_none, errW_some] <;> rfl), by repeat (first | (with_reducible first | exact HB.out | apply below_alloc | apply pw_below_drewN | apply below_drew1 | refine below_set ?_ GE163.out | refine below_set ?_ GE165.out) | exact HB.out)⟩
    ·rw [if_neg c4] at H
     exact absurd H (by simp)
   ·rw [if_neg c3] at H
    have c3b0 : decide (x3_1 < (l0_1.length : Int)) = false := decide_eq_false c3
    clear c3
    obtain rfl := Option.some.inj H
    have hcz63_0 : wr.cell? ⟨gb163, 0, none⟩ = some (.slice A0_0 l0_0.length c0_0) := (blk_cell BK163.out 0).trans rfl
    have hcz63_1 : wr.cell? ⟨gb163, 1, none⟩ = some (.slice A0_1 l0_1.length c0_1) := (blk_cell BK163.out 1).trans rfl
    have hcz63_2 : wr.cell? ⟨gb163, 2, none⟩ = some (.slice A0_2 l0_2.length c0_2) := (blk_cell BK163.out 2).trans rfl
    have hcz63_3 : wr.cell? ⟨gb163, 3, none⟩ = some (.slice A0_3 l0_3.length c0_3) := (blk_cell BK163.out 3).trans rfl
    have hfz63_0 := blk_frozen BK163.out 0
    have hfz63_1 := blk_frozen BK163.out 1
    have hfz63_2 := blk_frozen BK163.out 2
    have hfz63_3 := blk_frozen BK163.out 3
    go_wp2
    repeat (go_quiet (fail); try go_wp2)
    go_ret
    exact ⟨by first | rfl | (simp [errW_none, errW_some] <;> rfl) | (simp [*, errW_none, errW_some] <;> rfl), by repeat (first | (with_reducible first | exact HB.out | apply below_alloc | apply pw_below_drewN | apply below_drew1 | refine below_set ?_ GE163.out) | exact HB.out)⟩

end Go.Proofs.Ytfabkiacmbkpmaa.A
