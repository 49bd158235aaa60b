-- PRINTED by print.py (a twelfth state) out of the translation. Not trusted: Lean checks it.
import Derived.Test.YtibmbffhlicpaaaAx0
namespace Go.Proofs.Ytibmbffhlicpaaa.A
open Go.RowKit Go.Proofs.YtibmbffhlicpaaaW.PrintWords Go.Proofs.YtibmbffhlicpaaaW.PrintLast Go.Proofs.YtibmbffhlicpaaaW.PrintMore
attribute [local go_sem] max2_int min2_int max_two min_two max_three min_three max_four min_four   -- for this text's walks alone
set_option linter.unusedVariables false
set_option linter.unusedSimpArgs false

/-! ### bulletin_Current: function 17 -/
def bulletin_Current.l0 : Nat → Int → Int → List (S31) → Int → Int → Option (Int)
 | 0, _, _, _, _, _ => none
 | k + 1, x1, x5, x8, x9, x10 => if x10 < x9 then (if 0 ≤ x10 then (if x10 < (x8.length : Int) then (if ((rd_T31 x8 x10).f1.f0) ≤ x1 then (if x1 < ((rd_T31 x8 x10).f1.f1) then (bulletin_Current.l0 k x1 (mx x5 ((rd_T31 x8 x10).f0)) x8 x9 (wrap64 (x10 + 1))) else (bulletin_Current.l0 k x1 x5 x8 x9 (wrap64 (x10 + 1)))) else (bulletin_Current.l0 k x1 x5 x8 x9 (wrap64 (x10 + 1)))) else (none)) else (none)) else (some x5)
def bulletin_Current.f (k : Nat) (l0 : List (S31)) (a1 : Int) : Option (Int) := bulletin_Current.l0 k a1 0 l0 (l0.length : Int) 0
theorem bulletin_Current.mono_l : ∀ k, (∀ y0 y1 y2 y3 y4, LeO (bulletin_Current.l0 k y0 y1 y2 y3 y4) (bulletin_Current.l0 (k + 1) y0 y1 y2 y3 y4))
 | 0 => fun _ _ _ _ _ r h => by simp [bulletin_Current.l0] at h
 | k + 1 => by
  have ih0 := bulletin_Current.mono_l k
  ·intro y0 y1 y2 y3 y4
   unfold bulletin_Current.l0
   repeat' first
   | (with_reducible exact ih0 _ _ _ _ _)
   | (with_reducible exact LeO.refl _)
   | (with_reducible exact LeO.none _)
   | (with_reducible refine LeO.ite ?_ ?_)
   | (with_reducible refine LeO.bind ?_ (fun _ => ?_))
   | exact ih0 _ _ _ _ _
   | exact LeO.none _
   | refine LeO.ite ?_ ?_
   | refine LeO.bind ?_ (fun _ => ?_)
theorem bulletin_Current.mono : ∀ a0 a1 k, LeO (bulletin_Current.f k a0 a1) (bulletin_Current.f (k + 1) a0 a1) := by
 intro a0 a1 k
 have ih0 := bulletin_Current.mono_l k
 unfold bulletin_Current.f
 repeat' first
   | (with_reducible exact ih0 _ _ _ _ _)
   | (with_reducible exact LeO.refl _)
   | (with_reducible exact LeO.none _)
   | (with_reducible refine LeO.ite ?_ ?_)
   | (with_reducible refine LeO.bind ?_ (fun _ => ?_))
   | exact ih0 _ _ _ _ _
   | exact LeO.none _
   | refine LeO.ite ?_ ?_
   | refine LeO.bind ?_ (fun _ => ?_)
set_option maxHeartbeats 8000000 in
set_option maxRecDepth 100000 in
theorem bulletin_Current.calls (k : Nat) (A0 : Option Addr) (c0 : Nat) (l0 : List (S31)) (a1 : Int) (r : Int) (w : World) (hr0 : Kd.C k31 w A0 l0.length l0) (hc0 : l0.length ≤ c0) (h : bulletin_Current.f k l0 a1 = some r) :
  Calls Try.prog 17 #[.slice A0 l0.length c0, .int .i64 a1] w fun e w' => e = .returned (.int .i64 r) ∧ Below w.heap.size w w' := by
 have hu31 := Try.underlying31
 have HR0 := Aside0.mk hr0
 have HC0 := Aside0.mk hc0
 clear hr0 hc0
 have HB := Aside0.mk (Below.refl w.heap.size w)
 have H : (bulletin_Current.l0 k a1 0 l0 (l0.length : Int) 0) = some r := h
 clear h
 have H' := Aside0.mk H
 clear H
 go_enter Try.func17, Try.ntmps17
 go_wp2
 go_loopg [5, 10] k (fun kq v5 v10 w' => ∃ (x5_1 : Int) (x10_1 : Int), v5 = .int .i64 x5_1 ∧ v10 = .int .i64 x10_1 ∧ Aside0 (bulletin_Current.l0 kq a1 x5_1 l0 (l0.length : Int) x10_1 = some r) ∧ Aside0 (kq ≤ k) ∧ Aside0 (Below w.heap.size w w'))
 case atStart => exact ⟨(0), (0), (by first | rfl | (simp; done) | (simp [*]; done)), (by first | rfl | (simp; done) | (simp [*]; done)), H', ⟨Nat.le_refl _⟩, ⟨by repeat (first | (with_reducible first | exact HB.out | apply below_alloc | apply pw_below_drewN | apply below_drew1) | exact HB.out)⟩⟩
 case round =>
  clear H'
  try clear c1
  try clear p2
  obtain ⟨x5_1, x10_1, rfl, rfl, HA, HK1, HB⟩ := hrel
  cases gk with
  | zero => exact absurd HA.out (by simp [bulletin_Current.l0])
  | succ k1 =>
   have H := HA.out
   clear HA
   simp only [bulletin_Current.l0] at H
   by_cases c3 : x10_1 < (l0.length : Int)
   ·rw [if_pos c3] at H
    have c3b0 : decide (x10_1 < (l0.length : Int)) = true := decide_eq_true c3
    clear c3
    by_cases c4 : 0 ≤ x10_1
    ·rw [if_pos c4] at H
     have c4b0 : decide (0 ≤ x10_1) = true := decide_eq_true c4
     clear c4
     by_cases c5 : x10_1 < (l0.length : Int)
     ·rw [if_pos c5] at H
      have c5b0 : decide (x10_1 < (l0.length : Int)) = true := decide_eq_true c5
      clear c5
      by_cases c6 : ((rd_T31 l0 x10_1).f1.f0) ≤ a1
      ·rw [if_pos c6] at H
       have c6b0 : decide (((rd_T31 l0 x10_1).f1.f0) ≤ a1) = true := decide_eq_true c6
       clear c6
       by_cases c7 : a1 < ((rd_T31 l0 x10_1).f1.f1)
       ·rw [if_pos c7] at H
        have c7b0 : decide (a1 < ((rd_T31 l0 x10_1).f1.f1)) = true := decide_eq_true c7
        clear c7
        obtain ⟨ji8, hji8⟩ : ∃ j_ : Int, (mx x5_1 ((rd_T31 l0 x10_1).f0)) = j_ := ⟨_, rfl⟩
        replace H : (bulletin_Current.l0 k1 a1 ji8 l0 (l0.length : Int) (wrap64 (x10_1 + 1))) = some r := by first | (rw [hji8] at H; exact H) | (simp only [hji8] at H ⊢; exact H)
        have hji8_ : (if x5_1 < ((rd_T31 l0 x10_1).f0) then ((rd_T31 l0 x10_1).f0) else x5_1) = ji8 := hji8
        have H' := Aside0.mk H
        clear H
        have p126 : 0 ≤ (x10_1 : Int) := of_decide_eq_true (by first | (with_reducible assumption) | assumption)
        have q126 : x10_1 < (l0.length : Int) := of_decide_eq_true (by first | (with_reducible assumption) | assumption)
        obtain ⟨ad126, A126_5, c126_5, e126, hx126_0, hx126_1, hx126_2, hx126_3, hx126_4, hx126_5, hx126_6, hl126_5, hi126_5⟩ := at_T31 HR0.out x10_1 p126 q126
        cases e126
        replace hx126_0 := (HB.out.cell (World.block_lt_of_cell? w _ hx126_0)).trans hx126_0
        replace hx126_1 := (HB.out.cell (World.block_lt_of_cell? w _ hx126_1)).trans hx126_1
        replace hx126_2 := (HB.out.cell (World.block_lt_of_cell? w _ hx126_2)).trans hx126_2
        replace hx126_3 := (HB.out.cell (World.block_lt_of_cell? w _ hx126_3)).trans hx126_3
        replace hx126_4 := (HB.out.cell (World.block_lt_of_cell? w _ hx126_4)).trans hx126_4
        replace hx126_5 := (HB.out.cell (World.block_lt_of_cell? w _ hx126_5)).trans hx126_5
        replace hx126_6 := (HB.out.cell (World.block_lt_of_cell? w _ hx126_6)).trans hx126_6
        have HR126_5 := Aside0.mk hi126_5
        have HC126_5 := Aside0.mk hl126_5
        clear hi126_5 hl126_5
        replace p126 := eq_true p126
        replace q126 := eq_true q126
        go_wp2_with (first | ((with_reducible refine gate_dst (N := 7) rfl ?_); refine box_event ?hg (N := 7) ?hd (cs := #[.int .i64 0, .int .i64 0, .int .i64 0, .int .i64 0, .int .i64 0, .slice none 0 0, .int .i64 0]) (t := 31) ?hr ?_; (case hd => rfl); (case hg => rfl); (case hr => first | (go_simp; done) | (go_simp; rfl)); intro gb127 hg w9 hbox hb; have n0_ := Aside0.mk (below_step (by repeat (first | (with_reducible first | exact HB.out | apply below_alloc | apply pw_below_drewN | apply below_drew1) | exact HB.out)) hb); have n1_ := Aside0.mk (hbox); have n2_ := Aside0.mk ((by rw [hg]; exact (below_size (by repeat (first | (with_reducible first | exact HB.out | apply below_alloc | apply pw_below_drewN | apply below_drew1) | exact HB.out))) : w.heap.size ≤ gb127)); have n3_ := Aside0.mk ((by rw [hg]; exact (below_size (by repeat (first | (with_reducible first | exact HB.out | apply below_alloc | apply pw_below_drewN | apply below_drew1) | exact HB.out))) : w.heap.size ≤ gb127)); clear HB; have HB := n0_; have BK127 := n1_; have GW127 := n2_; have GE127 := n3_; clear n0_ n1_ n2_ n3_; clear hb hbox hg; have hcz10_0 : w9.cell? ⟨gb127, 0, none⟩ = some (.int .i64 0) := (blk_cell BK127.out 0).trans rfl; have hcz10_1 : w9.cell? ⟨gb127, 1, none⟩ = some (.int .i64 0) := (blk_cell BK127.out 1).trans rfl; have hcz10_2 : w9.cell? ⟨gb127, 2, none⟩ = some (.int .i64 0) := (blk_cell BK127.out 2).trans rfl; have hcz10_3 : w9.cell? ⟨gb127, 3, none⟩ = some (.int .i64 0) := (blk_cell BK127.out 3).trans rfl; have hcz10_4 : w9.cell? ⟨gb127, 4, none⟩ = some (.int .i64 0) := (blk_cell BK127.out 4).trans rfl; have hcz10_5 : w9.cell? ⟨gb127, 5, none⟩ = some (.slice none 0 0) := (blk_cell BK127.out 5).trans rfl; have hcz10_6 : w9.cell? ⟨gb127, 6, none⟩ = some (.int .i64 0) := (blk_cell BK127.out 6).trans rfl; have hfz10_0 := blk_frozen BK127.out 0; have hfz10_1 := blk_frozen BK127.out 1; have hfz10_2 := blk_frozen BK127.out 2; have hfz10_3 := blk_frozen BK127.out 3; have hfz10_4 := blk_frozen BK127.out 4; have hfz10_5 := blk_frozen BK127.out 5; have hfz10_6 := blk_frozen BK127.out 6))
        go_roundg k1
        case measure => have := HK1.out; omega
        case rel => exact ⟨(ji8), (wrap64 (x10_1 + 1)), (by first | rfl | (simp; done) | (simp only [← hji8] <;> (first | rfl | simp)) | (simp [*]; done)), (by first | rfl | (simp; done) | (simp [*]; done)), H', ⟨by have := HK1.out; omega⟩, ⟨by repeat (first | (with_reducible first | exact HB.out | apply below_alloc | apply pw_below_drewN | apply below_drew1 | refine below_set ?_ GE127.out) | exact HB.out)⟩⟩
       ·rw [if_neg c7] at H
        have c7b0 : decide (a1 < ((rd_T31 l0 x10_1).f1.f1)) = false := decide_eq_false c7
        clear c7
        have H' := Aside0.mk H
        clear H
        have p126 : 0 ≤ (x10_1 : Int) := of_decide_eq_true (by first | (with_reducible assumption) | assumption)
        have q126 : x10_1 < (l0.length : Int) := of_decide_eq_true (by first | (with_reducible assumption) | assumption)
        obtain ⟨ad126, A126_5, c126_5, e126, hx126_0, hx126_1, hx126_2, hx126_3, hx126_4, hx126_5, hx126_6, hl126_5, hi126_5⟩ := at_T31 HR0.out x10_1 p126 q126
        cases e126
        replace hx126_0 := (HB.out.cell (World.block_lt_of_cell? w _ hx126_0)).trans hx126_0
        replace hx126_1 := (HB.out.cell (World.block_lt_of_cell? w _ hx126_1)).trans hx126_1
        replace hx126_2 := (HB.out.cell (World.block_lt_of_cell? w _ hx126_2)).trans hx126_2
        replace hx126_3 := (HB.out.cell (World.block_lt_of_cell? w _ hx126_3)).trans hx126_3
        replace hx126_4 := (HB.out.cell (World.block_lt_of_cell? w _ hx126_4)).trans hx126_4
        replace hx126_5 := (HB.out.cell (World.block_lt_of_cell? w _ hx126_5)).trans hx126_5
        replace hx126_6 := (HB.out.cell (World.block_lt_of_cell? w _ hx126_6)).trans hx126_6
        have HR126_5 := Aside0.mk hi126_5
        have HC126_5 := Aside0.mk hl126_5
        clear hi126_5 hl126_5
        replace p126 := eq_true p126
        replace q126 := eq_true q126
        go_wp2_with (first | ((with_reducible refine gate_dst (N := 7) rfl ?_); refine box_event ?hg (N := 7) ?hd (cs := #[.int .i64 0, .int .i64 0, .int .i64 0, .int .i64 0, .int .i64 0, .slice none 0 0, .int .i64 0]) (t := 31) ?hr ?_; (case hd => rfl); (case hg => rfl); (case hr => first | (go_simp; done) | (go_simp; rfl)); intro gb127 hg w11 hbox hb; have n0_ := Aside0.mk (below_step (by repeat (first | (with_reducible first | exact HB.out | apply below_alloc | apply pw_below_drewN | apply below_drew1) | exact HB.out)) hb); have n1_ := Aside0.mk (hbox); have n2_ := Aside0.mk ((by rw [hg]; exact (below_size (by repeat (first | (with_reducible first | exact HB.out | apply below_alloc | apply pw_below_drewN | apply below_drew1) | exact HB.out))) : w.heap.size ≤ gb127)); have n3_ := Aside0.mk ((by rw [hg]; exact (below_size (by repeat (first | (with_reducible first | exact HB.out | apply below_alloc | apply pw_below_drewN | apply below_drew1) | exact HB.out))) : w.heap.size ≤ gb127)); clear HB; have HB := n0_; have BK127 := n1_; have GW127 := n2_; have GE127 := n3_; clear n0_ n1_ n2_ n3_; clear hb hbox hg; have hcz12_0 : w11.cell? ⟨gb127, 0, none⟩ = some (.int .i64 0) := (blk_cell BK127.out 0).trans rfl; have hcz12_1 : w11.cell? ⟨gb127, 1, none⟩ = some (.int .i64 0) := (blk_cell BK127.out 1).trans rfl; have hcz12_2 : w11.cell? ⟨gb127, 2, none⟩ = some (.int .i64 0) := (blk_cell BK127.out 2).trans rfl; have hcz12_3 : w11.cell? ⟨gb127, 3, none⟩ = some (.int .i64 0) := (blk_cell BK127.out 3).trans rfl; have hcz12_4 : w11.cell? ⟨gb127, 4, none⟩ = some (.int .i64 0) := (blk_cell BK127.out 4).trans rfl; have hcz12_5 : w11.cell? ⟨gb127, 5, none⟩ = some (.slice none 0 0) := (blk_cell BK127.out 5).trans rfl; have hcz12_6 : w11.cell? ⟨gb127, 6, none⟩ = some (.int .i64 0) := (blk_cell BK127.out 6).trans rfl; have hfz12_0 := blk_frozen BK127.out 0; have hfz12_1 := blk_frozen BK127.out 1; have hfz12_2 := blk_frozen BK127.out 2; have hfz12_3 := blk_frozen BK127.out 3; have hfz12_4 := blk_frozen BK127.out 4; have hfz12_5 := blk_frozen BK127.out 5; have hfz12_6 := blk_frozen BK127.out 6))
        go_roundg k1
        case measure => have := HK1.out; omega
        case rel => exact ⟨(x5_1), (wrap64 (x10_1 + 1)), (by first | rfl | (simp; done) | (simp [*]; done)), (by first | rfl | (simp; done) | (simp [*]; done)), H', ⟨by have := HK1.out; omega⟩, ⟨by repeat (first | (with_reducible first | exact HB.out | apply below_alloc | apply pw_below_drewN | apply below_drew1 | refine below_set ?_ GE127.out) | exact HB.out)⟩⟩
      ·rw [if_neg c6] at H
       have c6b0 : decide (((rd_T31 l0 x10_1).f1.f0) ≤ a1) = false := decide_eq_false c6
       clear c6
       have H' := Aside0.mk H
       clear H
       have p126 : 0 ≤ (x10_1 : Int) := of_decide_eq_true (by first | (with_reducible assumption) | assumption)
       have q126 : x10_1 < (l0.length : Int) := of_decide_eq_true (by first | (with_reducible assumption) | assumption)
       obtain ⟨ad126, A126_5, c126_5, e126, hx126_0, hx126_1, hx126_2, hx126_3, hx126_4, hx126_5, hx126_6, hl126_5, hi126_5⟩ := at_T31 HR0.out x10_1 p126 q126
       cases e126
       replace hx126_0 := (HB.out.cell (World.block_lt_of_cell? w _ hx126_0)).trans hx126_0
       replace hx126_1 := (HB.out.cell (World.block_lt_of_cell? w _ hx126_1)).trans hx126_1
       replace hx126_2 := (HB.out.cell (World.block_lt_of_cell? w _ hx126_2)).trans hx126_2
       replace hx126_3 := (HB.out.cell (World.block_lt_of_cell? w _ hx126_3)).trans hx126_3
       replace hx126_4 := (HB.out.cell (World.block_lt_of_cell? w _ hx126_4)).trans hx126_4
       replace hx126_5 := (HB.out.cell (World.block_lt_of_cell? w _ hx126_5)).trans hx126_5
       replace hx126_6 := (HB.out.cell (World.block_lt_of_cell? w _ hx126_6)).trans hx126_6
       have HR126_5 := Aside0.mk hi126_5
       have HC126_5 := Aside0.mk hl126_5
       clear hi126_5 hl126_5
       replace p126 := eq_true p126
       replace q126 := eq_true q126
       go_wp2_with (first | ((with_reducible refine gate_dst (N := 7) rfl ?_); refine box_event ?hg (N := 7) ?hd (cs := #[.int .i64 0, .int .i64 0, .int .i64 0, .int .i64 0, .int .i64 0, .slice none 0 0, .int .i64 0]) (t := 31) ?hr ?_; (case hd => rfl); (case hg => rfl); (case hr => first | (go_simp; done) | (go_simp; rfl)); intro gb127 hg w13 hbox hb; have n0_ := Aside0.mk (below_step (by repeat (first | (with_reducible first | exact HB.out | apply below_alloc | apply pw_below_drewN | apply below_drew1) | exact HB.out)) hb); have n1_ := Aside0.mk (hbox); have n2_ := Aside0.mk ((by rw [hg]; exact (below_size (by repeat (first | (with_reducible first | exact HB.out | apply below_alloc | apply pw_below_drewN | apply below_drew1) | exact HB.out))) : w.heap.size ≤ gb127)); have n3_ := Aside0.mk ((by rw [hg]; exact (below_size (by repeat (first | (with_reducible first | exact HB.out | apply below_alloc | apply pw_below_drewN | apply below_drew1) | exact HB.out))) : w.heap.size ≤ gb127)); clear HB; have HB := n0_; have BK127 := n1_; have GW127 := n2_; have GE127 := n3_; clear n0_ n1_ n2_ n3_; clear hb hbox hg; have hcz14_0 : w13.cell? ⟨gb127, 0, none⟩ = some (.int .i64 0) := (blk_cell BK127.out 0).trans rfl; have hcz14_1 : w13.cell? ⟨gb127, 1, none⟩ = some (.int .i64 0) := (blk_cell BK127.out 1).trans rfl; have hcz14_2 : w13.cell? ⟨gb127, 2, none⟩ = some (.int .i64 0) := (blk_cell BK127.out 2).trans rfl; have hcz14_3 : w13.cell? ⟨gb127, 3, none⟩ = some (.int .i64 0) := (blk_cell BK127.out 3).trans rfl; have hcz14_4 : w13.cell? ⟨gb127, 4, none⟩ = some (.int .i64 0) := (blk_cell BK127.out 4).trans rfl; have hcz14_5 : w13.cell? ⟨gb127, 5, none⟩ = some (.slice none 0 0) := (blk_cell BK127.out 5).trans rfl; have hcz14_6 : w13.cell? ⟨gb127, 6, none⟩ = some (.int .i64 0) := (blk_cell BK127.out 6).trans rfl; have hfz14_0 := blk_frozen BK127.out 0; have hfz14_1 := blk_frozen BK127.out 1; have hfz14_2 := blk_frozen BK127.out 2; have hfz14_3 := blk_frozen BK127.out 3; have hfz14_4 := blk_frozen BK127.out 4; have hfz14_5 := blk_frozen BK127.out 5; have hfz14_6 := blk_frozen BK127.out 6))
       go_roundg k1
       case measure => have := HK1.out; omega
       case rel => exact ⟨(x5_1), (wrap64 (x10_1 + 1)), (by first | rfl | (simp; done) | (simp [*]; done)), (by first | rfl | (simp; done) | (simp [*]; done)), H', ⟨by have := HK1.out; omega⟩, ⟨by repeat (first | (with_reducible first | exact HB.out | apply below_alloc | apply pw_below_drewN | apply below_drew1 | refine below_set ?_ GE127.out) | exact HB.out)⟩⟩
     ·rw [if_neg c5] at H
      exact absurd H (by simp)
    ·rw [if_neg c4] at H
     exact absurd H (by simp)
   ·rw [if_neg c3] at H
    have c3b0 : decide (x10_1 < (l0.length : Int)) = false := decide_eq_false c3
    clear c3
    obtain rfl := Option.some.inj H
    go_wp2
    go_ret
    exact ⟨by first | rfl | (simp [errW_none, errW_some] <;> rfl) | (simp [*, errW_none, errW_some] <;> rfl), by repeat (first | (with_reducible first | exact HB.out | apply below_alloc | apply pw_below_drewN | apply below_drew1) | exact HB.out)⟩

-- NOT PRINTED: function 33 (bulletin_greatest)

/-! ### bulletin_Worst: function 21 -/
theorem wrap_id {x : Int} (h : -9223372036854775808 ≤ x ∧ x ≤ 9223372036854775807) : wrap64 x = x := by unfold wrap64; omega
theorem wS (j n : Nat) (h : n ≤ 9223372036854775807) (hj : j < n) : wrap64 ((j : Int) + 1) = ((j + 1 : Nat) : Int) := by rw [wrap_id (by omega)]; rfl
def covB (b : S31) (t : Int) : Bool := decide (b.f1.f0 ≤ t ∧ t < b.f1.f1)
/-- The greatest version of the first k bulletins that cover t. -/
def curTo (l : List S31) (t : Int) : Nat → Int
 | 0 => 0
 | k + 1 => if covB (rd_T31 l k) t = true then mx (curTo l t k) (rd_T31 l k).f0 else curTo l t k
def curV (l : List S31) (t : Int) : Int := curTo l t l.length
theorem cur_l0 (l : List S31) (t : Int) (hl : l.length ≤ 9223372036854775807) (d : Nat) : ∀ j : Nat, l.length - j = d → j ≤ l.length → Ev (fun k => bulletin_Current.l0 k t (curTo l t j) l l.length j) (curV l t) := by
 induction d with
 | zero =>
  intro j hd hj
  obtain rfl : j = l.length := by omega
  refine Ev.step (fun k => by rw [bulletin_Current.l0, if_neg (by omega)]) ?_
  exact Ev.now _
 | succ d ih =>
  intro j hd hj
  have hn := ih (j + 1) (by omega) (by omega)
  by_cases h1 : (rd_T31 l j).f1.f0 ≤ t
  ·by_cases h2 : t < (rd_T31 l j).f1.f1
   ·have hc : curTo l t (j + 1) = mx (curTo l t j) (rd_T31 l j).f0 := by rw [curTo, if_pos (by simp [covB, h1, h2])]
    rw [hc] at hn
    exact Ev.step (fun k => by rw [bulletin_Current.l0, if_pos (by omega), if_pos (by omega), if_pos (by omega), if_pos h1, if_pos h2, wS j _ hl (by omega)]) hn
   ·have hc : curTo l t (j + 1) = curTo l t j := by rw [curTo, if_neg (by simp [covB, h2])]
    rw [hc] at hn
    exact Ev.step (fun k => by rw [bulletin_Current.l0, if_pos (by omega), if_pos (by omega), if_pos (by omega), if_pos h1, if_neg h2, wS j _ hl (by omega)]) hn
  ·have hc : curTo l t (j + 1) = curTo l t j := by rw [curTo, if_neg (by simp [covB, h1])]
   rw [hc] at hn
   exact Ev.step (fun k => by rw [bulletin_Current.l0, if_pos (by omega), if_pos (by omega), if_pos (by omega), if_neg h1, wS j _ hl (by omega)]) hn
theorem cur_ev (l : List S31) (t : Int) (hl : l.length ≤ 9223372036854775807) : Ev (fun k => bulletin_Current.f k l t) (curV l t) := cur_l0 l t hl l.length 0 (by omega) (by omega)
theorem cur_calls (A : Option Addr) (c : Nat) (l : List S31) (t : Int) (w : World) (hr : Kd.C k31 w A l.length l) (hc : l.length ≤ c) :
  Calls Try.prog 17 #[.slice A l.length c, .int .i64 t] w fun e w' => e = .returned (.int .i64 (curV l t)) ∧ Below w.heap.size w w' := by
 obtain ⟨k, hk⟩ := (cur_ev l t hr.2.1).rounds
 exact bulletin_Current.calls k A c l t _ w hr hc hk
/-- The greatest level of the first k bulletins of version v that cover t and meet m. -/
def grTo (m : S31 → Bool) (v t : Int) (l : List S31) : Nat → Int
 | 0 => 0
 | k + 1 => if (rd_T31 l k).f0 = v ∧ covB (rd_T31 l k) t = true ∧ m (rd_T31 l k) = true then mx (grTo m v t l k) (rd_T31 l k).f5 else grTo m v t l k
def grV (m : S31 → Bool) (l : List S31) (t : Int) : Int := grTo m (curV l t) t l l.length
theorem gr_no {m : S31 → Bool} {v t : Int} {l : List S31} {k : Nat} (h : ¬ ((rd_T31 l k).f0 = v ∧ covB (rd_T31 l k) t = true ∧ m (rd_T31 l k) = true)) : grTo m v t l (k + 1) = grTo m v t l k := by rw [grTo, if_neg h]
theorem gr_yes {m : S31 → Bool} {v t : Int} {l : List S31} {k : Nat} (h : (rd_T31 l k).f0 = v ∧ covB (rd_T31 l k) t = true ∧ m (rd_T31 l k) = true) : grTo m v t l (k + 1) = mx (grTo m v t l k) (rd_T31 l k).f5 := by rw [grTo, if_pos h]
def allB (b : S31) : Bool := true
set_option maxHeartbeats 400000 in
theorem clo34 (x : S31) (A5 : Option Addr) (c5 : Nat) (w : World) :
  Calls Try.prog 34 #[.agg #[.int .i64 x.f0, .int .i64 x.f1.f0, .int .i64 x.f1.f1, .int .i64 x.f2, .int .i64 x.f3, .slice A5 x.f4.length c5, .int .i64 x.f5]] w fun e w' => e = .returned (.bool true) ∧ Below w.heap.size w w' := by
 have hb : Below w.heap.size w w := Below.refl _ _
 go_enter Try.func34, Try.ntmps34
 go_wp2
 go_ret
 exact ⟨rfl, by repeat (first | (with_reducible first | exact hb | apply below_alloc))⟩
set_option maxHeartbeats 2000000 in
set_option maxRecDepth 100000 in
theorem gr34 (A : Option Addr) (c : Nat) (l : List S31) (t : Int) (w : World) (hr : Kd.C k31 w A l.length l) (hc : l.length ≤ c) :
  Calls Try.prog 33 #[.slice A l.length c, .int .i64 t, .func (.func 34) #[] #[]] w fun e w' => e = .returned (.int .i64 (grV allB l t)) ∧ Below w.heap.size w w' := by
 have hu31 := Try.underlying31
 have hl : l.length ≤ 9223372036854775807 := hr.2.1
 have HR := Aside0.mk hr
 have HC := Aside0.mk hc
 have C17 := Aside0.mk (cur_calls A c l t w hr hc)
 clear hr hc
 go_enter Try.func33, Try.ntmps33
 go_wp2_with (go_at_call 17; (with_reducible refine C17.out.mono ?_); rintro e w' ⟨rfl, hb⟩; have HB := Aside0.mk hb; clear hb)
 go_loopw [8, 16] (fun v8 v16 wr => ∃ k : Nat, k ≤ l.length ∧ v16 = .int .i64 k ∧ v8 = .int .i64 (grTo allB (curV l t) t l k) ∧ Aside0 (Below w.heap.size w wr)) (fun _ v16 _ => l.length - (intOf v16).toNat)
 case atStart => exact ⟨0, Nat.zero_le _, rfl, rfl, HB⟩
 case round =>
  clear HB
  obtain ⟨k, hk, rfl, rfl, HB⟩ := hrel
  by_cases hlt : k < l.length
  ·obtain ⟨ad, A5, c5, rfl, x0, x1, x2, x3, x4, x5, x6, hlc, hin⟩ := at_T31 HR.out (k : Int) (by omega) (by omega)
   rw [Int.toNat_natCast] at x0 x1 x2 x3 x4 x5 x6
   replace x0 := (HB.out.cell (World.block_lt_of_cell? w _ x0)).trans x0
   replace x1 := (HB.out.cell (World.block_lt_of_cell? w _ x1)).trans x1
   replace x2 := (HB.out.cell (World.block_lt_of_cell? w _ x2)).trans x2
   replace x3 := (HB.out.cell (World.block_lt_of_cell? w _ x3)).trans x3
   replace x4 := (HB.out.cell (World.block_lt_of_cell? w _ x4)).trans x4
   replace x5 := (HB.out.cell (World.block_lt_of_cell? w _ x5)).trans x5
   replace x6 := (HB.out.cell (World.block_lt_of_cell? w _ x6)).trans x6
   clear hin hlc
   by_cases h0 : (rd_T31 l k).f0 = curV l t
   ·by_cases h1 : (rd_T31 l k).f1.f0 ≤ t
    ·by_cases h2 : t < (rd_T31 l k).f1.f1
     ·have hcv : covB (rd_T31 l k) t = true := by simp [covB, h1, h2]
      have hg := Aside0.mk (gr_yes (m := allB) (v := curV l t) (t := t) (l := l) (k := k) ⟨h0, hcv, rfl⟩)
      have h0b : ((rd_T31 l k).f0 == curV l t) = true := beq_iff_eq.2 h0
      clear h0 hcv
      go_wp2_with (go_at_call 34; (with_reducible refine (clo34 (rd_T31 l k) A5 c5 _).mono ?_); rintro e w2 ⟨rfl, hb2⟩; have y6 : w2.cell? ⟨wr.heap.size, 6, none⟩ = some (.int .i64 (rd_T31 l k).f5) := (hb2.cell (p := ⟨wr.heap.size, 6, none⟩) (by simp)).trans (by simp); have HB2 := Aside0.mk (below_step (below_alloc HB.out _) hb2); clear hb2)
      exact ⟨⟨k + 1, hlt, rfl, by rw [hg.out]; rfl, HB2⟩, by simp [intOf]; omega⟩
     ·have hg := Aside0.mk (gr_no (m := allB) (v := curV l t) (t := t) (l := l) (k := k) (fun h => by have := h.2.1; simp [covB, h2] at this))
      have h0b : ((rd_T31 l k).f0 == curV l t) = true := beq_iff_eq.2 h0
      have h2' : (rd_T31 l k).f1.f1 ≤ t := by omega
      clear h0 h2
      go_wp2
      exact ⟨⟨k + 1, hlt, rfl, by rw [hg.out], ⟨by repeat (first | (with_reducible first | exact HB.out | apply below_alloc))⟩⟩, by simp [intOf]; omega⟩
    ·have hg := Aside0.mk (gr_no (m := allB) (v := curV l t) (t := t) (l := l) (k := k) (fun h => by have := h.2.1; simp [covB, h1] at this))
     have h0b : ((rd_T31 l k).f0 == curV l t) = true := beq_iff_eq.2 h0
     have h1' : t < (rd_T31 l k).f1.f0 := by omega
     clear h0 h1
     go_wp2
     exact ⟨⟨k + 1, hlt, rfl, by rw [hg.out], ⟨by repeat (first | (with_reducible first | exact HB.out | apply below_alloc))⟩⟩, by simp [intOf]; omega⟩
   ·have hg := Aside0.mk (gr_no (m := allB) (v := curV l t) (t := t) (l := l) (k := k) (fun h => h0 h.1))
    have h0b : ((rd_T31 l k).f0 == curV l t) = false := beq_eq_false_iff_ne.2 h0
    clear h0
    go_wp2
    exact ⟨⟨k + 1, hlt, rfl, by rw [hg.out], ⟨by repeat (first | (with_reducible first | exact HB.out | apply below_alloc))⟩⟩, by simp [intOf]; omega⟩
  ·obtain rfl : k = l.length := by omega
   go_wp2
   go_ret
   exact ⟨rfl, HB.out⟩
def bulletin_Worst.f (l0 : List S31) (a1 : Int) : Option Int := some (grV allB l0 a1)
set_option maxHeartbeats 400000 in
theorem bulletin_Worst.calls (A0 : Option Addr) (c0 : Nat) (l0 : List (S31)) (a1 : Int) (r : Int) (w : World) (hr0 : Kd.C k31 w A0 l0.length l0) (hc0 : l0.length ≤ c0) (h : bulletin_Worst.f l0 a1 = some r) :
  Calls Try.prog 21 #[.slice A0 l0.length c0, .int .i64 a1] w fun e w' => e = .returned (.int .i64 r) ∧ Below w.heap.size w w' := by
 obtain rfl := Option.some.inj h
 have C := Aside0.mk (gr34 A0 c0 l0 a1 w hr0 hc0)
 clear hr0 hc0 h
 go_enter Try.func21, Try.ntmps21
 go_wp2_with (go_at_call 33; (with_reducible refine C.out.mono ?_); rintro e w' ⟨rfl, hb⟩; have HB := Aside0.mk hb; clear hb)
 go_ret
 exact ⟨rfl, HB.out⟩

end Go.Proofs.Ytibmbffhlicpaaa.A
